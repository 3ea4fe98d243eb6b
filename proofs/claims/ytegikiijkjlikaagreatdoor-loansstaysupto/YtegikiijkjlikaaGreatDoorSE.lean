/- Part 5. -/
import Derived.Test.YtegikiijkjlikaaGreatDoorSD
import Derived.Test.YtegikiijkjlikaaGreatDoorSC
import Derived.RecoverIn
import Derived.Test.YtegikiijkjlikaaGreatDoorProg
import Derived.Lib.SlTrimSet
import Derived.TacticsInMore
set_option linter.defProp false
set_option linter.unusedSimpArgs false
set_option linter.unusedVariables false
set_option linter.unusedSectionVars false
namespace Go.AM
abbrev Qv:Sl Int:=Sl.nil
def Q8:true=true:=rfl
def Q5:(7:Nat)<=7:=by decide
def P0:(2:Nat)<=2:=by decide
noncomputable abbrev Aq3:=Go.Proofs.Tryz.prog.funcs
def Ar0:=@And.intro
def As2:=@BitVec.getLsbD_and
def At9:=@Bool.eq_iff_iff
def Av9:=@BitVec.eq_of_getLsbD_eq
def AE9:=@BitVec.getLsbD_ushiftRight
def AF0:=@BitVec.getLsbD_one
def AF6:=@BitVec.getLsbD_shiftLeft
def AF9:=@BitVec.getLsbD_setWidth
def AH1:=@BitVec.getLsbD_ofBool
def AI8:=@BitVec.toNat_ofNat
theorem Dl (D:List Deferred)(a:Act)(d:Option Tmp)(v:Value):(IK D a).put d v=IK D (a.put d v):=by cases d<;>rfl
theorem Dm {F:Fence}{n:Nat}{P:Program}{ops:Array Oper}{Q:Exit->Act->World->Prop}(D:List Deferred):∀(l:List Nat) (a:Act) (w:World),wpOpsIn F n P ops Q l a w ->
 wpOpsIn F n P ops (fun e a' w'=>∃a0,a' = IK D a0/\Q e a0 w') l (IK D a) w
 |[],a,w,h=>⟨a,rfl,h⟩
 |i::l,a,w,h=>by
  have ih:=Dm (F:=F) (n:=n) (P:=P) (ops:=ops) (Q:=Q) D l;simp only[wpOpsIn]at h⊢;have e1:(IK D a).eval=a.eval:=by funext x;cases x<;>rfl
  have e2:(IK D a).tmps=a.tmps:=rfl;cases j:ops[i]? with
  |none=>simp only[j]at h⊢;exact ih a w h
  |some o=>
   simp only[j]at h⊢;rw[e2,e1];by_cases hw:Region.wanted o (yielded ops a.tmps)=true
   .rw[Nd hw]at h⊢;refine⟨by rw[e1];exact h.1,?_⟩;have b:=h.2;rw[e1];generalize (o.semAt F.round a.eval).run P w=r at b;unfold Oper.uponIn at b⊢;split at b
    .rw[Dl];exact ih _ _ b
    .rw[Dl];exact ih _ _ b
    .exact ih _ _ b |> fun x=>by
      rename_i d w'
      have:({ (IK D a)with defers:=d::(IK D a).defers }:Act).put o.dst undef=IK D (({ a with defers:=d::a.defers }:Act).put o.dst undef):=by rw[<- Dl];rfl
      rw[this];exact x
    .refine⟨b.1,b.2.mono ?_⟩;intro e w' f;cases e with
     |returned v=>have:=ih _ _ f;rw[<- Dl]at this;exact this
     |panicked ch=>exact⟨a,rfl,f⟩
     |outgrown=>obtain⟨a1,w1,g⟩:=f;exact⟨IK D a1,w1,a1,rfl,g⟩
    .refine⟨b.1,fun c cs m=>?_⟩;obtain⟨v,w',g1,g2⟩:=b.2 c cs m;exact⟨v,w',by have:=ih _ _ g1;rw[<- Dl]at this;exact this,g2⟩
    .refine⟨b.1,b.2.mono ?_⟩;intro e w' f;cases e with
     |returned v=>have:=ih _ _ f;rw[<- Dl]at this;exact this
     |panicked ch=>exact⟨a,rfl,f⟩
     |outgrown=>obtain⟨a1,w1,g⟩:=f;exact⟨IK D a1,w1,a1,rfl,g⟩
    .exact⟨a,rfl,b⟩
    exact b.elim
   rw[Nf hw]at h⊢;rw[Dl];exact⟨h.1,ih _ _ h.2⟩
section
variable {P:Program}{C:Ctx}{st:St}{rho:Nat->Value}
theorem Z8 {fn:Func}{R:Ending->World->Prop}{u:FrameMode}(c:u ≠ .run){tmps:Array Value}{D:List Deferred}(b:∀a w,Sat C st a w rho->a.tmps=tmps->LeavesInM Fence.wide 0 P fn tmps R D u w) :∀(ds:List Deferred) (a:Act) (w:World),a.defers=ds->a.tmps=tmps->Sat C st a w rho->LeavesInM Fence.wide 0 P fn tmps R (ds++D) u w
 |[],a,w,hd,ht,h=>b a w h ht
 |d::ds,a,w,hd,ht,h=>by obtain⟨r,w',h1,f,g⟩:=h.unmark hd;exact⟨c,.inl ⟨r,w',h1,f,Z8 c b ds { a with defers:=ds } w' rfl ht g⟩⟩
end
end Go.AM
namespace Go.AM
section
variable {P:Program}{n:Nat}{D:List Deferred}
def WPD (𝒢 : Prot P)(n:Nat)(D:List Deferred)(Q:H5)(e:Exit)(a:Act)(w:World):Prop:=∃a0,a=IK D a0/\WP 𝒢 n Q e a0 w
def MV (P:Program)(n:Nat)(D:List Deferred)(c:Code):Prop:=∀(𝒢 : Prot P) (Q:H5) (C:Ctx) (st:St) (a:Act) (w:World) (rho:Nat->Value),𝒢.G C->Sat C st a w rho->a.tmps.size=n->awp (BR P) P c Q st->c.wpIn (FW none) 0 P (WPD 𝒢 n D Q) (IK D a) w
theorem Ia {id:Nat}{ops:Array Oper}(b:O7 n (.region id ops false)=true):MV P n D (.region id ops false):=by
 intro 𝒢 Q C st a w rho d h c hw;simp only[O7]at b;simp only[awp,Ar1,Ni]at hw
 have:=Gr (ro:=none) b ops.toList 0 (by simp) (by simp) d h c hw
 exact wpIn_region (Dm D _ _ _ (by simpa using this))
theorem Qt {g:Operand}{ps:Array Tmp}{asg body:Code}(b:O7 n (.rangeFunc g ps asg body)=true):MV P n D (.rangeFunc g ps asg body):=by intro 𝒢 Q C st a w rho d h c hw;simp only[O7,Aq7]at b;exact HT D b.1.1 (Hk n asg b.1.2) (Hk n body b.2) (fun l h=>by cases h) d h c hw
theorem Jy {x y:Code}(hx:MV P n D x)(hy:MV P n D y):MV P n D (.seq x y):=by
 intro 𝒢 Q C st a w rho r h f hw;refine wpIn_seq (wpIn_mono (hx 𝒢 _ C st a w rho r h f hw) ?_);rintro e a' w' ⟨a0,rfl,b⟩;cases e with
 |normal=>obtain⟨C2,st2,rho2,g,i,c,j⟩:=b;obtain⟨C3,st3,rho3,m,o,d,q⟩:=NextOk.up g i c j;exact hy 𝒢 Q C3 st3 a0 w' rho3 m o d q
 |exit id=>exact⟨a0,rfl,b⟩
 |goto l=>exact⟨a0,rfl,b⟩
 |ret=>exact⟨a0,rfl,b⟩
 |panic ch=>exact⟨a0,rfl,b.mono fun x s h=>h⟩
 |outgrown=>exact b.elim
theorem Vw:MV P n D .ret:=fun 𝒢 Q C st a w rho c h b hw=>wpIn_ret ⟨a,rfl,C,st,rho,c,h,b,hw⟩
theorem Qu {id:Nat}{b:Code}(hb:MV P n D b):MV P n D (.block id b):=by
 intro 𝒢 Q C st a w rho q h o hw;refine wpIn_block (wpIn_mono (hb 𝒢 _ C st a w rho q h o hw) ?_);rintro e a' w' ⟨a0,rfl,d⟩;cases e with
 |normal=>exact⟨a0,rfl,d⟩
 |exit i=>
  simp only[Exit.inBlock];obtain⟨C2,st2,rho2,f,g,c,j⟩:=d;by_cases m:i=id
  .simp only[blk,m,Nh]at j;rw[Nd m];exact⟨a0,rfl,C2,st2,rho2,f,g,c,j⟩
  simp only[blk,m,Ni]at j;rw[Nf m];exact⟨a0,rfl,C2,st2,rho2,f,g,c,j⟩
 |goto l=>exact⟨a0,rfl,d⟩
 |ret=>exact⟨a0,rfl,d⟩
 |panic ch=>exact⟨a0,rfl,d.mono fun x s h=>h⟩
 |outgrown=>exact d.elim
end
end Go.AM
namespace Go.AM
section
variable {P:Program}{n:Nat}
def WPN (𝒢 : Prot P)(n:Nat)(Q:H5)(D:List Deferred)(e:Exit)(a:Act)(w:World):Prop:=WP 𝒢 n Q e a w/\(e=.normal \/ e=.ret->a.defers=D)
theorem LR {𝒢 : Prot P}{ops:Array Oper}{Q:H5}{D:List Deferred}{ro:Option Nat}(c:ops.toList.all (DH n ops.toList)=true):∀(l:List Oper) (i:Nat),ops.toList.drop i=l->i+l.length=ops.size->∀{C st a w rho},a.defers=D -> 𝒢.G C->Sat C st a w rho->a.tmps.size=n->EH (BR P) P ops.toList l Q st ->
 wpOpsIn (FW ro) 0 P ops (WPN 𝒢 n Q D) ((List.range ops.size).drop i) a w
 |[],i,hl,hi,C,st,a,w,rho,hD,g,h,b,hw=>by rw[Aw7 (by simp at hi⊢;omega)];exact⟨⟨C,st,rho,g,h,b,hw⟩,fun _=>hD⟩
 |o::l,i,hl,hi,C,st,a,w,rho,hD,g,h,b,hw=>by
  have m:i<ops.size:=by simp at hi;omega
  have f:(List.range ops.size).drop i=i::(List.range ops.size).drop (i+1):=by rw[Ax6 (by simpa using m)];simp
  rw[f];have d:ops.toList[i]? = some o:=by
   have:(ops.toList.drop i)[0]? = some o:=by rw[hl];rfl
   simpa using this
  have r:ops[i]? = some o:=by simpa using d
  have q : ops.toList.drop (i+1)=l:=by
   have:(ops.toList.drop i).drop 1=l:=by rw[hl];rfl
   rwa [AB1]at this
  have j:DH n ops.toList o=true:=by rw[Ar7]at c;exact c o (As4 d)
  simp only[wpOpsIn,r]
  have:=Hj (ro:=ro) (Q':=WPN 𝒢 n Q D) (next:=wpOpsIn (FW ro) 0 P ops (WPN 𝒢 n Q D) ((List.range ops.size).drop (i+1))) j (Jn c) g h b hw
   (fun a w e ⟨C,st,rho,g,h,b,hw⟩=>LR c l (i+1) q (by simp at hi⊢;omega) (e.trans hD) g h b hw) (fun chain a w h=>⟨h,fun e=>by rcases e with e|e<;>cases e⟩)
  exact this
def Ix (P:Program)(n:Nat)(c:Code):Prop:=∀(𝒢 : Prot P) (Q:H5) (C:Ctx) (st:St) (a:Act) (w:World) (rho:Nat->Value),𝒢.G C->Sat C st a w rho->a.tmps.size=n->awp (BR P) P c Q st->c.wpIn (FW none) 0 P (WPN 𝒢 n Q a.defers) a w
theorem AK {id:Nat}{ops:Array Oper}(b:O7 n (.region id ops false)=true):Ix P n (.region id ops false):=by
 intro 𝒢 Q C st a w rho d h c hw;simp only[O7]at b;simp only[awp,Ar1,Ni]at hw
 have:=LR (ro:=none) b ops.toList 0 (by simp) (by simp) rfl d h c hw
 exact wpIn_region (by simpa using this)
theorem Jz {x y:Code}(hx:Ix P n x)(hy:Ix P n y):Ix P n (.seq x y):=by
 intro 𝒢 Q C st a w rho s h f hw;refine wpIn_seq (wpIn_mono (hx 𝒢 _ C st a w rho s h f hw) ?_);rintro e a' w' ⟨b,r⟩;cases e with
 |normal=>
  obtain⟨C2,st2,rho2,g,i,c,j⟩:=b;obtain⟨C3,st3,rho3,m,o,d,q⟩:=NextOk.up g i c j
  have:=hy 𝒢 Q C3 st3 a' w' rho3 m o d q
  rw[r (.inl rfl)]at this;exact this
 |exit id=>exact⟨b,fun e=>by rcases e with e|e<;>cases e⟩
 |goto l=>exact⟨b,fun e=>by rcases e with e|e<;>cases e⟩
 |ret=>exact⟨b,r⟩
 |panic ch=>exact⟨b,fun e=>by rcases e with e|e<;>cases e⟩
 |outgrown=>exact b.elim
theorem Vx:Ix P n .ret:=fun 𝒢 Q C st a w rho c h b hw=>wpIn_ret ⟨⟨C,st,rho,c,h,b,hw⟩,fun _=>rfl⟩
theorem Ty:Ix P n .skip:=fun 𝒢 Q C st a w rho c h b hw=>wpIn_skip ⟨⟨C,st,rho,c,h,b,hw⟩,fun _=>rfl⟩
theorem Tz {c:Operand}{x y:Code}(hx:Ix P n x)(hy:Ix P n y):Ix P n (.cond c x y):=by
 intro 𝒢 Q C st a w rho f h d hw;obtain⟨b,hb,hw⟩:=hw;refine wpIn_cond (Vc h hb) ?_;cases b
 .exact hy 𝒢 Q C st a w rho f h d hw
 exact hx 𝒢 Q C st a w rho f h d hw
end
end Go.AM
namespace Go.AM
structure Aw where
 First:Int
 Last:Int
 deriving Inhabited,DecidableEq
abbrev Ib (x:Aw):List PV:=[(pI .i64 x.First),pI .i64 x.Last]
structure Qz where
 Plus:Int
 Minus:Int
 deriving Inhabited,DecidableEq
abbrev A0 (x:Qz):List PV:=[(pI .u32 x.Plus),pI .u32 x.Minus]
structure Bp where
 From:(Sl Qz)
 To:(Sl Qz)
 deriving Inhabited
abbrev J6 (x:Bp):List PV:=[(vSl 2 A0 x.From),vSl 2 A0 x.To]
structure Node where
 Parent:Int
 Name:Str
 deriving Inhabited,DecidableEq
inductive Pat where
 |nil
 |mk (Kind:Int) (Is:Qz) (Not:Bool) (Min:Int) (Max:Int) (n:Nat) (g:Nat->Pat)
instance:Inhabited Pat:=⟨.nil⟩
def Pat.Kind:Pat->Int
 |.nil=>0
 |.mk x _ _ _ _ _ _=>x
def Pat.Is:Pat->Qz
 |.nil=>default
 |.mk _ x _ _ _ _ _=>x
def Pat.Not:Pat->Bool
 |.nil=>false
 |.mk _ _ x _ _ _ _=>x
def Pat.Min:Pat->Int
 |.nil=>0
 |.mk _ _ _ x _ _ _=>x
def Pat.Max:Pat->Int
 |.nil=>0
 |.mk _ _ _ _ x _ _=>x
def Pat.L:Pat->Sl Pat
 |.nil=>⟨0,fun _=>.nil⟩
 |.mk _ _ _ _ _ n g=>⟨n,g⟩
def Dn:Pat->Nat->List PV
 |.nil=>fun _=>[]
 |.mk _ _ _ _ _ n g=>fun i=>[(pI .i64 (g i).Kind),pI .u32 (g i).Is.Plus,pI .u32 (g i).Is.Minus,.bb (g i).Not,pI .i64 (g i).Min,pI .i64 (g i).Max,.sl false 7 (g i).L.n (Dn (g i))]
abbrev B8 (x:Pat):List PV:=[(pI .i64 x.Kind),pI .u32 x.Is.Plus,pI .u32 x.Is.Minus,.bb x.Not,pI .i64 x.Min,pI .i64 x.Max,.sl false 7 x.L.n (Dn x)]
def AG (x:Pat):∀i,i<x.L.n->Dn x i=B8 (x.L.g i):=by
 cases x with
 |nil=>intro i a;exact Ng (show i<0 from a) (by omega)
 |mk Kind Is Not Min Max n g=>exact fun _ _=>rfl
structure Ap where
 From:Int
 Clear:Int
 Set:Qz
 Take:Int
 Of:Int
 deriving Inhabited,DecidableEq
abbrev Y7 (x:Ap):List PV:=[(pI .i64 x.From),pI .u32 x.Clear,pI .u32 x.Set.Plus,pI .u32 x.Set.Minus,pI .u32 x.Take,pI .i64 x.Of]
structure Law where
 Name:Str
 Left:Pat
 Right:Pat
 If:(Sl Qz)
 Out:(Sl Ap)
 Mode:Int
 deriving Inhabited
abbrev A5 (x:Law):List PV:=[(.str x.Name),pI .i64 x.Left.Kind,pI .u32 x.Left.Is.Plus,pI .u32 x.Left.Is.Minus,.bb x.Left.Not,pI .i64 x.Left.Min,pI .i64 x.Left.Max,.sl false 7 x.Left.L.n (Dn x.Left),pI .i64 x.Right.Kind,pI .u32 x.Right.Is.Plus,pI .u32 x.Right.Is.Minus,.bb x.Right.Not,pI .i64 x.Right.Min,pI .i64 x.Right.Max,.sl false 7 x.Right.L.n (Dn x.Right),vSl 2 A0 x.If,vSl 6 Y7 x.Out,pI .i64 x.Mode]
structure JA where
 Tree:(Sl Node)
 Laws:(Sl Law)
 On:(Sl (Sl Int))
 deriving Inhabited
structure MW where
 Law:Int
 Before:(Sl Qz)
 After:(Sl Qz)
 deriving Inhabited
abbrev Gy (x:MW):List PV:=[(pI .i64 x.Law),vSl 2 A0 x.Before,vSl 2 A0 x.After]
structure Form where
 Has:Bool
 W:(Sl Qz)
 deriving Inhabited
structure Entry where
 Gloss:Str
 Forms:(Sl Form)
 deriving Inhabited
inductive Part where
 |nil
 |sound (x:Qz) (no:Bool)
 |edge (e:Bool)
 |seq (n:Nat) (g:Nat->Part)
 |alt (n:Nat) (g:Nat->Part)
 |rep (o:Part) (mn mx:Int)
instance:Inhabited Part:=⟨.nil⟩
def Part.t:Part->Nat
 |.nil=>0
 |.sound _ _=>248
 |.edge _=>250
 |.seq _ _=>255
 |.alt _ _=>252
 |.rep _ _ _=>254
def Part.v:Part->PV
 |.nil=>.bb false
 |.sound x no=>.agg [pI .u32 x.Plus,pI .u32 x.Minus,.bb no]
 |.edge e=>.agg [.bb e]
 |.seq n g=>.agg [.sl false 1 n fun i=>[.iface (g i).t (g i).v]]
 |.alt n g=>.agg [.sl false 1 n fun i=>[.iface (g i).t (g i).v]]
 |.rep o mn mx=>.agg [.iface o.t o.v,pI .i64 mn,pI .i64 mx]
abbrev Eh (x:Part):PV:=.iface x.t x.v
abbrev CM (x:Part):List PV:=[Eh x]
structure Vy where
 is:Qz
 not:Bool
 deriving Inhabited,DecidableEq
abbrev Sj (x:Vy):List PV:=[(pI .u32 x.is.Plus),pI .u32 x.is.Minus,.bb x.not]
structure Ac6 where
 end_:Bool
 deriving Inhabited,DecidableEq
abbrev Ac7 (x:Ac6):List PV:=[(.bb x.end_)]
structure Palt where
 l:(Sl Part)
 deriving Inhabited
abbrev Am9 (x:Palt):List PV:=[(vSl 1 CM x.l)]
structure An0 where
 of:Part
 min:Int
 max:Int
 deriving Inhabited
abbrev An1 (x:An0):List PV:=[(Eh x.of),pI .i64 x.min,pI .i64 x.max]
structure Pseq where
 l:(Sl Part)
 deriving Inhabited
abbrev An2 (x:Pseq):List PV:=[(vSl 1 CM x.l)]
end Go.AM
namespace Go.AM
open Go.Proofs
abbrev AW:Nat:=9
abbrev LT:Nat:=14
abbrev JB:Nat:=15
abbrev Fl:Nat:=16
abbrev Ic:Nat:=18
abbrev Fm:Nat:=20
abbrev LU:Nat:=22
abbrev Fn:Nat:=24
abbrev OD:Nat:=26
abbrev Id:Nat:=27
abbrev Fo:Nat:=30
abbrev Fp:Nat:=31
abbrev LW:Nat:=39
abbrev Bm:Nat:=40
abbrev VA:Nat:=41
abbrev VB:Nat:=42
abbrev OF:Nat:=43
abbrev VD:Nat:=44
abbrev Gz:Nat:=45
abbrev O5:Nat:=46
abbrev Fq:Nat:=47
abbrev Ie:Nat:=50
abbrev GA:Nat:=52
abbrev Fr:Nat:=54
abbrev J7:Nat:=56
abbrev Fs:Nat:=57
abbrev Ei:Nat:=58
abbrev BY:Nat:=59
abbrev W3:Nat:=60
abbrev F4:Nat:=61
abbrev Dp:Nat:=74
abbrev Fu:Nat:=75
abbrev Ig:Nat:=76
abbrev G4:Nat:=77
abbrev X4:Nat:=78
abbrev JD:Nat:=82
abbrev X5:Nat:=83
abbrev N3:Nat:=84
abbrev DN:Nat:=85
abbrev E6:Nat:=86
abbrev Fv:Nat:=87
abbrev JE:Nat:=89
abbrev I2:Nat:=113
abbrev DO:Nat:=114
abbrev Ih:Nat:=115
abbrev H8:Nat:=118
abbrev H3:Nat:=119
abbrev G5:Nat:=120
abbrev J5:Nat:=121
abbrev JF:Nat:=122
abbrev GC:Nat:=124
abbrev LX:Nat:=125
abbrev GD:Nat:=126
abbrev GE:Nat:=127
abbrev JG:Nat:=128
abbrev Ii:Nat:=129
abbrev H1:Nat:=130
abbrev I3:Nat:=131
abbrev J9:Nat:=143
abbrev JH:Nat:=146
abbrev Cm:Nat:=148
abbrev Fw:Nat:=149
abbrev K8:Nat:=150
abbrev H9:Nat:=151
abbrev K0:Nat:=152
abbrev JI:Nat:=158
abbrev OK:Nat:=159
abbrev Ij:Nat:=167
abbrev D1:Nat:=168
abbrev Dq:Nat:=174
abbrev LY:Nat:=175
abbrev J1:Nat:=176
abbrev OM:Nat:=177
abbrev ON:Nat:=178
abbrev GF:Nat:=179
abbrev Ca:Nat:=187
abbrev Ik:Nat:=188
abbrev CN:Nat:=189
abbrev G1:Nat:=190
abbrev Fx:Nat:=191
abbrev Il:Nat:=192
abbrev P9:Nat:=201
abbrev GG:Nat:=202
abbrev JJ:Nat:=203
abbrev JK:Nat:=204
abbrev JL:Nat:=205
abbrev GH:Nat:=214
abbrev GI:Nat:=215
abbrev Fy:Nat:=216
abbrev Ek:Nat:=224
abbrev AH:Nat:=225
abbrev X6:Nat:=226
abbrev N1:Nat:=227
abbrev AL:Nat:=244
abbrev BB:Nat:=245
abbrev Cn:Nat:=246
abbrev Dr:Nat:=247
abbrev Cb:Nat:=248
abbrev Ds:Nat:=249
abbrev Em:Nat:=250
abbrev V4:Nat:=251
abbrev Dt:Nat:=252
abbrev M9:Nat:=3
abbrev D7:Nat:=23
abbrev OT:Nat:=31
abbrev Ht:Nat:=50
abbrev B1:Nat:=79
abbrev En:Nat:=82
abbrev N7:Nat:=85
abbrev EP:Nat:=108
abbrev VH:Nat:=125
abbrev QH:Nat:=242
end Go.AM
namespace Go.AM
open IntKind (wrap)
abbrev U (x:BitVec 64):Int:=(x.toNat:Int)
def GK {n:Nat}(h:n<2 ^ 64):IntKind.u64.wrap (n:Int)=n:=by have h1:((n:Int) % (2 ^ 64:Int))=n:=AA1 (by omega) (by omega);unfold wrap;simp only[IntKind.bits,IntKind.signed,h1,AB2,Ar1,Ni]
def QI (x:BitVec 64):BitVec.ofInt 64 (U x)=x:=by
 apply Au3;rw[AI5]
 have:=x.isLt
 show ((x.toNat:Int) % ((2 ^ 64:Nat):Int)).toNat=x.toNat;omega
def and64 (x y:BitVec 64):E9 .and .u64 (U x) (U y)=U (x &&& y):=by simp only[E9,IntKind.bits,QI];exact GK (x &&& y).isLt
def Ap8 (x y:BitVec 64):E9 .or .u64 (U x) (U y)=U (x ||| y):=by simp only[E9,IntKind.bits,QI];exact GK (x ||| y).isLt
def XZ (x y:BitVec 64):E9 .andNot .u64 (U x) (U y)=U (x &&& ~~~ y):=by simp only[E9,IntKind.bits,QI];exact GK (x &&& ~~~ y).isLt
def shr64 (x:BitVec 64)(n:Nat):shI .shr .u64 (U x) n=U (x >>> n):=by
 simp only[shI,IntKind.bits,Aq6];have hx:=x.isLt;show Int.fdiv (x.toNat:Int) (2 ^ min n 64)=((x >>> n).toNat:Int);rw[AC1,AC0];have e:((2:Int) ^ (min n 64))=((2 ^ (min n 64):Nat):Int):=by norm_cast
 rw[e,AE8 _ (AI6 _),<- Int.natCast_ediv];congr 1;by_cases h:n<=64
 .rw[Ax7 h]
 rw[AD6 (by omega),Ay4 hx,Ay4];exact As7 hx (Az7 (by omega) (by omega))
def An3:(1:Int)=U 1#64:=rfl
def OU (n:Nat)(h:n<64):shI .shl .u64 1 n=U (1#64 <<< n):=by
 simp only[shI,IntKind.bits,Aq6];rw[Ax7 (by omega)];show wrap .u64 (1*2 ^ n)=((1#64 <<< n).toNat:Int);rw[AG2,Nat.shiftLeft_eq];have h1:(2:Nat) ^ n<2 ^ 64:=Nat.pow_lt_pow_right (by omega) h;have e:((1:Int)*2 ^ n)=((2 ^ n:Nat):Int):=by norm_cast;omega
 rw[e,GK h1]
 norm_cast
 rw[Ay5]
 .simp
 simpa using h1
def QJ {i:Nat}:(1#64).getLsbD i=decide (i=0):=by rw[AF0];simp
def Eo {n i:Nat}(h:n<64)(a:i<64):(1#64 <<< n).getLsbD i=decide (i=n):=by rw[AF6,QJ,At9];simp only[Aq7,At3,Nj,decide_eq_false_iff_not];omega
def bit64 (x:BitVec 64)(i:Nat):(E9 .and .u64 (shI .shr .u64 (U x) (i:Int)) 1==1)=x.getLsbD i:=by
 rw[shr64,An3,and64];have h:(x >>> i &&& 1#64)=(BitVec.ofBool (x.getLsbD i)).setWidth 64:=by
  apply Av9;intro j b;simp only[As2,AE9,AF9,AH1];by_cases a:j=0
  .subst a;simp
  have:(1#64).getLsbD j=false:=by rw[QJ];simp[a]
  simp[this,a]
 rw[h];cases x.getLsbD i<;>rfl
def Ya {x y:BitVec 64}(h:∀b,b<64->(x.getLsbD b=true↔y.getLsbD b=true)):x=y:=
 Av9 fun b hb=>At9.2 (h b hb)
def Fz (n:Nat)(R:Nat->Nat->Prop):Nat->Nat->Nat->Prop
 |0=>fun a b=>a=b
 |k+1=>fun a b=>∃c,c<=n/\Fz n R k a c/\R c b
def TF (n:Nat)(Q:Nat->Nat->Nat->Prop):Nat->Nat->Nat->Prop
 |0=>fun a b=>a=b
 |i+1=>fun a b=>∃c,c<=n/\TF n Q i a c/\Q i c b
def Fwd (n:Nat)(R:Nat->Nat->Prop):Prop:=∀a b,a<=n->R a b->a<=b/\b<=n
def GL {n:Nat}{R:Nat->Nat->Prop}(h:Fwd n R):∀k,Fwd n (Fz n R k)
 |0,a,b,ha,hb=>by obtain rfl:a=b:=hb;exact⟨Aq9 _,ha⟩
 |k+1,a,b,ha,⟨c,hc,h1,h2⟩=>by have g1:=GL h k a c ha h1;have g2:=h c b hc h2;exact⟨by omega,g2.2⟩
def Sk {n:Nat}{Q:Nat->Nat->Nat->Prop}:∀k,(∀i,i<k->Fwd n (Q i))->Fwd n (TF n Q k)
 |0,_,a,b,ha,hb=>by obtain rfl:a=b:=hb;exact⟨Aq9 _,ha⟩
 |k+1,h,a,b,ha,⟨c,hc,h1,h2⟩=>by have g1:=Sk k (fun i d=>h i (by omega)) a c ha h1;have g2:=h k (by omega) c b hc h2;exact⟨by omega,g2.2⟩
def Cc {n:Nat}{R:Nat->Nat->Prop}(h:Fwd n R)(j:Nat){a:Nat}(ha:a<=n):∀k b,Fz n R (j+k) a b ↔ ∃c,c<=n/\Fz n R j a c/\Fz n R k c b
 |0,b=>⟨fun hp=>⟨b,(GL h j a b ha hp).2,hp,rfl⟩,fun⟨c,_,hp,e⟩=>by obtain rfl:c=b:=e;exact hp⟩
 |k+1,b=>by
  constructor
  .rintro⟨d,f,h1,g⟩;obtain⟨c,hc,g1,g2⟩:=(Cc h j ha k d).1 h1;exact⟨c,hc,g1,d,f,g2,g⟩
  rintro⟨c,hc,g1,d,f,g2,g⟩;exact⟨d,f,(Cc h j ha k d).2 ⟨c,hc,g1,g2⟩,g⟩
def LZ {n:Nat}{R:Nat->Nat->Prop}(h:Fwd n R){a:Nat}(ha:a<=n):∀k b,Fz n R (k+1) a b->Fz n R k a b \/ a+(k+1)<=b
 |0,b,⟨c,hc,h1,h2⟩=>by
  obtain rfl:a=c:=h1;by_cases e:a=b
  .exact .inl e
  have:=(h a b ha h2).1;exact .inr (by omega)
 |k+1,b,⟨c,hc,h1,h2⟩=>by
  by_cases e:c=b
  .subst e;exact .inl h1
  have:=(h c b hc h2).1
  rcases LZ h ha k c h1 with g|g
  .exact .inl ⟨c,hc,g,h2⟩
  exact .inr (by omega)
def OV {n:Nat}{R:Nat->Nat->Prop}(h:Fwd n R){a:Nat}(ha:a<=n){k b:Nat}(hk:n<=k)(hp:Fz n R (k+1) a b):Fz n R k a b:=by
 rcases LZ h ha k b hp with g|g
 .exact g
 have:=(GL h (k+1) a b ha hp).2;omega
def OW {n:Nat}{R:Nat->Nat->Prop}(h:Fwd n R){a:Nat}(ha:a<=n){b:Nat}:∀k,Fz n R k a b->∃j,j<=n/\Fz n R j a b
 |0,hp=>⟨0,Az6 _,hp⟩
 |k+1,hp=>by
  by_cases hk:n<=k
  .exact OW h ha k (OV h ha hk hp)
  exact⟨k+1,by omega,hp⟩
def JP {n:Nat}{R:Nat->Nat->Prop}(h:Fwd n R){a:Nat}(ha:a<=n):∀k b,Fz n (fun x y=>R x y \/ x=y) k a b ↔ ∃j,j<=k/\Fz n R j a b
 |0,b=>⟨fun e=>⟨0,Aq9 _,e⟩,fun⟨j,f,hp⟩=>by
  obtain rfl:j=0:=by omega
  exact hp⟩
 |k+1,b=>by
  constructor
  .rintro⟨c,hc,h1,d⟩;obtain⟨j,f,hp⟩:=(JP h ha k c).1 h1;rcases d with d|d
   .exact⟨j+1,by omega,c,hc,hp,d⟩
   subst d;exact⟨j,by omega,hp⟩
  rintro⟨j,f,hp⟩;by_cases e:j<=k
  .have hb:=(GL h j a b ha hp).2;exact⟨b,hb,(JP h ha k b).2 ⟨j,e,hp⟩,.inr rfl⟩
  obtain rfl:j=k+1:=by omega
  obtain⟨c,hc,h1,d⟩:=hp;exact⟨c,hc,(JP h ha k c).2 ⟨k,Aq9 _,h1⟩,.inl d⟩
def QK (s c:Qz):Bool:=(E9 .and .u32 s.Plus c.Plus==c.Plus)&&(E9 .and .u32 s.Minus c.Minus==c.Minus)
def PR (w:Sl Qz):Pat->Nat->Nat->Prop
 |.nil=>fun a b=>a=b
 |.mk kind is no mn mx m g=>fun a b=>
  if kind=0 then a=b
  else if kind=1 then a<w.n/\b=a+1/\(QK (w.g a) is != no)=true
  else if kind=2 then a=0/\b=0
  else if kind=6 then a=w.n/\b=w.n
  else if kind=3 then TF w.n (fun i=>PR w (g i)) m a b
  else if kind=4 then ∃i,i<m/\PR w (g i) a b
  else if kind=5 then ∃k:Nat,mn<=k/\(mx = -1 \/ (k:Int)<=mx)/\Fz w.n (PR w (g 0)) k a b
  else False
def OX (w:Sl Qz):∀p:Pat,Fwd w.n (PR w p)
 |.nil,a,b,ha,h=>by obtain rfl:a=b:=h;exact⟨Aq9 _,ha⟩
 |.mk kind is no mn mx m g,a,b,ha,h=>by
  simp only[PR]at h;split at h
  .subst h;exact⟨Aq9 _,ha⟩
  split at h
  .obtain⟨h1,d,_⟩:=h;omega
  split at h
  .omega
  split at h
  .omega
  split at h
  .exact Sk m (fun i _=>OX w (g i)) a b ha h
  split at h
  .obtain⟨i,_,c⟩:=h;exact OX w (g i) a b ha c
  split at h
  .obtain⟨k,_,_,hk⟩:=h;exact GL (OX w (g 0)) k a b ha hk
  exact h.elim
def TabR (n:Nat)(R:Nat->Nat->Prop)(f:Nat->Int):Prop:=∀a,a<=n->∃x:BitVec 64,f a=U x/\∀b,b<64->(x.getLsbD b=true↔b<=n/\R a b)
def TabR.congr {n:Nat}{R R' : Nat->Nat->Prop}{f:Nat->Int}(h:TabR n R f)(d:∀a b,a<=n->b<=n->(R a b↔R' a b)):TabR n R' f:=fun a ha=>by obtain⟨x,e,hx⟩:=h a ha;refine⟨x,e,fun b hb=>(hx b hb).trans ⟨fun⟨h1,c⟩=>⟨h1,(d a b ha h1).1 c⟩,fun⟨h1,c⟩=>⟨h1,(d a b ha h1).2 c⟩⟩⟩
def TabR.uniq {n:Nat}{R:Nat->Nat->Prop}{f g:Nat->Int}(h:TabR n R f)(h' : TabR n R g){a:Nat}(ha:a<=n):f a=g a:=by obtain⟨x,e,hx⟩:=h a ha;obtain⟨y,e',hy⟩:=h' a ha;rw[e,e',Ya fun b hb=>(hx b hb).trans (hy b hb).symm]
def TabR.bit {n:Nat}{R:Nat->Nat->Prop}{f:Nat->Int}(h:TabR n R f){a b:Nat}(ha:a<=n)(hb:b<64):(E9 .and .u64 (shI .shr .u64 (f a) (b:Int)) 1==1)=true↔b<=n/\R a b:=by obtain⟨x,e,hx⟩:=h a ha;rw[e,bit64];exact hx b hb
end Go.AM
namespace Go.AM
variable {N:Nat}
open Go.Proofs
abbrev Yb:List AV:=[.reg 0 0,.reg 1 0,.reg 2 0,.reg 3 0]
abbrev QL (c:Int)(a:Sl Law)(b:Sl Qz)(y:PV):List Obj:=[.cells [pN c],.cells [.p (vSl 18 A5 a)],.cells [.p (vSl 2 A0 b)],.cells [.p y]]
structure Kt (S:U6):Prop where
 attR:∀{a:Sl Law}{b y:Sl Qz},FunO S G5 [.p (vSl 18 A5 a),.p (vSl 2 A0 b)] [] (.p (vSl 2 A0 y)) [] []->FunO S H3 Yb (QL 0 a b P4) (.tup []) (QL 0 a b (vSl 2 A0 y)) [true,true,true,true]
 attP:∀{a:Sl Law}{b:Sl Qz}{c:Int},(S.F G5 [.p (vSl 18 A5 a),.p (vSl 2 A0 b)] [] fun res o k=>res=.panic (.iface 160 (pI .i64 c))/\o=[]/\k=[])->FunO S H3 Yb (QL 0 a b P4) (.tup []) (QL c a b P4) [true,true,true,true]
 tz:∀x:BitVec 64,WV S N1 [.p (pI .u64 (U x))] (.p (pI .i64 (Lib.ctz 64 x.toNat:Nat)))
 trim:∀s c:Str,s.length<1000000000000->c.length<1000000->(∀b∈c,b.toNat<128)->WV S Cm [.p (.str s),.p (.str c)] (.p (.str (Lib.trimS s c)))
 growS:∀(f:Nat->List PV) (n:Nat),n*8<=140737488355328->FunO S G1 [.p P4,.p (pI .i64 (n:Int))] [] (.vec 0) [.vec B1 2 0 f false] []
 growL:∀(f:Nat->List PV) (n:Nat),n*200<=140737488355328->FunO S H8 [.p P4,.p (pI .i64 (n:Int))] [] (.vec 0) [.vec N7 18 0 f false] []
def E7 (N:Nat)(x:Int):Option Int:=if 0<=x/\x<18446744073709551616 then some ((Lib.ctz 64 x.toNat:Nat):Int)else none
def Co (N:Nat)(s c:Str):Option Str:=if s.length<1000000000000/\c.length<1000000/\(c.all fun b=>decide (b.toNat<128)) then some (Lib.trimS s c)else none
def G2 (N:Nat)(n:Int):Option (Sl Qz):=if 0<=n/\n*8<=140737488355328 then some (Sl.nil:Sl Qz)else none
def O4 (N:Nat)(n:Int):Option (Sl Law):=if 0<=n/\n*200<=140737488355328 then some (Sl.nil:Sl Law)else none
section
variable {S:U6}(Z:G6 S Tryz.prog) (Y:Kt S)
include Z Y
theorem BC {x y:Int}(h:E7 N x=some y):FunO S N1 [.p (pI .u64 x)] [] (.p (pI .i64 y)) [] []:=by
 obtain⟨⟨a,h1⟩,h⟩:=P1 h;obtain rfl:=D0 h
 have:=Y.tz (BitVec.ofNat 64 x.toNat)
 have e:(BitVec.ofNat 64 x.toNat).toNat=x.toNat:=by rw[AI8];omega
 have e2:U (BitVec.ofNat 64 x.toNat)=x:=by show ((BitVec.ofNat 64 x.toNat).toNat:Int)=x;rw[e];omega
 rw[e,e2]at this;exact this
theorem KV {s c:Str}{y:Str}(h:Co N s c=some y):FunO S Cm [.p (.str s),.p (.str c)] [] (.p (.str y)) [] []:=by obtain⟨⟨a,h1,d⟩,h⟩:=P1 h;obtain rfl:=D0 h;exact Y.trim s c a h1 fun b hb=>by simpa using Ar7.1 d b hb
theorem W6 {n:Int}{y:Sl Qz}(h:G2 N n=some y):FunO S G1 [.p P4,.p (pI .i64 n)] [] (.vec 0) [.vec B1 2 y.n (fun i=>A0 (y.g i)) false] []:=by
 obtain⟨⟨a,h1⟩,h⟩:=P1 h;obtain rfl:=D0 h
 have:=Y.growS (fun i=>A0 default) n.toNat (by omega)
 rw[show ((n.toNat:Nat):Int)=n by omega]at this;exact this
theorem Am {n:Int}{y:Sl Law}(h:O4 N n=some y):FunO S H8 [.p P4,.p (pI .i64 n)] [] (.vec 0) [.vec N7 18 y.n (fun i=>A5 (y.g i)) false] []:=by
 obtain⟨⟨a,h1⟩,h⟩:=P1 h;obtain rfl:=D0 h
 have:=Y.growL (fun i=>A5 default) n.toNat (by omega)
 rw[show ((n.toNat:Nat):Int)=n by omega]at this;exact this
def A2 (N:Nat)(s:Sl Qz):Option (Sl Qz):=if (0+s.n)*8<=140737488355328/\0+s.n<=140737488355328 then some s else none
theorem K3 {s y:Sl Qz}(h:A2 N s=some y):FunO S F4 [.p (vSl 2 A0 s)] [] (.vec 0) [.vec B1 2 y.n (fun i=>A0 (y.g i)) true] []:=by
 unfold A2 at h;obtain⟨c1,h⟩:=P1 h;obtain rfl:=D0 h;refine A4 Z Tryz.func61 ?_;refine Am0 Z Nk 3 (k:=2) (n:=s.n) (f:=fun i=>A0 (s.g i)) (fun a=>?_) ?_
 .obtain⟨n,g⟩:=s;obtain rfl:n=0:=a;exact A8 Z Nk ⟨[(2,.vec 3700)],[(3700,.vec B1 2 0 (fun i=>A0 (g i)) true)]⟩ [3700] (ids:=[]) ⟨rfl,rfl,rfl⟩
 exact A8 Z (Ar0 Q8 c1) ⟨[(2,.vec 8000)],[(8000,.vec B1 2 s.n (fun i=>A0 (s.g i)) true)]⟩ [8000] (ids:=[(8000,8000)]) ⟨rfl,rfl,rfl⟩
  (hle:=klR [(0,.fn (0+s.n) s.n (BP 0 (G7 [pI .u32 0,pI .u32 0] []) (fun i=>A0 (s.g i))) (fun i=>A0 (s.g i)))] (al1 ⟨At5 _,fun i _=>by simp[BP]⟩ al0))
theorem F1 {s y:Sl Qz}(h:A2 N s=some y):FunO S F4 [.p (vSl 2 A0 s)] [] (.p (vSl 2 A0 y)) [] []:=by
 unfold A2 at h;obtain⟨c1,h⟩:=P1 h;obtain rfl:=D0 h;refine A4 Z Tryz.func61 ?_;refine Am0 Z Nk 3 (k:=2) (n:=s.n) (f:=fun i=>A0 (s.g i)) (fun a=>?_) ?_
 .obtain⟨n,g⟩:=s;obtain rfl:n=0:=a;exact A8 Z Nk ⟨[(2,.p (vSl 2 A0 ⟨0,g⟩))],[]⟩ [] (ids:=[]) ⟨rfl,rfl,rfl⟩
 exact A8 Z (Ar0 Q8 c1) ⟨[(2,.p (vSl 2 A0 s))],[]⟩ [] (ids:=[]) ⟨rfl,rfl,rfl⟩
  (hle:=klR [(0,.fn (0+s.n) s.n (BP 0 (G7 [pI .u32 0,pI .u32 0] []) (fun i=>A0 (s.g i))) (fun i=>A0 (s.g i)))] (al1 ⟨At5 _,fun i _=>by simp[BP]⟩ al0))
end
end Go.AM
set_option maxRecDepth 100000
namespace Go.AM
open Go.Proofs.Tryz
open Go.Proofs
def TG (v:Value)(w:World):(Instr.typeAssert (.iface 160 v) 20 160 true).run Tryz.prog w=.ok (.tuple #[v,.bool true]) w:=by kernel_rfl
def JQ (p:Value)(w:World):CallsDIn Fence.wide 0 Tryz.prog E6 #[p] .returning w fun e u' w'=>e=.returned (.tuple #[])/\u' = .returning/\w' = w:=by
 refine callsDIn_of_wpSIn func86 rfl (by simp[Fence.wide]) fun c₀ cs a=>?_;apply wpSIn_seq;apply wpSIn_region;simp[wpOpsSIn,go_sem,recoverD,a,f86,Exit.thenS];refine wpSIn_of_wpIn rfl (wpIn_block (wpIn_seq (wpIn_region ?_)));simp[wpOpsIn,Oper.wpIn,Oper.semAt,Oper.uponIn,go_sem,Exit.then];refine wpIn_cond (t:=true) (by simp[Act.eval]) ?_;simp only[Nh];refine wpIn_region ?_;simp[wpOpsIn,Oper.wpIn,Oper.semAt,Oper.uponIn,go_sem,Exit.inBlock,bodyPostS,results];cases c₀
 simp_all
def DR (p:Value)(c:Int)(older:List PanicEntry)(w w1:World)(a:(Instr.storeAt 27 p (.int .i64 c)).run Tryz.prog w=.ok () w1)(hn:∃b,p=.pointer (some b)) :CallsDIn Fence.wide 0 Tryz.prog E6 #[p] (.panicking ({ v:=.iface 160 (.int .i64 c),recovered:=false }::older)) w fun e u' w'=>
  e=.returned (.tuple #[])/\u' = .panicking ({ v:=.iface 160 (.int .i64 c),recovered:=true }::older)/\w' = w1:=by
 obtain⟨b,rfl⟩:=hn;refine callsDIn_of_wpSIn func86 rfl (by simp[Fence.wide]) fun c₀ cs d=>?_;apply wpSIn_seq;apply wpSIn_region;simp[wpOpsSIn,go_sem,recoverD,d,f86,Exit.thenS];refine wpSIn_of_wpIn rfl (wpIn_block (wpIn_seq (wpIn_region ?_)));simp[wpOpsIn,Oper.wpIn,Oper.semAt,Oper.uponIn,go_sem,Exit.then];refine wpIn_cond (t:=false) (by simp[Act.eval]) ?_;simp only[Ar1,Ni];refine wpIn_seq (wpIn_region ?_);simp[wpOpsIn,Oper.wpIn,Oper.semAt,Oper.uponIn,go_sem,Exit.then,TG];refine wpIn_cond (t:=true) (by simp[Act.eval]) ?_;simp only[Nh];refine wpIn_seq (wpIn_region ?_);simp[wpOpsIn,Oper.wpIn,Oper.semAt,Oper.uponIn,go_sem,Exit.then];refine wpIn_region ?_;simp[wpOpsIn,Oper.wpIn,Oper.semAt,Oper.uponIn,go_sem,a,Exit.inBlock,bodyPostS,results];simp[go_sem]at a;rw[a];simp[Result.andThen]
noncomputable def Ah1:Code:=match Tryz.f119.body with
 |some (.seq _ c)=>c
 |_=>.skip
def Ad1 {S:U6}(Z:G6 S Tryz.prog){a:Sl Law}{b y:Sl Qz}(c:FunO S G5 [.p (vSl 18 A5 a),.p (vSl 2 A0 b)] [] (.p (vSl 2 A0 y)) [] []) :KG S Tryz.prog (LP S (fun st=>I5 [0,1,2,3] st.regs [0,1,2,3]=some (QL 0 a b (vSl 2 A0 y))) fun _ _=>False) (.code Ah1 [] ⟨argEnv Yb,objRegs (QL 0 a b P4)⟩):=by refine E5 Z [] Nk c ?_;exact K_upN Z Nk ⟨[],[(3,.cells [.p (vSl 2 A0 y)]),(2,.cells [.p (vSl 2 A0 b)]),(1,.cells [.p (vSl 18 A5 a)]),(0,.cells [pN 0])]⟩ (ids:=[(0,0),(1,1),(2,2),(3,3)]) rfl
def VJ {S:U6}(Z:G6 S Tryz.prog){a:Sl Law}{b:Sl Qz}{c:Int}(d:S.F G5 [.p (vSl 18 A5 a),.p (vSl 2 A0 b)] [] fun res o k=>res=.panic (.iface 160 (pI .i64 c))/\o=[]/\k=[]) :KG S Tryz.prog (LP S (fun _=>False) fun x st=>x=.iface 160 (pI .i64 c)/\store Tryz.prog st.regs 27 (.reg 0 0) (.p (pI .i64 c))=some ([],ins 0 (.cells [pN c]) st.regs)/\I5 [0,1,2,3] (ins 0 (.cells [pN c]) st.regs) [0,1,2,3]=some (QL c a b P4)) (.code Ah1 [] ⟨argEnv Yb,objRegs (QL 0 a b P4)⟩):=by refine Ac3 Z [] Nk d ?_;exact K_upP Z Nk ⟨rfl,by kernel_rfl,by kernel_rfl⟩
noncomputable def att1:Code:=match Tryz.f119.body with
 |some (.seq c _)=>c
 |_=>.skip
noncomputable def attOps:Array Oper:=match Ah1 with
 |.region _ ops _=>ops
 |_=>#[]
def Sm:Ah1=.region 1 attOps false:=by kernel_rfl
def An4:attOps.toList.all (DH 7 attOps.toList)=true:=by kernel_rfl
def Yc:¬Tryz.f119.name = "runtime.NumGoroutine" := by decide +kernel
def Sn:Tryz.f119.body=some (.seq att1 Ah1):=by kernel_rfl
def VK {C:Ctx}{vs:Array Value}{w:World}{rho:Nat->Value}{args:List AV}{objs:List Obj}{n:Nat}(Z:Sat C ⟨argEnv args,objRegs objs⟩ ⟨vs,[]⟩ w rho)(a:vs.size=args.length) :Sat C ⟨argEnv args,objRegs objs⟩ { tmps:=vs++Array.replicate n undef,defers:=[] } w rho:=by
 refine⟨Z.toSatE,fun t=>?_,Z.pin,Z.marks⟩
 have:=Z.env t
 by_cases ht:t<vs.size
 .simpa[Aq0,Ay0,ht]using this
 show RepA w _ _ _ _ (get (argEnv args) t);rw[T1,Aq1,Au2 (by omega)];exact .top _
def JR {R:St->Prop}{X:PV->St->Prop}{a:Sl Law}{b:Sl Qz}{objs' : List Obj}
 (a1:KG (BR Tryz.prog) Tryz.prog (LP (BR Tryz.prog) R X) (.code Ah1 [] ⟨argEnv Yb,objRegs (QL 0 a b P4)⟩))
 (hR:∀st,R st->I5 [0,1,2,3] st.regs [0,1,2,3]=some objs')
 (hX:∀x st,X x st->∃c regs',x=.iface 160 (pI .i64 c)/\store Tryz.prog st.regs 27 (.reg 0 0) (.p (pI .i64 c))=some ([],regs')/\I5 [0,1,2,3] regs' [0,1,2,3]=some objs') :
 FunO (BR Tryz.prog) H3 Yb (QL 0 a b P4) (.tup []) objs' [true,true,true,true]:=by
 intro 𝒢 C w vs rho hG Z t;obtain⟨l⟩:=vs
 match l,t with
 |[v0,v1,v2,v3],t=>?_
 refine⟨.enter H3 #[v0,v1,v2,v3],w,by simp[callFunc,func119,Sn,Yc],?_⟩;refine callsIn_of_wp_marks func119 Sn Nk ?_;have a2:=VK (n:=Tryz.f119.ntmps-4) Z t;have a9:Tryz.f119.ntmps-4=3:=rfl;rw[a9]at a2;have b1:((#[v0,v1,v2,v3]:Array Value)++Array.replicate 3 undef).size=7:=rfl;have hw:EH (BR Tryz.prog) Tryz.prog attOps.toList attOps.toList (LP (BR Tryz.prog) R X) ⟨argEnv Yb,objRegs (QL 0 a b P4)⟩:=by
  have:=a1.out
  rw[Sm]at this;simpa only[G,awp,kp,Ar1,Ni]using this
 have a4:=Gr (𝒢:=𝒢.fix C.rho0) (n:=7) (ro:=none) (ops:=attOps) An4 attOps.toList 0 rfl (by simp) ⟨hG,rfl⟩ a2 b1 hw;have a5:=Dm [{ target:=.fn (.func E6) #[],args:=#[v0] }] _ _ _ a4;rw[AF1]at a5;obtain⟨b0,a6,u⟩:∃b0,v0=.pointer (some ⟨b0,0,none⟩)/\rho 0=.pointer (some ⟨b0,0,none⟩):=by
  have h0:RepA w _ _ rho v0 (.reg 0 0):=Z.env 0;cases h0 with
  |reg _ _ b0 _ h=>exact⟨b0,rfl,h⟩
 have s:∀{C' : Ctx}{st' : St}{a' : Act}{w' : World}{rho' : Nat->Value},(𝒢.fix C.rho0).G C' -> Sat C' st' a' w' rho' -> I5 [0,1,2,3] st'.regs [0,1,2,3]=some objs' ->
  LeavesInM Fence.wide 0 Tryz.prog f119 a'.tmps (fun e w'=>∃C' r objs0 ks rho', 𝒢.G C' /\ (r=.ret (.tup [])/\objs0=objs' /\ ks=[true,true,true,true])/\SatE C' (objRegs objs0) w' rho' /\
   Xi w' (Prv C'.X (A1 (objRegs objs0)) rho') (Lv (A1 (objRegs objs0))) rho' e r/\∀i:Nat,ks[i]? = some true->i<objs0.length/\rho' i=rho i) [] .returning w':=by
  intro C' st' a' w' rho' d f m;obtain⟨g1,g2,g3⟩:=Eb f (by decide) m;obtain⟨hl,hg⟩:=T2 m;refine⟨.tuple #[],by simp[results,f119],C', .ret (.tup []),objs',_,_,d.1,⟨rfl,rfl,rfl⟩,g1,⟨_,rfl,.tup _ _ rfl fun i hi=>Ng hi (by simp)⟩,?_⟩;intro i hi;have y:i<4:=by
   have:=(Ar4.1 hi).1
   simpa using this
  refine⟨by rw[hl];exact y,?_⟩;have e1:[0,1,2,3][i]? = some i:=by
   match i,y with
   |0,_=>rfl
   |1,_=>rfl
   |2,_=>rfl
   |3,_=>rfl
  obtain⟨o,_,ho,_⟩:=hg i i e1;show rho' ([0,1,2,3].getD i 0)=rho i;rw[AZ e1,f.pin i (by omega) (by simp[Lv,ho]),d.2];refine (Z.pin i (by omega) ?_).symm;rw[Lv,B9]
  match i,y with
  |0,_=>rfl
  |1,_=>rfl
  |2,_=>rfl
  |3,_=>rfl
 generalize hQ:bodyPostM _ _ _ _ _=QQ;refine wpIn_seq ?_;simp only[att1,f119];refine wpIn_region ?_;simp[wpOpsIn,Oper.wpIn,Oper.semAt,Oper.uponIn,go_sem,Exit.then];subst hQ;rw[Sm];refine wpIn_mono (wpIn_region (F:=FW none) a5) ?_;rintro e a' w' ⟨a0,rfl,z⟩;cases e with
 |exit id=>obtain⟨_,_,_,_,_,_,h⟩:=z;exact h.elim
 |goto l=>obtain⟨_,_,_,_,_,_,h⟩:=z;exact h.elim
 |ret=>obtain⟨_,_,_,_,_,_,h⟩:=z;exact h.elim
 |outgrown=>exact z.elim
 |normal=>
  obtain⟨C',st',rho',d,f,a7,hu⟩:=z;obtain⟨st2,rho2,hR2,_,hs2⟩:=hu C' a0 w' rho' f;refine Z8 (C:=C') (st:=st2) (rho:=rho2) (by simp) ?_ a0.defers a0 w' rfl rfl hs2;intro a3 w3 q ht;refine⟨by simp,.inr ⟨by simp[Fence.wide],_,_,E6,#[v0],rfl,by simp[go_sem],fun _ _=>trivial,?_⟩⟩;refine (JQ v0 w3).mono ?_;rintro e u' w4 ⟨rfl,rfl,rfl⟩
  have:=s d q (hR st2 hR2)
  rw[ht]at this;exact this
 |panic chain=>
  obtain⟨C',st',rho',v,x,rfl,d,f,a7,hv,hXx⟩:=z;obtain⟨c,regs',rfl,g,m⟩:=hX x st' hXx;obtain rfl:v=.iface 160 (.int .i64 c):=by
   cases hv with
   |iface _ _ _ h=>cases h;rfl
  refine Z8 (C:=C') (st:=st') (rho:=rho') (by simp) ?_ a0.defers a0 w' rfl rfl f;intro a3 w3 q ht;have j:Lv (A1 st'.regs) 0:=by
   cases hj:A1 st'.regs 0 with
   |some o=>simp[Lv,hj]
   |none=>
    unfold store at g;split at g
    .simp[hj]at g
    cases g
  have hr0:rho' 0=.pointer (some ⟨b0,0,none⟩):=by rw[q.pin 0 (by omega) j,d.2,<- u];exact (Z.pin 0 (by omega) rfl).symm
  have hva:RS C' st' w3 rho' v0 (.reg 0 0):=by rw[a6];exact .reg 0 0 b0 j hr0
  obtain⟨w4,a8,hs4,_⟩:=FF q (vx:=.int .i64 c) hva (.p _ _ (.v _)) g Nk;refine⟨by simp,.inr ⟨by simp[Fence.wide],_,_,E6,#[v0],rfl,by simp[go_sem],fun _ _=>trivial,?_⟩⟩;refine (DR v0 c [] w3 w4 a8 ⟨_,a6⟩).mono ?_;rintro e u' w5 ⟨rfl,rfl,rfl⟩
  have:=s d hs4 m
  rw[ht]at this;exact this
def QM {a:Sl Law}{b y:Sl Qz}(c:FunO (BR Tryz.prog) G5 [.p (vSl 18 A5 a),.p (vSl 2 A0 b)] [] (.p (vSl 2 A0 y)) [] []) :FunO (BR Tryz.prog) H3 Yb (QL 0 a b P4) (.tup []) (QL 0 a b (vSl 2 A0 y)) [true,true,true,true]:=
 JR (Ad1 (Ap2 Tryz.prog) c) (fun st h=>h) (fun x st h=>h.elim)
def Nl {a:Sl Law}{b:Sl Qz}{c:Int}(d:(BR Tryz.prog).F G5 [.p (vSl 18 A5 a),.p (vSl 2 A0 b)] [] fun res o k=>res=.panic (.iface 160 (pI .i64 c))/\o=[]/\k=[]) :FunO (BR Tryz.prog) H3 Yb (QL 0 a b P4) (.tup []) (QL c a b P4) [true,true,true,true]:=
 JR (VJ (Ap2 Tryz.prog) d) (fun st h=>h.elim) (fun x st h=>⟨c,_,h.1,h.2.1,h.2.2⟩)
end Go.AM
namespace Go.AM
open Go.Proofs.Tryz
variable {N:Nat}
open IntKind (wrap)
open Go.Proofs
set_option maxRecDepth 10000
set_option maxHeartbeats 2000000
variable {S:U6}(Z:G6 S Tryz.prog) (Y:Kt S)
include Z Y
def F2 (N:Nat)(a:Qz):Option Bool:= some (((E9 .and .u32 a.Plus a.Minus)==0)&&(decide ((E9 .or .u32 a.Plus a.Minus)<=16777215)))
theorem N8 {b:Qz}{y:Bool}(h:F2 N b=some y) :FunO S GE [.p (.agg (A0 b))] [] (pB y) ([]) []:=by unfold F2 at h;refine A4 Z func127 ?_;refine kB Z (C6 Z) Nk Nk 7 (.n (.a ((E9 .and .u32 b.Plus b.Minus)==0)) (.a (decide ((E9 .or .u32 b.Plus b.Minus)<=16777215)))) ?_;cases h;exact kR Z
def I0 (N:Nat)(b:Qz)(a:Qz):Option Bool:= (F2 N b).bind fun y1=>lt (fun (z1:Bool)=>some z1) fun k1=>if y1 then (F2 N a).bind fun y3=>if y3 then if ((E9 .andNot .u32 a.Plus b.Plus)==0) then k1 ((E9 .andNot .u32 a.Minus b.Minus)==0) else k1 false else k1 false else k1 false
theorem Hu {c:Qz}{a:Qz}{y:Bool}(h:I0 N c a=some y) :FunO S CN [.p (.agg (A0 c)),.p (.agg (A0 a))] [] (pB y) ([]) []:=by
 unfold I0 at h;refine A4 Z func189 ?_;refine kC Z h (N8 Z Y) (fun y1 h=>?_);refine Se Z Nk (C6 Z) h 0 (fun z1=>⟨[(4,pB z1)],[]⟩) (fun M1 k1 b h=>?_) (fun z1 h=>?_)
 .refine kG Z h (fun h=>?_) (fun h=>?_)
  .refine kC Z h (N8 Z Y) (fun y3 h=>?_);refine kG Z h (fun h=>?_) (fun h=>?_)
   .refine kG Z h (fun h=>?_) (fun h=>?_)
    .exact b _ [] _ ((E9 .andNot .u32 a.Minus c.Minus)==0) Nk h
    exact b _ [] _ false Nk h
   exact b _ [] _ false Nk h
  exact b _ [] _ false Nk h
 cases h;exact kR Z
def BD (N:Nat)(a:Qz):Option Int:= some (E9 .or .u32 a.Plus a.Minus)
theorem JS {a:Qz}{y:Int}(h:BD N a=some y) :FunO S JK [.p (.agg (A0 a))] [] (pU y) ([]) []:=by unfold BD at h;refine A4 Z func204 ?_;cases h;exact kR Z
def Ax (N:Nat)(c:Qz)(b:Qz)(a:Int):Option Qz:= some (⟨E9 .or .u32 (E9 .andNot .u32 c.Plus a) (E9 .and .u32 b.Plus a),E9 .or .u32 (E9 .andNot .u32 c.Minus a) (E9 .and .u32 b.Minus a)⟩:Qz)
theorem JT {c:Qz}{a:Qz}{b:Int}{y:Qz}(h:Ax N c a b=some y) :FunO S JL [.p (.agg (A0 c)),.p (.agg (A0 a)),pU b] [] (.p (.agg (A0 y))) ([]) []:=by unfold Ax at h;refine A4 Z func205 ?_;cases h;exact kR Z
def K9 (N:Nat)(c:Qz)(a:Int)(b:Qz):Option (Qz×Int):= (F2 N c).bind fun y1=>lt (fun (z1:Bool)=>if z1 then some ((⟨0,0⟩:Qz),14) else lt (fun (z2:Bool)=>if z2 then some ((⟨0,0⟩:Qz),2) else (BD N b).bind fun y6=>(Ax N c b (E9 .or .u32 a y6)).bind fun y7=>some (y7,0)) fun k2=>if (decide (16777215<a)) then k2 true else (BD N b).bind fun y5=>k2 ((E9 .and .u32 a y5) != 0)) fun k1=>if (!y1) then k1 true else (F2 N b).bind fun y3=>k1 (!y3)
theorem KW {c:Qz}{a:Int}{b:Qz}{y:Qz×Int}(h:K9 N c a b=some y) :FunO S Fx [.p (.agg (A0 c)),pU a,.p (.agg (A0 b))] [] (.tup [.p (.agg (A0 y.1)),pN y.2]) ([]) []:=by
 unfold K9 at h;refine A4 Z func191 ?_;refine CL Z Nk 5 4000 [pI .u32 c.Plus,pI .u32 c.Minus] ?_;refine CL Z Nk 6 6000 [pI .u32 b.Plus,pI .u32 b.Minus] ?_;obtain⟨y1,e1,h⟩:=D8 h;refine E5 Z [] P0 (N8 Z Y e1) ?_;refine Se Z Nk (C6 Z) h 0 (fun z1=>⟨[(15,pB z1),(6,.reg 7000 0),(5,.p (.ptr [pI .u32 b.Plus,pI .u32 b.Minus])),(3,.p (.ptr [pI .u32 c.Plus,pI .u32 c.Minus])),(1,pU a)],[(7000,.cells [pU 0,pU 0])]⟩) (fun M1 k1 d h=>?_) (fun z1 h=>?_)
 .refine kG Z h (fun h=>?_) (fun h=>?_)
  .exact d _ [(7000,7000)] _ true Nk h
  obtain⟨y3,e3,h⟩:=D8 h;refine E5 Z [] P0 (N8 Z Y e3) ?_;exact d _ [(7000,7000)] _ (!y3) Nk h
 apply kI Z h<;>intro h
 .cases h;exact kR Z
 refine Se Z Nk (C6 Z) h 0 (fun z2=>⟨[(25,pB z2),(6,.reg 7000 0),(5,.p (.ptr [pI .u32 b.Plus,pI .u32 b.Minus])),(3,.p (.ptr [pI .u32 c.Plus,pI .u32 c.Minus])),(1,pU a)],[(7000,.cells [pU 0,pU 0])]⟩) (fun M2 k2 f h=>?_) (fun z2 h=>?_)
 .refine kG Z h (fun h=>?_) (fun h=>?_)
  .exact f _ [(7000,7000)] _ true Nk h
  obtain⟨y5,e5,h⟩:=D8 h;refine E5 Z [] P0 (JS Z Y e5) ?_;exact f _ [(7000,7000)] _ ((E9 .and .u32 a y5) != 0) Nk h
 apply kI Z h<;>intro h
 .cases h;exact kR Z
 refine T3 Z Nk [0,1,3,4,6] ?_;obtain⟨y6,e6,h⟩:=D8 h;refine CK (Ar0 (Ar0 P0 P0) P0) (JS Z Y e6) ?_;obtain⟨y7,e7,h⟩:=D8 h;refine CK Nk (JT Z Y e7) ?_;refine X9 Nk ?_;cases h;exact kR Z
def P2 (N:Nat)(c:Qz)(a:Qz)(b:Int):Option (Qz×Int):= (F2 N c).bind fun y1=>lt (fun (z1:Bool)=>if z1 then some ((⟨0,0⟩:Qz),14) else if (decide (16777215<b)) then some ((⟨0,0⟩:Qz),2) else (Ax N c a b).bind fun y4=>some (y4,0)) fun k1=>if (!y1) then k1 true else (F2 N a).bind fun y3=>k1 (!y3)
theorem OY {c:Qz}{a:Qz}{b:Int}{y:Qz×Int}(h:P2 N c a b=some y) :FunO S Il [.p (.agg (A0 c)),.p (.agg (A0 a)),pU b] [] (.tup [.p (.agg (A0 y.1)),pN y.2]) ([]) []:=by
 unfold P2 at h;refine A4 Z func192 ?_;refine kC Z h (N8 Z Y) (fun y1 h=>?_);refine Se Z Nk (C6 Z) h 0 (fun z1=>⟨[(15,pB z1),(6,.reg 7000 0),(4,.reg 5000 0),(3,.reg 4000 0),(2,pU b)],[(7000,.cells [pU 0,pU 0]),(5000,.cells [pU a.Plus,pU a.Minus]),(4000,.cells [pU c.Plus,pU c.Minus])]⟩) (fun M1 k1 d h=>?_) (fun z1 h=>?_)
 .refine kG Z h (fun h=>?_) (fun h=>?_)
  .exact d _ [(4000,4000),(5000,5000),(7000,7000)] _ true Nk h
  refine kC Z h (N8 Z Y) (fun y3 h=>?_);exact d _ [(4000,4000),(5000,5000),(7000,7000)] _ (!y3) Nk h
 apply kI Z h<;>intro h
 .cases h;exact kR Z
 apply kI Z h<;>intro h
 .cases h;exact kR Z
 refine kC Z h (JT Z Y) (fun y4 h=>?_);cases h;exact kR Z
def I1 (N:Nat)(a:Qz):Option Bool:= Ao N (fun b (x1:Int)=>if (decide (x1<32)) then if ((0:Int)<=x1/\(0:Int)<=x1)then if ((((E9 .and .u32 (shI .shr .u32 a.Plus x1) 1)==1)&&((E9 .and .u32 (shI .shr .u32 a.Minus x1) 1)==1))||((((E9 .and .u32 (shI .shr .u32 a.Plus x1) 1)==1)||((E9 .and .u32 (shI .shr .u32 a.Minus x1) 1)==1))&&(decide (24<=x1)))) then some false else b (wrap .i64 (x1+1)) else none else some true) 0
def GM (N:Nat)(a:Int):Option Bool:= some ((decide (0<=a))&&(decide (a<24)))
def Z9 (N:Nat)(b:Qz)(a:Int):Option Int:= (I1 N b).bind fun y1=>lt (fun (z1:Bool)=>if z1 then some 0 else if (0:Int)<=a then if ((E9 .and .u32 (shI .shr .u32 b.Plus a) 1)==1) then some 1 else if (0:Int)<=a then if ((E9 .and .u32 (shI .shr .u32 b.Minus a) 1)==1) then some (-1) else some 0 else none else none) fun k1=>if (!y1) then k1 true else (GM N a).bind fun y3=>k1 (!y3)
def CO (N:Nat)(b:Qz)(a:Int)(c:Int):Option Qz:= if (0:Int)<=a then if (c==1) then if (c==(-1)) then some (⟨E9 .or .u32 (E9 .andNot .u32 b.Plus (shI .shl .u32 1 a)) (shI .shl .u32 1 a),E9 .or .u32 (E9 .andNot .u32 b.Minus (shI .shl .u32 1 a)) (shI .shl .u32 1 a)⟩:Qz) else some (⟨E9 .or .u32 (E9 .andNot .u32 b.Plus (shI .shl .u32 1 a)) (shI .shl .u32 1 a),E9 .andNot .u32 b.Minus (shI .shl .u32 1 a)⟩:Qz) else if (c==(-1)) then some (⟨E9 .andNot .u32 b.Plus (shI .shl .u32 1 a),E9 .or .u32 (E9 .andNot .u32 b.Minus (shI .shl .u32 1 a)) (shI .shl .u32 1 a)⟩:Qz) else some (⟨E9 .andNot .u32 b.Plus (shI .shl .u32 1 a),E9 .andNot .u32 b.Minus (shI .shl .u32 1 a)⟩:Qz) else none
def R7 (N:Nat)(c:Qz)(a:Qz):Option Bool:= (I1 N c).bind fun y1=>lt (fun (z1:Bool)=>if z1 then some false else Ao N (fun b (x3:Int)=>if (decide (x3<24)) then (Z9 N a x3).bind fun d=>lt (fun (z4:Bool)=>if z4 then some false else b (wrap .i64 (x3+1))) fun k4=>if (d != 0) then (Z9 N c x3).bind fun f=>k4 (f != d) else k4 false else some true) 0) fun k1=>if (!y1) then k1 true else (I1 N a).bind fun y3=>k1 (!y3)
def R8 (N:Nat)(d:Qz)(b:Int)(a:Qz):Option (Qz×Int):= (I1 N d).bind fun y1=>lt (fun (z1:Bool)=>if z1 then some ((⟨0,0⟩:Qz),14) else if ((decide (16777215<b))||((E9 .and .u32 b (E9 .or .u32 a.Plus a.Minus)) != 0)) then some ((⟨0,0⟩:Qz),2) else Ag9 N (fun c (x2:Int) (x3:Int) (x4:Int)=>if (decide (x4<24)) then if (0:Int)<=x4 then if ((E9 .and .u32 (shI .shr .u32 b x4) 1)==1) then (CO N (⟨x2,x3⟩:Qz) x4 0).bind fun f=>(Z9 N a x4).bind fun j=>if (j != 0) then (Z9 N a x4).bind fun l=>(CO N f x4 l).bind fun g=>c g.Plus g.Minus (wrap .i64 (x4+1)) else c f.Plus f.Minus (wrap .i64 (x4+1)) else (Z9 N a x4).bind fun m=>if (m != 0) then (Z9 N a x4).bind fun n=>(CO N (⟨x2,x3⟩:Qz) x4 n).bind fun i=>c i.Plus i.Minus (wrap .i64 (x4+1)) else c x2 x3 (wrap .i64 (x4+1)) else none else some ((⟨x2,x3⟩:Qz),0)) d.Plus d.Minus 0) fun k1=>if (!y1) then k1 true else (I1 N a).bind fun y3=>k1 (!y3)
def Ay (N:Nat)(d:Qz)(a:Qz)(b:Int):Option (Qz×Int):= (I1 N d).bind fun y1=>lt (fun (z1:Bool)=>if z1 then some ((⟨0,0⟩:Qz),14) else if (decide (16777215<b)) then some ((⟨0,0⟩:Qz),2) else Ag9 N (fun c (x2:Int) (x3:Int) (x4:Int)=>if (decide (x4<24)) then if (0:Int)<=x4 then if ((E9 .and .u32 (shI .shr .u32 b x4) 1)==1) then (Z9 N a x4).bind fun y8=>(CO N (⟨x2,x3⟩:Qz) x4 y8).bind fun y9=>c y9.Plus y9.Minus (wrap .i64 (x4+1)) else c x2 x3 (wrap .i64 (x4+1)) else none else some ((⟨x2,x3⟩:Qz),0)) d.Plus d.Minus 0) fun k1=>if (!y1) then k1 true else (I1 N a).bind fun y3=>k1 (!y3)
def R9 (N:Nat)(a:Qz):Option Bool:= some ((((E9 .and .u32 a.Plus a.Minus)==0)&&(decide (a.Plus<16777216)))&&(decide (a.Minus<16777216)))
def Az (N:Nat)(p_w:Sl Qz):Option Int:= if (decide (32<(p_w.n:Int))) then some 11 else Ao N (fun a (x1:Int)=>if (decide (x1<(p_w.n:Int))) then if ((0:Int)<=x1/\x1<(p_w.n:Int))then (R9 N (p_w.g x1.toNat)).bind fun y3=>if (!y3) then some 14 else a (wrap .i64 (x1+1)) else none else some 0) 0
def Du (N:Nat)(a:Sl Qz)(b:Sl Qz):Option Bool:= if ((a.n:Int) != (b.n:Int)) then some false else Ao N (fun c (x1:Int)=>if (decide (x1<(a.n:Int))) then if (((0:Int)<=x1/\x1<(a.n:Int))/\((0:Int)<=x1/\x1<(b.n:Int)))then if ((((a.g x1.toNat).Plus==(b.g x1.toNat).Plus)&&((a.g x1.toNat).Minus==(b.g x1.toNat).Minus)) != true) then some false else c (wrap .i64 (x1+1)) else none else some true) 0
theorem Ad2 {a:Sl Qz}{b:Sl Qz}{y:Bool}(h:Du N a b=some y) :FunO S JD [.p (vSl 2 A0 a),.p (vSl 2 A0 b)] [] (pB y) ([]) []:=by
 unfold Du at h;refine A4 Z func82 ?_;apply kI Z h<;>intro h
 .cases h;exact kR Z
 refine CJ Z Nk h (fun x1=>⟨[(5,pN x1),(1,.p (vSl 2 A0 b)),(0,.p (vSl 2 A0 a))],[]⟩) (ids:=[]) (fun _ _ _ _ _ c x1 d h=>?_);apply kI Z h<;>intro h
 .refine T3 Z Nk [2,3,6,7] ?_;obtain⟨c9,h⟩:=P1 h;refine X9 (Ar0 (Ar0 (Ar0 (Ar0 c9.1 P0) c9.2) P0) (by decide +kernel:YL Tryz.prog B1=true)) ?_;apply kI Z h<;>intro h
  .cases h;exact kR Z
  exact d _ [] _ (wrap .i64 (x1+1)) Nk h
 cases h;exact kR Z
def EQ (N:Nat)(p_w:Sl Qz):Option (Sl Qz):= N6 N (fun a (x1:Sl Qz) (x2:Int)=>if (decide (x2<(p_w.n:Int))) then if (((0:Int)<=x2/\x2<(p_w.n:Int))/\((x1.n+(Sl.of [p_w.g x2.toNat]:Sl Qz).n)*8<=140737488355328/\x1.n+(Sl.of [p_w.g x2.toNat]:Sl Qz).n<=140737488355328))then a (x1.push (p_w.g x2.toNat)) (wrap .i64 (x2+1)) else none else some x1) (Sl.nil:Sl Qz) 0
def Y8 (N:Nat)(a:Qz):Option Bool:= some (((E9 .and .u32 a.Plus a.Minus)==0)&&((shI .shr .u32 (E9 .or .u32 a.Plus a.Minus) 24)==0))
theorem OZ {a:Qz}{y:Bool}(h:Y8 N a=some y) :FunO S Ih [.p (.agg (A0 a))] [] (pB y) ([]) []:=by
 unfold Y8 at h;refine A4 Z func115 ?_;obtain⟨t1,c⟩:∃x:Bool,x=(((E9 .and .u32 a.Plus a.Minus)==0)&&((shI .shr .u32 (E9 .or .u32 a.Plus a.Minus) 24)==0)):=⟨_,rfl⟩;refine Tr Z Nk (C6 Z) 0 ⟨[(2,pB t1)],[]⟩ (fun M1 d=>?_) ?_
 .refine FR Z Nk (b:=(E9 .and .u32 a.Plus a.Minus)==0) (fun c2=>?_) (fun c2=>?_)
  .exact d _ [] _ (by decide:(0:Int)<=24) (hle:=klR [(0,.eq (.bb ((shI .shr .u32 (E9 .or .u32 a.Plus a.Minus) 24)==0)) (.bb t1))] (al1 (by simp only[c,c2,Leaf.ok,pm,Nh,Ni]) al0))
  exact d _ [] _ Nk (hle:=klR [(0,.eq (.bb false) (.bb t1))] (al1 (by simp only[c,c2,Leaf.ok,pm,Nh,Ni]) al0))
 subst c;cases h;exact kR Z
def S0 (N:Nat)(p_w:Sl Qz):Option Int:= if (decide (32<(p_w.n:Int))) then some 11 else Ao N (fun a (x1:Int)=>if (decide (x1<(p_w.n:Int))) then if ((0:Int)<=x1/\x1<(p_w.n:Int))then (Y8 N (p_w.g x1.toNat)).bind fun y3=>if (!y3) then some 14 else a (wrap .i64 (x1+1)) else none else some 0) 0
theorem Ep {p_w:Sl Qz}{y:Int}(h:S0 N p_w=some y) :FunO S Ig [.p (vSl 2 A0 p_w)] [] (pN y) ([]) []:=by
 unfold S0 at h;refine A4 Z func76 ?_;apply kI Z h<;>intro h
 .cases h;exact kR Z
 refine CJ Z Nk h (fun x1=>⟨[(10,pN x1),(9,pN (p_w.n:Int)),(8,.p (vSl 2 A0 p_w))],[]⟩) (ids:=[]) (fun _ _ _ _ _ a x1 b h=>?_);apply kI Z h<;>intro h
 .obtain⟨c9,h⟩:=P1 h;obtain⟨y3,e3,h⟩:=D8 h;refine E5 Z [] (Ar0 c9 P0) (OZ Z Y e3) ?_;apply kI Z h<;>intro h
  .cases h;exact kR Z
  exact b _ [] _ (wrap .i64 (x1+1)) Nk h
 cases h;exact kR Z
def D3 (N:Nat)(a:Sl Qz)(b:Sl Qz):Option Bool:= if ((a.n:Int) != (b.n:Int)) then some false else Ao N (fun c (x1:Int)=>if (decide (x1<(a.n:Int))) then if (((0:Int)<=x1/\x1<(a.n:Int))/\((0:Int)<=x1/\x1<(b.n:Int)))then if ((((a.g x1.toNat).Plus==(b.g x1.toNat).Plus)&&((a.g x1.toNat).Minus==(b.g x1.toNat).Minus)) != true) then some false else c (wrap .i64 (x1+1)) else none else some true) 0
theorem V5 {a:Sl Qz}{b:Sl Qz}{y:Bool}(h:D3 N a b=some y) :FunO S J7 [.p (vSl 2 A0 a),.p (vSl 2 A0 b)] [] (pB y) ([]) []:=by
 unfold D3 at h;refine A4 Z func56 ?_;apply kI Z h<;>intro h
 .cases h;exact kR Z
 refine CJ Z Nk h (fun x1=>⟨[(13,pN x1),(12,pN (a.n:Int)),(1,.p (vSl 2 A0 b)),(0,.p (vSl 2 A0 a))],[]⟩) (ids:=[]) (fun _ _ _ _ _ c x1 d h=>?_);apply kI Z h<;>intro h
 .refine T3 Z Nk [2,3,6,7] ?_;obtain⟨c9,h⟩:=P1 h;refine X9 (Ar0 (Ar0 (Ar0 (Ar0 c9.1 P0) c9.2) P0) (by decide +kernel:YL Tryz.prog B1=true)) ?_;apply kI Z h<;>intro h
  .cases h;exact kR Z
  exact d _ [] _ (wrap .i64 (x1+1)) Nk h
 cases h;exact kR Z
def Y9 (N:Nat)(a:Sl Qz)(b:Sl Qz):Option Bool:= (D3 N a b).bind fun y1=>some y1
theorem Im {a:Sl Qz}{b:Sl Qz}{y:Bool}(h:Y9 N a b=some y) :FunO S Id [.p (vSl 2 A0 a),.p (vSl 2 A0 b)] [] (pB y) ([]) []:=by unfold Y9 at h;refine A4 Z func27 ?_;refine kC Z h (V5 Z Y) (fun y1 h=>?_);cases h;exact kR Z
def L0 (N:Nat)(a:Qz):Option Bool:= some (((E9 .and .u32 a.Plus a.Minus)==0)&&((shI .shr .u32 (E9 .or .u32 a.Plus a.Minus) 24)==0))
theorem Cd {a:Qz}{y:Bool}(h:L0 N a=some y) :FunO S Ij [.p (.agg (A0 a))] [] (pB y) ([]) []:=by
 unfold L0 at h;refine A4 Z func167 ?_;obtain⟨t1,c⟩:∃x:Bool,x=(((E9 .and .u32 a.Plus a.Minus)==0)&&((shI .shr .u32 (E9 .or .u32 a.Plus a.Minus) 24)==0)):=⟨_,rfl⟩;refine Tr Z Nk (C6 Z) 0 ⟨[(2,pB t1)],[]⟩ (fun M1 d=>?_) ?_
 .refine FR Z Nk (b:=(E9 .and .u32 a.Plus a.Minus)==0) (fun c2=>?_) (fun c2=>?_)
  .exact d _ [] _ (by decide:(0:Int)<=24) (hle:=klR [(0,.eq (.bb ((shI .shr .u32 (E9 .or .u32 a.Plus a.Minus) 24)==0)) (.bb t1))] (al1 (by simp only[c,c2,Leaf.ok,pm,Nh,Ni]) al0))
  exact d _ [] _ Nk (hle:=klR [(0,.eq (.bb false) (.bb t1))] (al1 (by simp only[c,c2,Leaf.ok,pm,Nh,Ni]) al0))
 subst c;cases h;exact kR Z
def N2 (N:Nat)(b:Int):Option (Nat->Int):= N6 N (fun a (x1:Nat->Int) (x2:Int)=>if (decide (x2<(wrap .i64 (b+1)))) then if (((0:Int)<=x2/\((0:Int)<=x2/\x2<33))/\(0+x2.toNat*1)<33)then a (Jx x1 (0+x2.toNat*1) (shI .shl .u64 1 x2)) (wrap .i64 (x2+1)) else none else some x1) (fun _=>0) 0
theorem BF {a:Int}{y:Nat->Int}(h:N2 N a=some y) :FunO S Em [pN a] [] (.p (.agg (cA 33 (pI .u64) y))) ([]) []:=by
 unfold N2 at h;refine A4 Z func250 ?_;refine W1 Z Nk h (fun x1 x2=>⟨[(7,pN x2),(6,pN (wrap .i64 (a+1))),(3,.reg 4000 0),(2,.reg 3000 0)],[(4000,.arr 33 (fun i=>pI .u64 (x1 i))),(3000,.arr 33 (fun i=>pI .u64 ((fun _=>0) i)))]⟩) (ids:=[(3000,3000),(4000,4000)]) (fun _ _ _ _ _ b x1 x2 d h=>?_) (hle:=klR [(2,.fn 33 33 (fun i=>[(fun i=>(List.replicate 33 (pI .u64 0)).getD i default) i]) (fun i=>[pI .u64 ((fun _=>0) i)])),(3,.fn 33 33 (fun i=>[(fun i=>(List.replicate 33 (pI .u64 0)).getD i default) i]) (fun i=>[pI .u64 ((fun _=>0) i)]))] (al1 ⟨rfl,Av (z:=pI .u64 0) rfl⟩ (al1 ⟨rfl,Av (z:=pI .u64 0) rfl⟩ al0)));apply kI Z h<;>intro h
 .obtain⟨c4,h⟩:=P1 h;exact d _ [(3000,3000),(4000,4000)] _ (Jx x1 (0+x2.toNat*1) (shI .shl .u64 1 x2)) (wrap .i64 (x2+1)) c4 h (hle:=klR [(2,.fn 33 33 (fun i=>[(fun i=>if i=(0+x2.toNat*1)then (pI .u64 (shI .shl .u64 1 x2))else (fun i=>pI .u64 (x1 i)) i) i]) (fun i=>[pI .u64 (Jx x1 (0+x2.toNat*1) (shI .shl .u64 1 x2) i)]))] (al1 ⟨rfl,Ab7 (c:=pI .u64) (v:=x1) (x:=shI .shl .u64 1 x2) (fun _ _=>rfl) rfl⟩ al0))
 obtain rfl:=D0 h;exact A8 Z (Ar0 rfl (E1 _ _):(0:Nat)=0/\(AX 33 (fun i=>pI .u64 (x1 i))).length=33) ⟨[(2,.reg 3000 0)],[(3000,.arr 33 (fun i=>pI .u64 (x1 i)))]⟩ [] (ids:=[(3000,3000)]) ⟨rfl,rfl,rfl⟩ (hle:=klR [(0,.fn 33 33 (fun i=>[(fun i=>(cA 33 (pI .u64) x1).getD i default) i]) (fun i=>[pI .u64 (x1 i)]))] (al1 ⟨rfl,C9 33 (fun i=>pI .u64 (x1 i))⟩ al0))
def J2 (N:Nat)(p_x:Nat->Int)(b:Nat->Int):Option (Nat->Int):= N6 N (fun a (x1:Nat->Int) (x2:Int)=>if (decide (x2<33)) then if (((0:Int)<=x2/\x2<33)/\(0+x2.toNat*1)<33)then if (((((0:Int)<=x2/\x2<33)/\(0+x2.toNat*1)<33)/\((0:Int)<=x2/\x2<33))/\(0+x2.toNat*1)<33)then a (Jx x1 (0+x2.toNat*1) (E9 .or .u64 (x1 (0+x2.toNat*1)) (b (0+x2.toNat*1)))) (wrap .i64 (x2+1)) else none else none else some x1) p_x 0
theorem Ce {p_x:Nat->Int}{a:Nat->Int}{y:Nat->Int}(h:J2 N p_x a=some y) :FunO S Cb [.reg 0 0,.reg 1 0] [.arr 33 (fun i=>pI .u64 (p_x i)),.arr 33 (fun i=>pI .u64 (a i))] (.tup []) ([.arr 33 (fun i=>pI .u64 (y i)),.arr 33 (fun i=>pI .u64 (a i))]) [true,true]:=by
 unfold J2 at h;refine A4 Z func248 ?_;refine W1 Z Nk h (fun x1 x2=>⟨[(7,pN x2),(6,.reg 1 0),(0,.reg 0 0)],[(1,.arr 33 (fun i=>pI .u64 (a i))),(0,.arr 33 (fun i=>pI .u64 (x1 i)))]⟩) (ids:=[(0,0),(1,1)]) (fun _ _ _ _ _ b x1 x2 d h=>?_);apply kI Z h<;>intro h
 .refine Qo Z Nk ?_;obtain⟨c8,h⟩:=P1 h;refine X9 c8 ?_;refine Qo Z Nk ?_;obtain⟨c9,h⟩:=P1 h;refine X9 c9 ?_;exact d _ [(0,0),(1,1)] _ (Jx x1 (0+x2.toNat*1) (E9 .or .u64 (x1 (0+x2.toNat*1)) (a (0+x2.toNat*1)))) (wrap .i64 (x2+1)) Nk h (hle:=klR [(2,.fn 33 33 (fun i=>[(fun i=>if i=(0+x2.toNat*1)then (pI .u64 (E9 .or .u64 (x1 (0+x2.toNat*1)) (a (0+x2.toNat*1))))else (fun i=>pI .u64 (x1 i)) i) i]) (fun i=>[pI .u64 (Jx x1 (0+x2.toNat*1) (E9 .or .u64 (x1 (0+x2.toNat*1)) (a (0+x2.toNat*1))) i)]))] (al1 ⟨rfl,Ab7 (c:=pI .u64) (v:=x1) (x:=E9 .or .u64 (x1 (0+x2.toNat*1)) (a (0+x2.toNat*1))) (fun _ _=>rfl) rfl⟩ al0))
 obtain rfl:=D0 h;exact A8 Z Nk ⟨[],[(1,.arr 33 (fun i=>pI .u64 (a i))),(0,.arr 33 (fun i=>pI .u64 (x1 i)))]⟩ [0,1] (ids:=[(0,0),(1,1)]) ⟨rfl,rfl,rfl⟩
def T7 (N:Nat)(p_w:Sl Qz)(a:Int):Option Int:= if ((decide (a<0))||(decide ((p_w.n:Int)<a))) then some 3 else some 0
theorem GN {p_w:Sl Qz}{b:Int}{y:Int}(h:T7 N p_w b=some y) :FunO S GI [.p (vSl 2 A0 p_w),pN b] [] (pN y) ([]) []:=by
 unfold T7 at h;refine A4 Z func215 ?_;refine kB Z (C6 Z) Nk Nk 5 (.o (.a (decide (b<0))) (.a (decide ((p_w.n:Int)<b)))) ?_;apply kI Z h<;>intro h
 .cases h;exact kR Z
 cases h;exact kR Z
def W7 (N:Nat)(a:Pat):Option Int:= if (if (a.Kind==0) then a.Kind==0 else (if (a.Kind==2) then a.Kind==2 else a.Kind==6)) then lt (fun (z1:Bool)=>if z1 then some 2 else (L0 N a.Is).bind fun y1=>if (!y1) then some 14 else some 0) fun k1=>if (((a.Is.Plus==0)&&(a.Is.Minus==0)) != true) then k1 true else if a.Not then k1 true else if (a.Min != 0) then k1 true else if (a.Max != 0) then k1 true else k1 (decide (0<(a.L.n:Int))) else if (a.Kind==1) then lt (fun (z2:Bool)=>if z2 then some 2 else (L0 N a.Is).bind fun y2=>if (!y2) then some 14 else some 0) fun k2=>if (((0==0)&&(0==0)) != true) then k2 true else if (a.Min != 0) then k2 true else if (a.Max != 0) then k2 true else k2 (decide (0<(a.L.n:Int))) else lt (fun (z3:Int×Int)=>if (((((((a.Is.Plus==0)&&(a.Is.Minus==0)) != true)||a.Not)||(z3.1 != 0))||(z3.2 != 0))||(decide (0<0))) then some 2 else (L0 N a.Is).bind fun y3=>if (!y3) then some 14 else some 0) fun k3=>if (if (a.Kind==3) then a.Kind==3 else a.Kind==4) then k3 (a.Min,a.Max) else if (a.Kind==5) then if (((((a.L.n:Int) != 1)||(decide (a.Min<0)))||(decide (32<a.Min)))||((a.Max != (-1))&&((decide (a.Max<a.Min))||(decide (32<a.Max))))) then some 2 else k3 (0,0) else some 2
theorem KX {c:Pat}{y:Int}(h:W7 N c=some y) :FunO S Fw [.p (.agg (B8 c))] [] (pN y) ([]) []:=by
 unfold W7 at h;refine A4 Z func149 ?_;obtain⟨t1,f⟩:∃x:Bool,x=(if (c.Kind==0) then c.Kind==0 else (if (c.Kind==2) then c.Kind==2 else c.Kind==6)):=⟨_,rfl⟩;refine Tr Z Nk (C6 Z) 0 ⟨[(8,pB t1),(7,pN c.Kind),(3,.reg 4000 0),(1,.reg 2000 0)],[(4000,.cells [pN 0,pU c.Is.Plus,pU c.Is.Minus,pB c.Not,pN c.Min,pN c.Max,.p (.sl false 7 c.L.n (Dn c))]),(2000,.cells ((B8 c).map .p))]⟩ (fun M1 l=>?_) ?_
 .refine E4 Z Nk (b:=c.Kind==0) (fun c3=>?_) (fun c3=>?_)
  .exact l _ [(2000,2000),(4000,4000)] _ Nk (hle:=klR [(0,.eq (.bb (c.Kind==0)) (.bb t1))] (al1 (by simp only[f,c3,Leaf.ok,pm,Nh,Ni]) al0))
  refine E4 Z Nk (b:=c.Kind==2) (fun c4=>?_) (fun c4=>?_)
  .exact l _ [(2000,2000),(4000,4000)] _ Nk (hle:=klR [(0,.eq (.bb (c.Kind==2)) (.bb t1))] (al1 (by simp only[f,c3,c4,Leaf.ok,pm,Nh,Ni]) al0))
  exact l _ [(2000,2000),(4000,4000)] _ Nk (hle:=klR [(0,.eq (.bb (c.Kind==6)) (.bb t1))] (al1 (by simp only[f,c3,c4,Leaf.ok,pm,Nh,Ni]) al0))
 subst f;apply kI Z h<;>intro h
 .refine Se Z (by decide +kernel:YL Tryz.prog B1=true) (C6 Z) h 0 (fun z1=>⟨[(57,pB z1),(1,.reg 2000 0)],[(2000,.cells ((B8 c).map .p))]⟩) (fun M3 k1 d h=>?_) (fun z1 h=>?_)
  .refine kG Z h (fun h=>?_) (fun h=>?_)
   .exact d _ [(2000,2000)] _ true Nk h
   refine kG Z h (fun h=>?_) (fun h=>?_)
   .exact d _ [(2000,2000)] _ true Nk h
   refine kG Z h (fun h=>?_) (fun h=>?_)
   .exact d _ [(2000,2000)] _ true Nk h
   refine kG Z h (fun h=>?_) (fun h=>?_)
   .exact d _ [(2000,2000)] _ true Nk h
   refine Y0 Z Nk 79 ⟨[(78,.p (vSl 7 B8 c.L)),(76,.p (.v (.bool false))),(1,.reg 2000 0)],[(2000,.cells ((B8 c).map .p))]⟩ (ids:=[(2000,2000)]) ?_ (hle:=klR [(0,.fn c.L.n c.L.n (Dn c) (fun i=>B8 (c.L.g i)))] (al1 ⟨rfl,AG c⟩ al0));exact d _ [(2000,2000)] _ (decide (0<(c.L.n:Int))) Nk h
  apply kI Z h<;>intro h
  .cases h;exact kR Z
  refine kC Z h (Cd Z Y) (fun y1 h=>?_);apply kI Z h<;>intro h
  .cases h;exact kR Z
  cases h;exact kR Z
 apply kI Z h<;>intro h
 .refine Se Z (by decide +kernel:YL Tryz.prog B1=true) (C6 Z) h 0 (fun z2=>⟨[(57,pB z2),(1,.reg 2000 0)],[(2000,.cells ((B8 c).map .p))]⟩) (fun M5 k2 j h=>?_) (fun z2 h=>?_)
  .refine kG Z h (fun h=>?_) (fun h=>?_)
   .exact j _ [(2000,2000)] _ true Nk h
   refine FR Z Nk (b:=false) (fun c54=>?_) (fun c54=>?_)
   .exact Bool.noConfusion ((rfl:false=false).symm.trans c54)
   refine kG Z h (fun h=>?_) (fun h=>?_)
   .exact j _ [(2000,2000)] _ true Nk h
   refine kG Z h (fun h=>?_) (fun h=>?_)
   .exact j _ [(2000,2000)] _ true Nk h
   refine Y0 Z Nk 79 ⟨[(78,.p (vSl 7 B8 c.L)),(76,.p (.v (.bool false))),(1,.reg 2000 0)],[(2000,.cells ((B8 c).map .p))]⟩ (ids:=[(2000,2000)]) ?_ (hle:=klR [(0,.fn c.L.n c.L.n (Dn c) (fun i=>B8 (c.L.g i)))] (al1 ⟨rfl,AG c⟩ al0));exact j _ [(2000,2000)] _ (decide (0<(c.L.n:Int))) Nk h
  apply kI Z h<;>intro h
  .cases h;exact kR Z
  refine kC Z h (Cd Z Y) (fun y2 h=>?_);apply kI Z h<;>intro h
  .cases h;exact kR Z
  cases h;exact kR Z
 obtain⟨t4,m⟩:∃x:Bool,x=(if (c.Kind==3) then c.Kind==3 else c.Kind==4):=⟨_,rfl⟩;refine Tr Z Nk (C6 Z) 0 ⟨[(17,pB t4),(7,pN c.Kind),(3,.reg 4000 0),(1,.reg 2000 0)],[(4000,.cells [pN 0,pU c.Is.Plus,pU c.Is.Minus,pB c.Not,pN c.Min,pN c.Max,.p (.sl false 7 c.L.n (Dn c))]),(2000,.cells ((B8 c).map .p))]⟩ (fun M6 q=>?_) ?_
 .refine E4 Z Nk (b:=c.Kind==3) (fun c60=>?_) (fun c60=>?_)
  .exact q _ [(2000,2000),(4000,4000)] _ Nk (hle:=klR [(0,.eq (.bb (c.Kind==3)) (.bb t4))] (al1 (by simp only[m,c60,Leaf.ok,pm,Nh,Ni]) al0))
  exact q _ [(2000,2000),(4000,4000)] _ Nk (hle:=klR [(0,.eq (.bb (c.Kind==4)) (.bb t4))] (al1 (by simp only[m,c60,Leaf.ok,pm,Nh,Ni]) al0))
 subst m;refine Se Z Nk (C6 Z) h 0 (fun z3=>⟨[(3,.reg 4000 0),(1,.reg 2000 0)],[(4000,.cells [pN 0,pU c.Is.Plus,pU c.Is.Minus,pB c.Not,pN z3.1,pN z3.2,.p P4]),(2000,.cells ((B8 c).map .p))]⟩) (fun M7 k3 r h=>?_) (fun z3 h=>?_)
 .apply kI Z h<;>intro h
  .exact r _ [(2000,2000),(4000,4000)] _ (c.Min,c.Max) Nk h
  apply kI Z h<;>intro h
  .refine Y0 Z Nk 25 ⟨[(24,.p (vSl 7 B8 c.L)),(3,.reg 4000 0),(1,.reg 2000 0)],[(4000,.cells [pN 0,pU c.Is.Plus,pU c.Is.Minus,pB c.Not,pN c.Min,pN c.Max,.p (.sl false 7 c.L.n (Dn c))]),(2000,.cells ((B8 c).map .p))]⟩ (ids:=[(2000,2000),(4000,4000)]) ?_ (hle:=klR [(0,.fn c.L.n c.L.n (Dn c) (fun i=>B8 (c.L.g i)))] (al1 ⟨rfl,AG c⟩ al0));refine kB Z (C6 Z) Nk Nk 26 (.o (.o (.o (.a ((c.L.n:Int) != 1)) (.a (decide (c.Min<0)))) (.a (decide (32<c.Min)))) (.n (.a (c.Max != (-1))) (.o (.a (decide (c.Max<c.Min))) (.a (decide (32<c.Max)))))) ?_;apply kI Z h<;>intro h
   .cases h;exact kR Z
   exact r _ [(2000,2000),(4000,4000)] _ (0,0) Nk h
  cases h;exact kR Z
 refine kB Z (C6 Z) (by decide +kernel:YL Tryz.prog B1=true) Nk 19 (.o (.o (.o (.o (.a (((c.Is.Plus==0)&&(c.Is.Minus==0)) != true)) (.a c.Not)) (.a (z3.1 != 0))) (.a (z3.2 != 0))) (.a (decide (0<0)))) ?_;apply kI Z h<;>intro h
 .cases h;exact kR Z
 refine kC Z h (Cd Z Y) (fun y3 h=>?_);apply kI Z h<;>intro h
 .cases h;exact kR Z
 cases h;exact kR Z
def Hv (N:Nat)(a:Pat):Option Int:= if ((decide (a.Kind<0))||(decide (6<a.Kind))) then some 2 else if ((a.Kind != 1)&&((((a.Is.Plus==0)&&(a.Is.Minus==0)) != true)||a.Not)) then some 2 else lt (fun (z1:Bool)=>if z1 then some 2 else if ((a.Kind != 5)&&((a.Min != 0)||(a.Max != 0))) then some 2 else lt (fun (z2:Bool)=>if z2 then some 2 else (R9 N a.Is).bind fun y1=>if (!y1) then some 14 else some 0) fun k2=>if (a.Kind==5) then if ((a.L.n:Int) != 1) then k2 true else if (decide (a.Min<0)) then k2 true else if (decide (32<a.Min)) then k2 true else if (a.Max != (-1)) then if (decide (a.Max<a.Min)) then k2 true else k2 (decide (32<a.Max)) else k2 false else k2 false) fun k1=>if (a.Kind != 3) then if (a.Kind != 4) then if (a.Kind != 5) then k1 (decide (0<(a.L.n:Int))) else k1 false else k1 false else k1 false
def JU (N:Nat)(b:Qz)(a:Qz):Option Bool:= some (((E9 .and .u32 b.Plus a.Plus)==a.Plus)&&((E9 .and .u32 b.Minus a.Minus)==a.Minus))
def ER (N:Nat)(a:Int):Option (Sl Int):= if ((0:Int)<=(wrap .i64 (a+1))/\(wrap .i64 (a+1))<=(wrap .i64 (a+1))/\(wrap .i64 (a+1))*8<=140737488355328/\(wrap .i64 (a+1))<=140737488355328)then N6 N (fun b (x1:Sl Int) (x2:Int)=>if (decide (x2<=a)) then if (((0:Int)<=x2/\((0:Int)<=x2/\x2<(x1.n:Int)))/\x2.toNat<x1.n)then b (x1.upd x2.toNat (shI .shl .u64 1 x2)) (wrap .i64 (x2+1)) else none else some x1) (Sl.rep (wrap .i64 (a+1)).toNat 0:Sl Int) 0 else none
def AN (N:Nat)(p_x:Sl Int)(b:Sl Int):Option (Sl Int):= if ((0:Int)<=(p_x.n:Int)/\(p_x.n:Int)<=(p_x.n:Int)/\(p_x.n:Int)*8<=140737488355328/\(p_x.n:Int)<=140737488355328)then N6 N (fun c (x3:Sl Int) (x4:Int)=>if (decide (x4<(p_x.n:Int))) then N6 N (fun a (x7:Sl Int) (x8:Int)=>if (decide (x8<(b.n:Int))) then if (((0:Int)<=x4/\x4<(p_x.n:Int))/\(0:Int)<=x8)then if ((E9 .and .u64 (shI .shr .u64 (p_x.g x4.toNat) x8) 1)==1) then if ((((((0:Int)<=x4/\x4<(x7.n:Int))/\x4.toNat<x7.n)/\((0:Int)<=x8/\x8<(b.n:Int)))/\((0:Int)<=x4/\x4<(x7.n:Int)))/\x4.toNat<x7.n)then a (x7.upd x4.toNat (E9 .or .u64 (x7.g x4.toNat) (b.g x8.toNat))) (wrap .i64 (x8+1)) else none else a x7 (wrap .i64 (x8+1)) else none else c x7 (wrap .i64 (x4+1))) x3 0 else some x3) (Sl.rep (p_x.n:Int).toNat 0:Sl Int) 0 else none
def ES (N:Nat)(p_x:Sl Int)(b:Sl Int):Option (Sl Int):= if ((0:Int)<=(p_x.n:Int)/\(p_x.n:Int)<=(p_x.n:Int)/\(p_x.n:Int)*8<=140737488355328/\(p_x.n:Int)<=140737488355328)then N6 N (fun a (x1:Sl Int) (x2:Int)=>if (decide (x2<(p_x.n:Int))) then if (((((0:Int)<=x2/\x2<(p_x.n:Int))/\((0:Int)<=x2/\x2<(b.n:Int)))/\((0:Int)<=x2/\x2<(x1.n:Int)))/\x2.toNat<x1.n)then a (x1.upd x2.toNat (E9 .or .u64 (p_x.g x2.toNat) (b.g x2.toNat))) (wrap .i64 (x2+1)) else none else some x1) (Sl.rep (p_x.n:Int).toNat 0:Sl Int) 0 else none
def FS (N:Nat)(p_x:Sl Int)(b:Sl Int):Option Bool:= Ao N (fun a (x1:Int)=>if (decide (x1<(p_x.n:Int))) then if (((0:Int)<=x1/\x1<(p_x.n:Int))/\((0:Int)<=x1/\x1<(b.n:Int)))then if ((p_x.g x1.toNat) != (b.g x1.toNat)) then some false else a (wrap .i64 (x1+1)) else none else some true) 0
end Go.AM
namespace Go.AM
open Go.Proofs.Tryz
variable {N:Nat}
open IntKind (wrap)
open Go.Proofs
set_option maxRecDepth 10000
set_option maxHeartbeats 2000000
variable {S:U6}(Z:G6 S Tryz.prog) (Y:Kt S)
include Z Y
def Aa (rec:Pat->Int->Option Int)(N:Nat)(b:Pat)(a:Int):Option Int:= N6 N (fun c (x1:Int) (x2:Int)=>if ((decide (x2<(b.L.n:Int)))&&(decide (x1<=40))) then if ((0:Int)<=x2/\x2<(b.L.n:Int))then (rec (b.L.g x2.toNat) x1).bind fun y3=>c y3 (wrap .i64 (x2+1)) else none else some x1) (wrap .i64 (a+1)) 0
def Y1:Nat->Pat->Int->Option Int
 |0=>fun _ _=>none
 |N+1=>Aa (Y1 N) N
theorem Pa {rec:Pat->Int->Option Int}(d:∀{b:Pat}{c:Int}{y:Int},rec b c=some y->FunO S Dp [.p (.agg (B8 b)),pN c] [] (pN y) ([]) []){b:Pat}{c:Int}{y:Int}(h:Aa rec N b c=some y) :FunO S Dp [.p (.agg (B8 b)),pN c] [] (pN y) ([]) []:=by
 unfold Aa at h;refine A4 Z func74 ?_;refine W1 Z Nk h (fun x1 x2=>⟨[(6,pN x2),(5,pN x1),(2,.reg 3000 0)],[(3000,.cells ((B8 b).map .p))]⟩) (ids:=[(3000,3000)]) (fun _ _ _ _ _ f x1 x2 j h=>?_);refine Y0 Z Nk 12 ⟨[(11,.p (vSl 7 B8 b.L)),(9,pN x2),(6,pN x2),(5,pN x1),(2,.reg 3000 0)],[(3000,.cells ((B8 b).map .p))]⟩ (ids:=[(3000,3000)]) ?_ (hle:=klR [(0,.fn b.L.n b.L.n (Dn b) (fun i=>B8 (b.L.g i)))] (al1 ⟨rfl,AG b⟩ al0));refine kB Z (C6 Z) Nk Nk 3 (.n (.a (decide (x2<(b.L.n:Int)))) (.a (decide (x1<=40)))) ?_;apply kI Z h<;>intro h
 .refine Y0 Z Nk 23 ⟨[(22,pN x2),(21,.p (vSl 7 B8 b.L)),(6,pN x2),(5,pN x1),(2,.reg 3000 0)],[(3000,.cells ((B8 b).map .p))]⟩ (ids:=[(3000,3000)]) ?_ (hle:=klR [(1,.fn b.L.n b.L.n (Dn b) (fun i=>B8 (b.L.g i)))] (al1 ⟨rfl,AG b⟩ al0));obtain⟨c6,h⟩:=P1 h;obtain⟨y3,e3,h⟩:=D8 h;refine E5 Z [] (Ar0 c6 Q5) (d e3) ?_;exact j _ [(3000,3000)] _ y3 (wrap .i64 (x2+1)) Nk h
 cases h;exact kR Z
theorem QN {b:Pat}{a:Int}{y:Int}(h:Y1 N b a=some y) :FunO S Dp [.p (.agg (B8 b)),pN a] [] (pN y) ([]) []:=by
 induction N generalizing b a y with
 |zero=>cases (show (none:Option Int)=some y from h)
 |succ N ih=>exact Pa Z Y (fun e=>ih e) h
def CP (N:Nat)(a:Pat):Option Int:= (Y1 N a 0).bind fun y1=>some y1
theorem TH {a:Pat}{y:Int}(h:CP N a=some y) :FunO S LW [.p (.agg (B8 a))] [] (pN y) ([]) []:=by unfold CP at h;refine A4 Z func39 ?_;refine kC Z h (QN Z Y) (fun y1 h=>?_);cases h;exact kR Z
def S1 (rec:Pat->Option Int)(N:Nat)(a:Pat):Option Int:= N6 N (fun b (x1:Int) (x2:Int)=>if (decide (x2<(a.L.n:Int))) then if ((0:Int)<=x2/\x2<(a.L.n:Int))then (rec (a.L.g x2.toNat)).bind fun y3=>b (wrap .i64 (x1+y3)) (wrap .i64 (x2+1)) else none else some x1) (if (a.Kind==5) then 1 else 0) 0
def T8:Nat->Pat->Option Int
 |0=>fun _=>none
 |N+1=>S1 (T8 N) N
theorem KY {rec:Pat->Option Int}(d:∀{a:Pat}{y:Int},rec a=some y->FunO S Bm [.p (.agg (B8 a))] [] (pN y) ([]) []){a:Pat}{y:Int}(h:S1 rec N a=some y) :FunO S Bm [.p (.agg (B8 a))] [] (pN y) ([]) []:=by
 unfold S1 at h;refine A4 Z func40 ?_;obtain⟨t1,c⟩:∃x:Int,x=(if (a.Kind==5) then 1 else 0):=⟨_,rfl⟩;refine Tr Z Nk (C6 Z) 0 ⟨[(3,pN t1),(1,.reg 2000 0)],[(2000,.cells ((B8 a).map .p))]⟩ (fun M1 f=>?_) ?_
 .refine E4 Z Nk (b:=a.Kind==5) (fun c2=>?_) (fun c2=>?_)
  .exact f _ [(2000,2000)] _ Nk (hle:=klR [(0,.eq (pI .i64 1) (pI .i64 t1))] (al1 (by simp only[c,c2,Leaf.ok,pm,Nh,Ni]) al0))
  exact f _ [(2000,2000)] _ Nk (hle:=klR [(0,.eq (pI .i64 0) (pI .i64 t1))] (al1 (by simp only[c,c2,Leaf.ok,pm,Nh,Ni]) al0))
 subst c;refine W1 Z Nk h (fun x1 x2=>⟨[(4,pN x2),(3,pN x1),(1,.reg 2000 0)],[(2000,.cells ((B8 a).map .p))]⟩) (ids:=[(2000,2000)]) (fun _ _ _ _ _ j x1 x2 l h=>?_);refine Y0 Z Nk 11 ⟨[(10,.p (vSl 7 B8 a.L)),(8,pN x2),(4,pN x2),(3,pN x1),(1,.reg 2000 0)],[(2000,.cells ((B8 a).map .p))]⟩ (ids:=[(2000,2000)]) ?_ (hle:=klR [(0,.fn a.L.n a.L.n (Dn a) (fun i=>B8 (a.L.g i)))] (al1 ⟨rfl,AG a⟩ al0));apply kI Z h<;>intro h
 .refine Y0 Z Nk 19 ⟨[(18,pN x2),(17,.p (vSl 7 B8 a.L)),(15,pN x1),(4,pN x2),(1,.reg 2000 0)],[(2000,.cells ((B8 a).map .p))]⟩ (ids:=[(2000,2000)]) ?_ (hle:=klR [(1,.fn a.L.n a.L.n (Dn a) (fun i=>B8 (a.L.g i)))] (al1 ⟨rfl,AG a⟩ al0));obtain⟨c8,h⟩:=P1 h;obtain⟨y3,e3,h⟩:=D8 h;refine E5 Z [] (Ar0 c8 Q5) (d e3) ?_;exact l _ [(2000,2000)] _ (wrap .i64 (x1+y3)) (wrap .i64 (x2+1)) Nk h
 cases h;exact kR Z
theorem Nm {a:Pat}{y:Int}(h:T8 N a=some y) :FunO S Bm [.p (.agg (B8 a))] [] (pN y) ([]) []:=by
 induction N generalizing a y with
 |zero=>cases (show (none:Option Int)=some y from h)
 |succ N ih=>exact KY Z Y (fun e=>ih e) h
def Bq (N:Nat)(p_laws:Sl Law):Option Int:= N6 N (fun b (x3:Int) (x4:Int)=>if ((decide (x4<(p_laws.n:Int)))&&(decide (x4<=300))) then if (((0:Int)<=x4/\x4<(p_laws.n:Int))/\((0:Int)<=x4/\x4<(p_laws.n:Int)))then N6 N (fun a (x7:Int) (x8:Int)=>if (decide (x8<((Sl.of [(p_laws.g x4.toNat).Left,(p_laws.g x4.toNat).Right]:Sl Pat).n:Int))) then if ((0:Int)<=x8/\x8<((Sl.of [(p_laws.g x4.toNat).Left,(p_laws.g x4.toNat).Right]:Sl Pat).n:Int))then (CP N ((Sl.of [(p_laws.g x4.toNat).Left,(p_laws.g x4.toNat).Right]:Sl Pat).g x8.toNat)).bind fun c=>if (decide (c<=40)) then (T8 N ((Sl.of [(p_laws.g x4.toNat).Left,(p_laws.g x4.toNat).Right]:Sl Pat).g x8.toNat)).bind fun d=>a (wrap .i64 (x7+d)) (wrap .i64 (x8+1)) else a x7 (wrap .i64 (x8+1)) else none else b (if x3<x7 then x7 else x3) (wrap .i64 (x4+1))) 0 0 else none else some x3) 0 0
theorem TI {p_laws:Sl Law}{y:Int}(h:Bq N p_laws=some y) :FunO S LT [.p (vSl 18 A5 p_laws)] [] (pN y) ([]) []:=by
 unfold Bq at h;refine A4 Z func14 ?_;refine W1 Z Nk h (fun x3 x4=>⟨[(4,pN x4),(3,pN x3),(0,.p (vSl 18 A5 p_laws))],[]⟩) (ids:=[]) (fun _ _ _ _ _ c x3 x4 d h=>?_);refine kB Z (C6 Z) Nk Nk 3 (.n (.a (decide (x4<(p_laws.n:Int)))) (.a (decide (x4<=300)))) ?_;apply kI Z h<;>intro h
 .refine T3 Z Nk [2,4,7,9] ?_;obtain⟨c24,h⟩:=P1 h;refine Dk (Ar0 (Ar0 (Ar0 c24.1 (by decide:(7:Nat)<=17)) c24.2) (by decide:(7:Nat)<=10)) (x:=.sl true 7 2 (G7 [pI .i64 0,pI .u32 0,pI .u32 0,.v (.bool false),pI .i64 0,pI .i64 0,P4] [(0,B8 (p_laws.g x4.toNat).Left),(1,B8 (p_laws.g x4.toNat).Right)])) ?_;refine X9 Nk ?_;refine W1 Z Nk h (fun x7 x8=>⟨[(30,pN x8),(29,pN ((Sl.of [(p_laws.g x4.toNat).Left,(p_laws.g x4.toNat).Right]:Sl Pat).n:Int)),(28,.p (vSl 7 B8 (Sl.of [(p_laws.g x4.toNat).Left,(p_laws.g x4.toNat).Right]:Sl Pat))),(5,pN x7),(4,pN x4),(3,pN x3),(0,.p (vSl 18 A5 p_laws))],[]⟩) (ids:=[]) (fun _ _ _ _ _ f x7 x8 b h=>?_) (hle:=klR [(2,.fn 2 (Sl.of [(p_laws.g x4.toNat).Left,(p_laws.g x4.toNat).Right]:Sl Pat).n (G7 [pI .i64 0,pI .u32 0,pI .u32 0,.v (.bool false),pI .i64 0,pI .i64 0,P4] [(0,B8 (p_laws.g x4.toNat).Left),(1,B8 (p_laws.g x4.toNat).Right)]) (fun i=>B8 ((Sl.of [(p_laws.g x4.toNat).Left,(p_laws.g x4.toNat).Right]:Sl Pat).g i)))] (al1 ⟨rfl,(fun i j=>match i,j with|0,_=>rfl|1,_=>rfl|_+2,j=>Ng j (by omega))⟩ al0));apply kI Z h<;>intro h
  .obtain⟨c32,h⟩:=P1 h;refine CL Z (Ar0 c32 Q5) 34 8000 (B8 ((Sl.of [(p_laws.g x4.toNat).Left,(p_laws.g x4.toNat).Right]:Sl Pat).g x8.toNat)) ?_;obtain⟨m,e17,h⟩:=D8 h;refine E5 Z [] Q5 (TH Z Y e17) ?_;apply kI Z h<;>intro h
   .obtain⟨l,e18,h⟩:=D8 h;refine E5 Z [] Q5 (Nm Z Y e18) ?_;exact b _ [] _ (wrap .i64 (x7+l)) (wrap .i64 (x8+1)) Nk h
   exact b _ [] _ x7 (wrap .i64 (x8+1)) Nk h
  exact d _ [] _ (if x3<x7 then x7 else x3) (wrap .i64 (x4+1)) Nk h
 cases h;exact kR Z
def AO (rec:Pat->Int->Option (Int×Int))(N:Nat)(b:Pat)(a:Int):Option (Int×Int):= if (a==40) then some (a,12) else (Hv N b).bind fun y1=>if (y1 != 0) then some (a,y1) else N6 N (fun c (x1:Int) (x2:Int)=>if (decide (x2<(b.L.n:Int))) then if ((0:Int)<=x2/\x2<(b.L.n:Int))then (rec (b.L.g x2.toNat) x1).bind fun y4=>if (y4.2 != 0) then some (y4.1,y4.2) else c y4.1 (wrap .i64 (x2+1)) else none else some (x1,0)) (wrap .i64 (a+1)) 0
def CQ:Nat->Pat->Int->Option (Int×Int)
 |0=>fun _ _=>none
 |N+1=>AO (CQ N) N
def BG (N:Nat)(a:Pat):Option Int:= (CQ N a 0).bind fun y1=>some y1.2
def CR (N:Nat)(a:Str):Option Bool:= Ao N (fun b (x1:Int)=>if (decide (x1<(a.length:Int))) then if ((0:Int)<=x1/\x1<(a.length:Int))then if (!(((((decide (97<=(Gt a x1)))&&(decide ((Gt a x1)<=122)))||((decide (65<=(Gt a x1)))&&(decide ((Gt a x1)<=90))))||((decide (48<=(Gt a x1)))&&(decide ((Gt a x1)<=57))))||((Gt a x1)==45))) then some false else b (wrap .i64 (x1+1)) else none else some ((decide (1<=(a.length:Int)))&&(decide ((a.length:Int)<=24)))) 0
def Hw (N:Nat)(p_x:Ap)(a:Int):Option Bool:= lt (fun (z1:Bool)=>if z1 then some false else if ((((E9 .and .u32 p_x.Clear (E9 .or .u32 p_x.Set.Plus p_x.Set.Minus)) != 0)||((E9 .and .u32 p_x.Take (E9 .or .u32 p_x.Set.Plus p_x.Set.Minus)) != 0))||((E9 .and .u32 p_x.Take p_x.Clear) != 0)) then some false else if (p_x.Take==0) then some (p_x.Of==0) else some ((decide (0<=p_x.Of))&&(decide (p_x.Of<a)))) fun k1=>if (decide (p_x.From<(-1))) then k1 true else if (decide (a<=p_x.From)) then k1 true else (I1 N p_x.Set).bind fun y2=>if (!y2) then k1 true else if ((E9 .andNot .u32 p_x.Clear 16777215) != 0) then k1 true else k1 ((E9 .andNot .u32 p_x.Take 16777215) != 0)
def BH (N:Nat)(a:Law):Option Int:= (CR N a.Name).bind fun y1=>lt (fun (z1:Bool)=>if z1 then some 17 else if (((((decide (4<(a.If.n:Int)))||(decide (6<(a.Out.n:Int))))||((wrap .i64 ((a.If.n:Int)+(a.Out.n:Int)))==0))||(decide (a.Mode<1)))||(decide (3<a.Mode))) then some 17 else Ao N (fun b (x2:Int)=>if (decide (x2<(a.If.n:Int))) then if ((0:Int)<=x2/\x2<(a.If.n:Int))then (I1 N (a.If.g x2.toNat)).bind fun y8=>if (!y8) then some 17 else b (wrap .i64 (x2+1)) else none else Ao N (fun c (x3:Int)=>if (decide (x3<(a.Out.n:Int))) then if ((0:Int)<=x3/\x3<(a.Out.n:Int))then (Hw N (a.Out.g x3.toNat) (a.If.n:Int)).bind fun d=>if (!d) then some 17 else c (wrap .i64 (x3+1)) else none else some 0) 0) 0) fun k1=>if (!y1) then k1 true else (BG N a.Left).bind fun y4=>if (y4 != 0) then k1 true else (BG N a.Right).bind fun y5=>k1 (y5 != 0)
def BI (N:Nat)(p_laws:Sl Law):Option Int:= if (decide (64<(p_laws.n:Int))) then some 12 else Ao N (fun a (x1:Int)=>if (decide (x1<(p_laws.n:Int))) then if ((0:Int)<=x1/\x1<(p_laws.n:Int))then (BH N (p_laws.g x1.toNat)).bind fun y3=>if (y3 != 0) then some 17 else a (wrap .i64 (x1+1)) else none else some 0) 0
def JV (N:Nat)(a:Law)(p_w:Sl Qz):Option Int:= (BH N a).bind fun y1=>if (y1 != 0) then some y1 else (Az N p_w).bind fun y2=>some y2
def ET (N:Nat)(a:Pat)(p_w:Sl Qz):Option Int:= (BG N a).bind fun y1=>if (y1==0) then (Az N p_w).bind fun y2=>some y2 else some y1
def Dv (rec:Pat->(Sl Qz)->Option (Sl Int))(N:Nat)(a:Pat)(p_w:Sl Qz):Option (Sl Int):= if ((0:Int)<=(wrap .i64 ((p_w.n:Int)+1))/\(wrap .i64 ((p_w.n:Int)+1))<=(wrap .i64 ((p_w.n:Int)+1))/\(wrap .i64 ((p_w.n:Int)+1))*8<=140737488355328/\(wrap .i64 ((p_w.n:Int)+1))<=140737488355328)then N6 N (fun b (x1:Sl Int) (x2:Int)=>if (decide (x2<=(p_w.n:Int))) then if (a.Kind==0) then if (((0:Int)<=x2/\((0:Int)<=x2/\x2<(x1.n:Int)))/\x2.toNat<x1.n)then b (x1.upd x2.toNat (shI .shl .u64 1 x2)) (wrap .i64 (x2+1)) else none else if (a.Kind==1) then if (decide (x2<(p_w.n:Int))) then if ((0:Int)<=x2/\x2<(p_w.n:Int))then (JU N (p_w.g x2.toNat) a.Is).bind fun y3=>if ((y3==a.Not) != true) then if (((0:Int)<=(wrap .i64 (x2+1))/\((0:Int)<=x2/\x2<(x1.n:Int)))/\x2.toNat<x1.n)then b (x1.upd x2.toNat (shI .shl .u64 1 (wrap .i64 (x2+1)))) (wrap .i64 (x2+1)) else none else b x1 (wrap .i64 (x2+1)) else none else b x1 (wrap .i64 (x2+1)) else if (a.Kind==2) then if (x2==0) then if (((0:Int)<=x2/\x2<(x1.n:Int))/\x2.toNat<x1.n)then b (x1.upd x2.toNat 1) (wrap .i64 (x2+1)) else none else b x1 (wrap .i64 (x2+1)) else if (a.Kind==6) then if (x2==(p_w.n:Int)) then if (((0:Int)<=x2/\((0:Int)<=x2/\x2<(x1.n:Int)))/\x2.toNat<x1.n)then b (x1.upd x2.toNat (shI .shl .u64 1 x2)) (wrap .i64 (x2+1)) else none else b x1 (wrap .i64 (x2+1)) else b x1 (wrap .i64 (x2+1)) else if (a.Kind==3) then (ER N (p_w.n:Int)).bind fun y4=>N6 N (fun f (x3:Sl Int) (x4:Int)=>if (decide (x4<(a.L.n:Int))) then if ((0:Int)<=x4/\x4<(a.L.n:Int))then (rec (a.L.g x4.toNat) p_w).bind fun y9=>(AN N x3 y9).bind fun m=>f m (wrap .i64 (x4+1)) else none else some x3) y4 0 else if (a.Kind==4) then N6 N (fun i (x5:Sl Int) (x6:Int)=>if (decide (x6<(a.L.n:Int))) then if ((0:Int)<=x6/\x6<(a.L.n:Int))then (rec (a.L.g x6.toNat) p_w).bind fun o=>(ES N x5 o).bind fun q=>i q (wrap .i64 (x6+1)) else none else some x5) x1 0 else if (a.Kind==5) then if ((0:Int)<=0/\0<(a.L.n:Int))then (rec (a.L.g 0) p_w).bind fun l=>(ER N (p_w.n:Int)).bind fun r=>Ag9 N (fun c (x8:Sl Int) (x9:Sl Int) (d:Int)=>if (decide (a.Min<=d)) then (ES N x8 x9).bind fun j=>lt (fun (z3:Bool)=>if z3 then some j else (AN N x9 l).bind fun s=>c j s (wrap .i64 (d+1))) fun k3=>if (d==a.Max) then k3 true else if (decide (a.Min<d)) then (FS N x8 j).bind fun t=>k3 t else k3 false else (AN N x9 l).bind fun u=>c x8 u (wrap .i64 (d+1))) x1 r 0 else none else some x1) (Sl.rep (wrap .i64 ((p_w.n:Int)+1)).toNat 0:Sl Int) 0 else none
def BJ:Nat->Pat->(Sl Qz)->Option (Sl Int)
 |0=>fun _ _=>none
 |N+1=>Dv (BJ N) N
def Er (N:Nat)(c:Pat)(p_w:Sl Qz)(a:Int):Option ((Sl Int)×Int):= (ET N c p_w).bind fun y1=>if (y1 != 0) then some (Qv,y1) else if ((decide (a<0))||(decide ((p_w.n:Int)<a))) then some (Qv,3) else (BJ N c p_w).bind fun y2=>N6 N (fun b (x1:Sl Int) (x2:Int)=>if (decide (x2<=(p_w.n:Int))) then if ((((0:Int)<=x2/\x2<(y2.n:Int))/\x2.toNat<y2.n)/\(0:Int)<=a)then if ((E9 .and .u64 (shI .shr .u64 (y2.g x2.toNat) a) 1)==1) then if ((x1.n+(Sl.of [x2]:Sl Int).n)*8<=140737488355328/\x1.n+(Sl.of [x2]:Sl Int).n<=140737488355328)then b (x1.push x2) (wrap .i64 (x2+1)) else none else b x1 (wrap .i64 (x2+1)) else none else some (x1,0)) Qv 0
def Hx (N:Nat)(c:Pat)(p_w:Sl Qz)(a:Int):Option ((Sl Int)×Int):= (ET N c p_w).bind fun y1=>if (y1 != 0) then some (Qv,y1) else if ((decide (a<0))||(decide ((p_w.n:Int)<a))) then some (Qv,3) else (BJ N c p_w).bind fun y2=>N6 N (fun b (x1:Sl Int) (x2:Int)=>if (decide (x2<=(p_w.n:Int))) then if ((((0:Int)<=a/\a<(y2.n:Int))/\a.toNat<y2.n)/\(0:Int)<=x2)then if ((E9 .and .u64 (shI .shr .u64 (y2.g a.toNat) x2) 1)==1) then if ((x1.n+(Sl.of [x2]:Sl Int).n)*8<=140737488355328/\x1.n+(Sl.of [x2]:Sl Int).n<=140737488355328)then b (x1.push x2) (wrap .i64 (x2+1)) else none else b x1 (wrap .i64 (x2+1)) else none else some (x1,0)) Qv 0
def AP (N:Nat)(a:Law)(p_w:Sl Qz)(b:Int):Option Bool:= if ((decide (b<0))||(decide ((p_w.n:Int)<(wrap .i64 (b+(a.If.n:Int)))))) then some false else Ao N (fun c (x1:Int)=>if (decide (x1<(a.If.n:Int))) then if (((0:Int)<=(wrap .i64 (b+x1))/\(wrap .i64 (b+x1))<(p_w.n:Int))/\((0:Int)<=x1/\x1<(a.If.n:Int)))then (R7 N (p_w.g (wrap .i64 (b+x1)).toNat) (a.If.g x1.toNat)).bind fun y3=>if (!y3) then some false else c (wrap .i64 (x1+1)) else none else (Er N a.Left p_w b).bind fun y4=>(Hx N a.Right p_w (wrap .i64 (b+(a.If.n:Int)))).bind fun y5=>some ((decide (0<(y4.1.n:Int)))&&(decide (0<(y5.1.n:Int))))) 0
def BK (N:Nat)(a:Law)(b:Sl Qz):Option (Sl Qz):= N6 N (fun c (x1:Sl Qz) (x2:Int)=>if (decide (x2<(a.Out.n:Int))) then if ((0:Int)<=x2/\x2<(a.Out.n:Int))then if ((decide (0<=(a.Out.g x2.toNat).From))=true->((0:Int)<=(a.Out.g x2.toNat).From/\(a.Out.g x2.toNat).From<(b.n:Int)))then (R8 N (⟨(if (decide (0<=(a.Out.g x2.toNat).From)) then (b.g (a.Out.g x2.toNat).From.toNat).Plus else 0),(if (decide (0<=(a.Out.g x2.toNat).From)) then (b.g (a.Out.g x2.toNat).From.toNat).Minus else 0)⟩:Qz) (a.Out.g x2.toNat).Clear (a.Out.g x2.toNat).Set).bind fun y5=>if ((a.Out.g x2.toNat).Take != 0) then if ((0:Int)<=(a.Out.g x2.toNat).Of/\(a.Out.g x2.toNat).Of<(b.n:Int))then (Ay N y5.1 (b.g (a.Out.g x2.toNat).Of.toNat) (a.Out.g x2.toNat).Take).bind fun y6=>if ((x1.n+(Sl.of [y6.1]:Sl Qz).n)*8<=140737488355328/\x1.n+(Sl.of [y6.1]:Sl Qz).n<=140737488355328)then c (x1.push y6.1) (wrap .i64 (x2+1)) else none else none else if ((x1.n+(Sl.of [y5.1]:Sl Qz).n)*8<=140737488355328/\x1.n+(Sl.of [y5.1]:Sl Qz).n<=140737488355328)then c (x1.push y5.1) (wrap .i64 (x2+1)) else none else none else none else some x1) (Sl.nil:Sl Qz) 0
def T9 (N:Nat)(b:Law)(p_w:Sl Qz)(a:Int):Option (Sl Qz):= if (((0:Int)<=a/\a<=(p_w.n:Int))/\(((Sl.of []:Sl Qz).n+(p_w.take a.toNat).n)*8<=140737488355328/\(Sl.of []:Sl Qz).n+(p_w.take a.toNat).n<=140737488355328))then if ((0:Int)<=a/\a<=(wrap .i64 (a+(b.If.n:Int)))/\(wrap .i64 (a+(b.If.n:Int)))<=(p_w.n:Int))then (BK N b (p_w.sub a.toNat (wrap .i64 (a+(b.If.n:Int))).toNat)).bind fun y1=>if ((((Sl.of []:Sl Qz).app (p_w.take a.toNat)).n+y1.n)*8<=140737488355328/\((Sl.of []:Sl Qz).app (p_w.take a.toNat)).n+y1.n<=140737488355328)then if (((0:Int)<=(wrap .i64 (a+(b.If.n:Int)))/\(wrap .i64 (a+(b.If.n:Int)))<=(p_w.n:Int))/\(((((Sl.of []:Sl Qz).app (p_w.take a.toNat)).app y1).n+(p_w.drop (wrap .i64 (a+(b.If.n:Int))).toNat).n)*8<=140737488355328/\(((Sl.of []:Sl Qz).app (p_w.take a.toNat)).app y1).n+(p_w.drop (wrap .i64 (a+(b.If.n:Int))).toNat).n<=140737488355328))then some ((((Sl.of []:Sl Qz).app (p_w.take a.toNat)).app y1).app (p_w.drop (wrap .i64 (a+(b.If.n:Int))).toNat)) else none else none else none else none
def JW (N:Nat)(a:Law)(p_w:Sl Qz):Option ((Sl Int)×(Sl (Sl Qz))×Int):= XG N (fun b (x2:Sl Int) (x3:Sl (Sl Qz)) (x4:Sl Qz) (x5:Int)=>if (decide (x5<=(p_w.n:Int))) then (AP N a p_w x5).bind fun y5=>if (!y5) then lt (fun (z3:Sl Qz)=>b x2 x3 z3 (wrap .i64 (x5+1))) fun k3=>if (decide (x5<(p_w.n:Int))) then if (((0:Int)<=x5/\x5<(p_w.n:Int))/\((x4.n+(Sl.of [p_w.g x5.toNat]:Sl Qz).n)*8<=140737488355328/\x4.n+(Sl.of [p_w.g x5.toNat]:Sl Qz).n<=140737488355328))then k3 (x4.push (p_w.g x5.toNat)) else none else k3 x4 else if ((0:Int)<=x5/\x5<=(wrap .i64 (x5+(a.If.n:Int)))/\(wrap .i64 (x5+(a.If.n:Int)))<=(p_w.n:Int))then (BK N a (p_w.sub x5.toNat (wrap .i64 (x5+(a.If.n:Int))).toNat)).bind fun y6=>if ((x4.n+y6.n)*8<=140737488355328/\x4.n+y6.n<=140737488355328)then if ((x2.n+(Sl.of [x5]:Sl Int).n)*8<=140737488355328/\x2.n+(Sl.of [x5]:Sl Int).n<=140737488355328)then if (((((Sl.of []:Sl Qz).n+(x4.app y6).n)*8<=140737488355328/\(Sl.of []:Sl Qz).n+(x4.app y6).n<=140737488355328)/\((0:Int)<=(wrap .i64 (x5+(a.If.n:Int)))/\(wrap .i64 (x5+(a.If.n:Int)))<=(p_w.n:Int)))/\((((Sl.of []:Sl Qz).app (x4.app y6)).n+(p_w.drop (wrap .i64 (x5+(a.If.n:Int))).toNat).n)*8<=140737488355328/\((Sl.of []:Sl Qz).app (x4.app y6)).n+(p_w.drop (wrap .i64 (x5+(a.If.n:Int))).toNat).n<=140737488355328))then if (decide (32<((((Sl.of []:Sl Qz).app (x4.app y6)).app (p_w.drop (wrap .i64 (x5+(a.If.n:Int))).toNat)).n:Int))) then some (Qv,(Sl.nil:Sl (Sl Qz)),11) else if ((x3.n+(Sl.of [((Sl.of []:Sl Qz).app (x4.app y6)).app (p_w.drop (wrap .i64 (x5+(a.If.n:Int))).toNat)]:Sl (Sl Qz)).n)*24<=140737488355328/\x3.n+(Sl.of [((Sl.of []:Sl Qz).app (x4.app y6)).app (p_w.drop (wrap .i64 (x5+(a.If.n:Int))).toNat)]:Sl (Sl Qz)).n<=140737488355328)then if ((a.If.n:Int)==0) then if (decide ((wrap .i64 (x5+(a.If.n:Int)))<(p_w.n:Int))) then if (((0:Int)<=(wrap .i64 (x5+(a.If.n:Int)))/\(wrap .i64 (x5+(a.If.n:Int)))<(p_w.n:Int))/\(((x4.app y6).n+(Sl.of [p_w.g (wrap .i64 (x5+(a.If.n:Int))).toNat]:Sl Qz).n)*8<=140737488355328/\(x4.app y6).n+(Sl.of [p_w.g (wrap .i64 (x5+(a.If.n:Int))).toNat]:Sl Qz).n<=140737488355328))then b (x2.push x5) (x3.push (((Sl.of []:Sl Qz).app (x4.app y6)).app (p_w.drop (wrap .i64 (x5+(a.If.n:Int))).toNat))) ((x4.app y6).push (p_w.g (wrap .i64 (x5+(a.If.n:Int))).toNat)) (wrap .i64 ((wrap .i64 (x5+(a.If.n:Int)))+1)) else none else b (x2.push x5) (x3.push (((Sl.of []:Sl Qz).app (x4.app y6)).app (p_w.drop (wrap .i64 (x5+(a.If.n:Int))).toNat))) (x4.app y6) (wrap .i64 ((wrap .i64 (x5+(a.If.n:Int)))+1)) else b (x2.push x5) (x3.push (((Sl.of []:Sl Qz).app (x4.app y6)).app (p_w.drop (wrap .i64 (x5+(a.If.n:Int))).toNat))) (x4.app y6) (wrap .i64 (x5+(a.If.n:Int))) else none else none else none else none else none else some (x2,x3,0)) Qv (Sl.nil:Sl (Sl Qz)) (Sl.nil:Sl Qz) 0
def FT (N:Nat)(b:Law)(p_w:Sl Qz):Option ((Sl Int)×(Sl (Sl Qz))×Int):= XG N (fun a (x1:Sl Qz) (x2:Sl Int) (x3:Sl (Sl Qz)) (x4:Int)=>if (decide ((wrap .i64 (x4+(b.If.n:Int)))<=(x1.n:Int))) then (AP N b x1 x4).bind fun y5=>if (!y5) then a x1 x2 x3 (wrap .i64 (x4+1)) else (T9 N b x1 x4).bind fun y6=>if (decide (32<(y6.n:Int))) then some (Qv,(Sl.nil:Sl (Sl Qz)),11) else if (((x2.n+(Sl.of [x4]:Sl Int).n)*8<=140737488355328/\x2.n+(Sl.of [x4]:Sl Int).n<=140737488355328)/\((x3.n+(Sl.of [y6]:Sl (Sl Qz)).n)*24<=140737488355328/\x3.n+(Sl.of [y6]:Sl (Sl Qz)).n<=140737488355328))then if ((b.If.n:Int)==0) then a y6 (x2.push x4) (x3.push y6) (wrap .i64 ((wrap .i64 (x4+(b.Out.n:Int)))+1)) else a y6 (x2.push x4) (x3.push y6) (wrap .i64 (x4+(b.Out.n:Int))) else none else some (x2,x3,0)) p_w Qv (Sl.nil:Sl (Sl Qz)) 0
def EU (N:Nat)(b:Law)(p_w:Sl Qz):Option ((Sl Int)×(Sl (Sl Qz))×Int):= XG N (fun a (x1:Sl Qz) (x2:Sl Int) (x3:Sl (Sl Qz)) (x4:Int)=>if (decide (0<=x4)) then (AP N b x1 x4).bind fun y5=>if (!y5) then a x1 x2 x3 (wrap .i64 (x4-1)) else (T9 N b x1 x4).bind fun y6=>if (decide (32<(y6.n:Int))) then some (Qv,(Sl.nil:Sl (Sl Qz)),11) else if (((x2.n+(Sl.of [x4]:Sl Int).n)*8<=140737488355328/\x2.n+(Sl.of [x4]:Sl Int).n<=140737488355328)/\((x3.n+(Sl.of [y6]:Sl (Sl Qz)).n)*24<=140737488355328/\x3.n+(Sl.of [y6]:Sl (Sl Qz)).n<=140737488355328))then if ((b.If.n:Int)==0) then a y6 (x2.push x4) (x3.push y6) (wrap .i64 ((wrap .i64 (x4-(b.If.n:Int)))-1)) else a y6 (x2.push x4) (x3.push y6) (wrap .i64 (x4-(b.If.n:Int))) else none else some (x2,x3,0)) p_w Qv (Sl.nil:Sl (Sl Qz)) (wrap .i64 ((p_w.n:Int)-(b.If.n:Int)))
def FU (N:Nat)(a:Law)(p_w:Sl Qz):Option ((Sl Int)×(Sl (Sl Qz))×Int):= (JV N a p_w).bind fun y1=>if (y1 != 0) then some (Qv,(Sl.nil:Sl (Sl Qz)),y1) else if (a.Mode==1) then (JW N a p_w).bind fun y2=>some (y2.1,y2.2.1,y2.2.2) else if (a.Mode==2) then (FT N a p_w).bind fun y3=>some (y3.1,y3.2.1,y3.2.2) else (EU N a p_w).bind fun y4=>some (y4.1,y4.2.1,y4.2.2)
def Dw (N:Nat)(a:Law)(p_w:Sl Qz):Option ((Sl Qz)×Int):= (FU N a p_w).bind fun y1=>if (y1.2.2 != 0) then some ((Sl.nil:Sl Qz),y1.2.2) else if ((y1.2.1.n:Int)==0) then if (((Sl.of []:Sl Qz).n+p_w.n)*8<=140737488355328/\(Sl.of []:Sl Qz).n+p_w.n<=140737488355328)then some ((Sl.of []:Sl Qz).app p_w,0) else none else if ((((0:Int)<=(wrap .i64 ((y1.2.1.n:Int)-1))/\(wrap .i64 ((y1.2.1.n:Int)-1))<(y1.2.1.n:Int))/\(wrap .i64 ((y1.2.1.n:Int)-1)).toNat<y1.2.1.n)/\(((Sl.of []:Sl Qz).n+(y1.2.1.g (wrap .i64 ((y1.2.1.n:Int)-1)).toNat).n)*8<=140737488355328/\(Sl.of []:Sl Qz).n+(y1.2.1.g (wrap .i64 ((y1.2.1.n:Int)-1)).toNat).n<=140737488355328))then some ((Sl.of []:Sl Qz).app (y1.2.1.g (wrap .i64 ((y1.2.1.n:Int)-1)).toNat),0) else none
def JX (N:Nat)(p_laws:Sl Law)(p_w:Sl Qz):Option ((Sl (Sl Qz))×Int):= (BI N p_laws).bind fun y1=>lt (fun (z1:Int)=>if (z1 != 0) then some ((Sl.nil:Sl (Sl Qz)),z1) else (EQ N p_w).bind fun y4=>N6 N (fun a (x2:Sl (Sl Qz)) (x3:Int)=>if (decide (x3<(p_laws.n:Int))) then if ((((0:Int)<=x3/\x3<(p_laws.n:Int))/\((0:Int)<=x3/\x3<(x2.n:Int)))/\x3.toNat<x2.n)then (Dw N (p_laws.g x3.toNat) (x2.g x3.toNat)).bind fun y7=>if (y7.2 != 0) then some ((Sl.nil:Sl (Sl Qz)),y7.2) else if ((x2.n+(Sl.of [y7.1]:Sl (Sl Qz)).n)*24<=140737488355328/\x2.n+(Sl.of [y7.1]:Sl (Sl Qz)).n<=140737488355328)then a (x2.push y7.1) (wrap .i64 (x3+1)) else none else none else some (x2,0)) (Sl.of [y4]:Sl (Sl Qz)) 0) fun k1=>if (y1==0) then (Az N p_w).bind fun y3=>k1 y3 else k1 y1
def Es (N:Nat)(p_laws:Sl Law)(p_w:Sl Qz):Option ((Sl Qz)×Int):= (JX N p_laws p_w).bind fun y1=>if (y1.2 != 0) then some ((Sl.nil:Sl Qz),y1.2) else if (((0:Int)<=(wrap .i64 ((y1.1.n:Int)-1))/\(wrap .i64 ((y1.1.n:Int)-1))<(y1.1.n:Int))/\(wrap .i64 ((y1.1.n:Int)-1)).toNat<y1.1.n)then some (y1.1.g (wrap .i64 ((y1.1.n:Int)-1)).toNat,0) else none
end Go.AM
namespace Go.AM
open Go.Proofs.Tryz
variable {N:Nat}
open IntKind (wrap)
open Go.Proofs
set_option maxRecDepth 10000
set_option maxHeartbeats 2000000
variable {S:U6}(Z:G6 S Tryz.prog) (Y:Kt S)
include Z Y
def N4 (N:Nat)(q0:Int):Option (List (Int)):= Ao N (fun a (x1:Int)=>if (x1 != 0) then (E7 N x1).bind fun y3=>if (0:Int)<=y3 then P7 y3 (a (E9 .andNot .u64 x1 (shI .shl .u64 1 y3))) else none else some []) q0
theorem Bb {q0:Int}{L:List (Int)}(h:N4 N q0=some L) :Ck S X6 [] [.reg 0 0] [.cells [.p (pI .u64 q0)]] (L.map (fun (x:Int)=>[pI .i64 x])):=by
 unfold N4 at h;refine EM Z func226 ?_;refine Ef Z Nk h (fun x1 L1=>⟨[(1,.reg 0 0),(0,.yf 1)],[(1,.yld (L1.map (fun (x:Int)=>[pI .i64 x])) true),(0,.cells [.p (pI .u64 x1)])]⟩) (ids:=[(0,0),(1,1)]) (fun _ _ _ _ _ d x1 L1 f h=>?_);apply kI Z h<;>intro h
 .refine kC Z h (BC Z Y) (fun y3 h=>?_);refine Qo Z Nk ?_;obtain⟨c10,h⟩:=P1 h;refine X9 c10 ?_;obtain⟨L4,rfl,c⟩:=KC h;replace h:=c;refine Cl Z Nk (ys:=(fun (x:Int)=>[pI .i64 x]) y3) (rest:=L4.map (fun (x:Int)=>[pI .i64 x])) ?_ ?_
  .refine E4 Z Nk (b:=false) (fun c11=>?_) (fun c11=>?_)
   .exact Bool.noConfusion ((rfl:false=false).symm.trans c11)
   exact f _ [(0,0),(1,1)] _ (E9 .andNot .u64 x1 (shI .shl .u64 1 y3)) L4 Nk h
  refine E4 Z Nk (b:=true) (fun c12=>?_) (fun c12=>?_)
  .exact A8 Z Nk (a:=.tup []) (objs:=[(.cells [.p (pI .u64 (E9 .andNot .u64 x1 (shI .shl .u64 1 y3)))]),.yld [] false]) ⟨[],[(1,.yld [] false),(0,.cells [.p (pI .u64 (E9 .andNot .u64 x1 (shI .shl .u64 1 y3)))])]⟩ [0,1] (ids:=[(0,0),(1,1)]) ⟨false,rfl,rfl,_,rfl⟩
  exact Bool.noConfusion (Q8.symm.trans c12)
 obtain rfl:=D0 h;exact A8 Z Nk (a:=.tup []) (objs:=[(.cells [.p (pI .u64 x1)]),.yld [] true]) ⟨[],[(1,.yld [] true),(0,.cells [.p (pI .u64 x1)])]⟩ [0,1] (ids:=[(0,0),(1,1)]) ⟨true,rfl,rfl,_,rfl⟩
def W8 (N:Nat)(a:Int):Option (Int):= some a
theorem Cp {a:Int}{y:Int}(h:W8 N a=some y) :FunO S Fy [.p (pI .u64 a)] [] (.clo X6 [] [.reg 0 0]) ([.cells [.p (pI .u64 y)]]) []:=by unfold W8 at h;refine A4 Z func216 ?_;obtain rfl:=D0 h;exact A8 Z Nk ⟨[(2,.clo X6 [] [.reg 2000 0])],[(2000,.cells [.p (pI .u64 a)])]⟩ [2000] (ids:=[(2000,2000)]) ⟨rfl,rfl,rfl⟩
def C5 (N:Nat)(p_x:Nat->Int)(c:Nat->Int):Option (Nat->Int):= N6 N (fun a (x3:Nat->Int) (x4:Int)=>if (decide (x4<33)) then if (((0:Int)<=x4/\x4<33)/\(0+x4.toNat*1)<33)then (W8 N (p_x (0+x4.toNat*1))).bind fun y3=>(N4 N y3).bind fun L3=>K5 L3 (fun b (x7:Int) (z3:Nat->Int)=>if (((((((0:Int)<=x4/\x4<33)/\(0+x4.toNat*1)<33)/\((0:Int)<=x7/\x7<33))/\(0+x7.toNat*1)<33)/\((0:Int)<=x4/\x4<33))/\(0+x4.toNat*1)<33)then b (Jx z3 (0+x4.toNat*1) (E9 .or .u64 (z3 (0+x4.toNat*1)) (c (0+x7.toNat*1)))) else none) (fun (z3:Nat->Int)=>a z3 (wrap .i64 (x4+1))) x3 else none else some x3) (fun _=>0) 0
theorem O6 {p_x:Nat->Int}{b:Nat->Int}{y:Nat->Int}(h:C5 N p_x b=some y) :FunO S V4 [.reg 0 0,.reg 1 0] [.arr 33 (fun i=>pI .u64 (p_x i)),.arr 33 (fun i=>pI .u64 (b i))] (.p (.agg (cA 33 (pI .u64) y))) ([.arr 33 (fun i=>pI .u64 (p_x i)),.arr 33 (fun i=>pI .u64 (b i))]) [true,true]:=by
 unfold C5 at h;refine A4 Z func251 ?_;refine W1 Z Nk h (fun x3 x4=>⟨[(10,pN x4),(9,.reg 0 0),(5,.reg 6000 0),(4,.reg 5000 0),(3,.reg 4000 0)],[(6000,.arr 33 (fun i=>pI .u64 (x3 i))),(5000,.arr 33 (fun i=>pI .u64 ((fun _=>0) i))),(4000,.cells [.reg 1 0]),(1,.arr 33 (fun i=>pI .u64 (b i))),(0,.arr 33 (fun i=>pI .u64 (p_x i)))]⟩) (ids:=[(0,0),(1,1),(4000,4000),(5000,5000),(6000,6000)]) (fun _ _ _ _ _ d x3 x4 f h=>?_) (hle:=klR [(1,.fn 33 33 (fun i=>[(fun i=>(List.replicate 33 (pI .u64 0)).getD i default) i]) (fun i=>[pI .u64 ((fun _=>0) i)])),(2,.fn 33 33 (fun i=>[(fun i=>(List.replicate 33 (pI .u64 0)).getD i default) i]) (fun i=>[pI .u64 ((fun _=>0) i)]))] (al1 ⟨rfl,Av (z:=pI .u64 0) rfl⟩ (al1 ⟨rfl,Av (z:=pI .u64 0) rfl⟩ al0)));apply kI Z h<;>intro h
 .refine T4 Z Nk [(2,.l [0]),(3,.l [0]),(4,.a [7000]),(5,.a [7000])] ?_;obtain⟨c12,h⟩:=P1 h;refine X9 c12 ?_;refine CL Z Nk 16 7000 [pI .i64 x4] ?_;refine kC Z h (Cp Z Y) (fun y3 h=>?_);obtain⟨L3,e6,h⟩:=D8 h;refine Hr Z Nk [18000] [10,9,6,5,4,3] 905 (fun z3=>⟨[(10,pN x4),(9,.reg 0 0),(6,.p (.ptr [pI .i64 x4])),(5,.reg 6000 0),(4,.reg 5000 0),(3,.reg 4000 0)],[(6000,.arr 33 (fun i=>pI .u64 (z3 i))),(5000,.arr 33 (fun i=>pI .u64 ((fun _=>0) i))),(4000,.cells [.reg 1 0]),(1,.arr 33 (fun i=>pI .u64 (b i))),(0,.arr 33 (fun i=>pI .u64 (p_x i)))]⟩) (idl:=[(0,0),(1,1),(4000,4000),(5000,5000),(6000,6000)]) h (Bb Z Y e6) (fun _=>by kernel_rfl) (fun _=>by kernel_rfl) (fun _=>by kernel_rfl) (fun _=>by kernel_rfl) (fun x7 _ g z3 j h=>?_) (fun z3 h=>?_)
  .refine Gx Z Nk ?_;refine T4 Z Nk [(0,.n),(1,.l [6000]),(2,.l [6000]),(3,.l [4000]),(6,.l [1]),(7,.l [1]),(9,.l [6000]),(10,.a [6000])] ?_;obtain⟨c15,h⟩:=P1 h;refine X9 c15 ?_;exact j _ [(0,0),(1,1),(905,905),(4000,4000),(5000,5000),(6000,6000)] _ (Jx z3 (0+x4.toNat*1) (E9 .or .u64 (z3 (0+x4.toNat*1)) (b (0+x7.toNat*1)))) Nk h (hle:=klR [(0,.fn 33 33 (fun i=>[(fun i=>if i=(0+x4.toNat*1)then (pI .u64 (E9 .or .u64 (z3 (0+x4.toNat*1)) (b (0+x7.toNat*1))))else (fun i=>pI .u64 (z3 i)) i) i]) (fun i=>[pI .u64 (Jx z3 (0+x4.toNat*1) (E9 .or .u64 (z3 (0+x4.toNat*1)) (b (0+x7.toNat*1))) i)]))] (al1 ⟨rfl,Ab7 (c:=pI .u64) (v:=z3) (x:=E9 .or .u64 (z3 (0+x4.toNat*1)) (b (0+x7.toNat*1))) (fun _ _=>rfl) rfl⟩ al0))
  exact f _ [(0,0),(1,1),(4000,4000),(5000,5000),(6000,6000)] _ z3 (wrap .i64 (x4+1)) Nk h
 obtain rfl:=D0 h;exact A8 Z (Ar0 rfl (E1 _ _):(0:Nat)=0/\(AX 33 (fun i=>pI .u64 (x3 i))).length=33) ⟨[(4,.reg 5000 0)],[(5000,.arr 33 (fun i=>pI .u64 (x3 i))),(1,.arr 33 (fun i=>pI .u64 (b i))),(0,.arr 33 (fun i=>pI .u64 (p_x i)))]⟩ [0,1] (ids:=[(0,0),(1,1),(5000,5000)]) ⟨rfl,rfl,rfl⟩ (hle:=klR [(0,.fn 33 33 (fun i=>[(fun i=>(cA 33 (pI .u64) x3).getD i default) i]) (fun i=>[pI .u64 (x3 i)]))] (al1 ⟨rfl,C9 33 (fun i=>pI .u64 (x3 i))⟩ al0))
def G9 (N:Nat)(p_x:Nat->Int):Option (Nat->Int):= N6 N (fun a (x3:Nat->Int) (x4:Int)=>if (decide (x4<33)) then if (((0:Int)<=x4/\x4<33)/\(0+x4.toNat*1)<33)then (W8 N (p_x (0+x4.toNat*1))).bind fun y3=>(N4 N y3).bind fun L3=>K5 L3 (fun b (x7:Int) (z3:Nat->Int)=>if (((((((0:Int)<=x4/\x4<33)/\(0+x4.toNat*1)<33)/\((0:Int)<=x7/\x7<33))/\(0+x7.toNat*1)<33)/\((0:Int)<=x4/\x4<33))/\(0+x4.toNat*1)<33)then b (Jx z3 (0+x4.toNat*1) (E9 .or .u64 (z3 (0+x4.toNat*1)) (p_x (0+x7.toNat*1)))) else none) (fun (z3:Nat->Int)=>a z3 (wrap .i64 (x4+1))) x3 else none else some x3) (fun _=>0) 0
theorem AQ {p_x:Nat->Int}{y:Nat->Int}(h:G9 N p_x=some y) :FunO S V4 [.reg 0 0,.reg 0 0] [.arr 33 (fun i=>pI .u64 (p_x i))] (.p (.agg (cA 33 (pI .u64) y))) ([.arr 33 (fun i=>pI .u64 (p_x i))]) [true]:=by
 unfold G9 at h;refine A4 Z func251 ?_;refine W1 Z Nk h (fun x3 x4=>⟨[(10,pN x4),(9,.reg 0 0),(5,.reg 6000 0),(4,.reg 5000 0),(3,.reg 4000 0)],[(6000,.arr 33 (fun i=>pI .u64 (x3 i))),(5000,.arr 33 (fun i=>pI .u64 ((fun _=>0) i))),(4000,.cells [.reg 0 0]),(0,.arr 33 (fun i=>pI .u64 (p_x i)))]⟩) (ids:=[(0,0),(4000,4000),(5000,5000),(6000,6000)]) (fun _ _ _ _ _ b x3 x4 d h=>?_) (hle:=klR [(1,.fn 33 33 (fun i=>[(fun i=>(List.replicate 33 (pI .u64 0)).getD i default) i]) (fun i=>[pI .u64 ((fun _=>0) i)])),(2,.fn 33 33 (fun i=>[(fun i=>(List.replicate 33 (pI .u64 0)).getD i default) i]) (fun i=>[pI .u64 ((fun _=>0) i)]))] (al1 ⟨rfl,Av (z:=pI .u64 0) rfl⟩ (al1 ⟨rfl,Av (z:=pI .u64 0) rfl⟩ al0)));apply kI Z h<;>intro h
 .refine T4 Z Nk [(2,.l [0]),(3,.l [0]),(4,.a [7000]),(5,.a [7000])] ?_;obtain⟨c12,h⟩:=P1 h;refine X9 c12 ?_;refine CL Z Nk 16 7000 [pI .i64 x4] ?_;refine kC Z h (Cp Z Y) (fun y3 h=>?_);obtain⟨L3,e6,h⟩:=D8 h;refine Hr Z Nk [18000] [10,9,6,5,4,3] 905 (fun z3=>⟨[(10,pN x4),(9,.reg 0 0),(6,.p (.ptr [pI .i64 x4])),(5,.reg 6000 0),(4,.reg 5000 0),(3,.reg 4000 0)],[(6000,.arr 33 (fun i=>pI .u64 (z3 i))),(5000,.arr 33 (fun i=>pI .u64 ((fun _=>0) i))),(4000,.cells [.reg 0 0]),(0,.arr 33 (fun i=>pI .u64 (p_x i)))]⟩) (idl:=[(0,0),(4000,4000),(5000,5000),(6000,6000)]) h (Bb Z Y e6) (fun _=>by kernel_rfl) (fun _=>by kernel_rfl) (fun _=>by kernel_rfl) (fun _=>by kernel_rfl) (fun x7 _ f z3 g h=>?_) (fun z3 h=>?_)
  .refine Gx Z Nk ?_;refine T4 Z Nk [(0,.n),(1,.l [6000]),(2,.l [6000]),(3,.l [4000]),(6,.l [0]),(7,.l [0]),(9,.l [6000]),(10,.a [6000])] ?_;obtain⟨c15,h⟩:=P1 h;refine X9 c15 ?_;exact g _ [(0,0),(905,905),(4000,4000),(5000,5000),(6000,6000)] _ (Jx z3 (0+x4.toNat*1) (E9 .or .u64 (z3 (0+x4.toNat*1)) (p_x (0+x7.toNat*1)))) Nk h (hle:=klR [(0,.fn 33 33 (fun i=>[(fun i=>if i=(0+x4.toNat*1)then (pI .u64 (E9 .or .u64 (z3 (0+x4.toNat*1)) (p_x (0+x7.toNat*1))))else (fun i=>pI .u64 (z3 i)) i) i]) (fun i=>[pI .u64 (Jx z3 (0+x4.toNat*1) (E9 .or .u64 (z3 (0+x4.toNat*1)) (p_x (0+x7.toNat*1))) i)]))] (al1 ⟨rfl,Ab7 (c:=pI .u64) (v:=z3) (x:=E9 .or .u64 (z3 (0+x4.toNat*1)) (p_x (0+x7.toNat*1))) (fun _ _=>rfl) rfl⟩ al0))
  exact d _ [(0,0),(4000,4000),(5000,5000),(6000,6000)] _ z3 (wrap .i64 (x4+1)) Nk h
 obtain rfl:=D0 h;exact A8 Z (Ar0 rfl (E1 _ _):(0:Nat)=0/\(AX 33 (fun i=>pI .u64 (x3 i))).length=33) ⟨[(4,.reg 5000 0)],[(5000,.arr 33 (fun i=>pI .u64 (x3 i))),(0,.arr 33 (fun i=>pI .u64 (p_x i)))]⟩ [0] (ids:=[(0,0),(5000,5000)]) ⟨rfl,rfl,rfl⟩ (hle:=klR [(0,.fn 33 33 (fun i=>[(fun i=>(cA 33 (pI .u64) x3).getD i default) i]) (fun i=>[pI .u64 (x3 i)]))] (al1 ⟨rfl,C9 33 (fun i=>pI .u64 (x3 i))⟩ al0))
def D9 (N:Nat)(p_x:Nat->Int)(b:Int)(c:Int):Option (Nat->Int):= (N2 N c).bind fun y1=>Ag9 N (fun a (x1:Int) (x2:Nat->Int) (x3:Nat->Int)=>if (decide (0<x1)) then if ((E9 .and .i64 x1 1)==1) then (C5 N x3 x2).bind fun y8=>(G9 N x2).bind fun y9=>a (shI .shr .i64 x1 1) y9 y8 else (G9 N x2).bind fun d=>a (shI .shr .i64 x1 1) d x3 else some x3) b p_x y1
theorem S2 {p_x:Nat->Int}{b:Int}{c:Int}{y:Nat->Int}(h:D9 N p_x b c=some y) :FunO S AL [.p (.agg (cA 33 (pI .u64) p_x)),pN b,pN c] [] (.p (.agg (cA 33 (pI .u64) y))) ([]) []:=by
 unfold D9 at h;refine A4 Z func244 ?_;refine kC Z h (BF Z Y) (fun y1 h=>?_);refine Al8 Z (Ar0 rfl (E1 _ _):(0:Nat)=0/\(AX 33 (fun i=>pI .u64 (y1 i))).length=33) h (fun x1 x2 x3=>⟨[(7,.reg 8000 0),(6,.reg 7000 0),(3,.reg 4000 0),(1,pN x1)],[(8000,.arr 33 (fun i=>pI .u64 (x3 i))),(7000,.arr 33 (fun i=>pI .u64 ((fun _=>0) i))),(4000,.arr 33 (fun i=>pI .u64 (x2 i)))]⟩) (ids:=[(4000,4000),(7000,7000),(8000,8000)]) (fun _ _ _ _ _ f x1 x2 x3 d h=>?_) (hle:=klR [(1,.fn 33 33 (fun i=>[(fun i=>(cA 33 (pI .u64) y1).getD i default) i]) (fun i=>[pI .u64 (y1 i)])),(2,.fn 33 33 (fun i=>[(fun i=>(List.replicate 33 (pI .u64 0)).getD i default) i]) (fun i=>[pI .u64 ((fun _=>0) i)])),(3,.fn 33 33 (fun i=>[(fun i=>(cA 33 (pI .u64) p_x).getD i default) i]) (fun i=>[pI .u64 (p_x i)]))] (al1 ⟨rfl,C9 33 (fun i=>pI .u64 (y1 i))⟩ (al1 ⟨rfl,Av (z:=pI .u64 0) rfl⟩ (al1 ⟨rfl,C9 33 (fun i=>pI .u64 (p_x i))⟩ al0))));apply kI Z h<;>intro h
 .apply kI Z h<;>intro h
  .obtain⟨y8,e8,h⟩:=D8 h;refine E5 Z [8000,4000] Nk (O6 Z Y e8) ?_;obtain⟨y9,e9,h⟩:=D8 h;refine E5 Z [4000] (Ar0 rfl (E1 _ _):(0:Nat)=0/\(AX 33 (fun i=>pI .u64 (y8 i))).length=33) (AQ Z Y e9) ?_;exact d _ [(4000,4000),(7000,7000),(8000,8000)] _ (shI .shr .i64 x1 1) y9 y8 (Ar0 (Ar0 rfl (E1 _ _):(0:Nat)=0/\(AX 33 (fun i=>pI .u64 (y9 i))).length=33) (by decide:(0:Int)<=1)) h (hle:=klR [(1,.fn 33 33 (fun i=>[(fun i=>(cA 33 (pI .u64) y8).getD i default) i]) (fun i=>[pI .u64 (y8 i)])),(3,.fn 33 33 (fun i=>[(fun i=>(cA 33 (pI .u64) y9).getD i default) i]) (fun i=>[pI .u64 (y9 i)]))] (al1 ⟨rfl,C9 33 (fun i=>pI .u64 (y8 i))⟩ (al1 ⟨rfl,C9 33 (fun i=>pI .u64 (y9 i))⟩ al0)))
  obtain⟨a,e10,h⟩:=D8 h;refine E5 Z [4000] Nk (AQ Z Y e10) ?_;exact d _ [(4000,4000),(7000,7000),(8000,8000)] _ (shI .shr .i64 x1 1) a x3 (Ar0 (Ar0 rfl (E1 _ _):(0:Nat)=0/\(AX 33 (fun i=>pI .u64 (a i))).length=33) (by decide:(0:Int)<=1)) h (hle:=klR [(3,.fn 33 33 (fun i=>[(fun i=>(cA 33 (pI .u64) a).getD i default) i]) (fun i=>[pI .u64 (a i)]))] (al1 ⟨rfl,C9 33 (fun i=>pI .u64 (a i))⟩ al0))
 obtain rfl:=D0 h;exact A8 Z (Ar0 rfl (E1 _ _):(0:Nat)=0/\(AX 33 (fun i=>pI .u64 (x3 i))).length=33) ⟨[(6,.reg 7000 0)],[(7000,.arr 33 (fun i=>pI .u64 (x3 i)))]⟩ [] (ids:=[(7000,7000)]) ⟨rfl,rfl,rfl⟩ (hle:=klR [(0,.fn 33 33 (fun i=>[(fun i=>(cA 33 (pI .u64) x3).getD i default) i]) (fun i=>[pI .u64 (x3 i)]))] (al1 ⟨rfl,C9 33 (fun i=>pI .u64 (x3 i))⟩ al0))
end Go.AM
namespace Go.AM
open Go.Proofs.Tryz
variable {N:Nat}
open IntKind (wrap)
open Go.Proofs
set_option maxRecDepth 10000
set_option maxHeartbeats 2000000
variable {S:U6}(Z:G6 S Tryz.prog) (Y:Kt S)
include Z Y
def S3 (N:Nat)(p_x:Vy)(p_w:Sl Qz):Option (Nat->Int):= N6 N (fun a (x1:Nat->Int) (x2:Int)=>if (decide (x2<(p_w.n:Int))) then if ((0:Int)<=x2/\x2<(p_w.n:Int))then if ((((E9 .or .u32 (E9 .andNot .u32 p_x.is.Plus (p_w.g x2.toNat).Plus) (E9 .andNot .u32 p_x.is.Minus (p_w.g x2.toNat).Minus))==0)==p_x.not) != true) then if (((0:Int)<=(wrap .i64 (x2+1))/\((0:Int)<=x2/\x2<33))/\(0+x2.toNat*1)<33)then a (Jx x1 (0+x2.toNat*1) (shI .shl .u64 1 (wrap .i64 (x2+1)))) (wrap .i64 (x2+1)) else none else a x1 (wrap .i64 (x2+1)) else none else some x1) (fun _=>0) 0
theorem JY {p_x:Vy}{p_w:Sl Qz}{y:Nat->Int}(h:S3 N p_x p_w=some y) :FunO S BB [.p (.agg (Sj p_x)),.p (vSl 2 A0 p_w)] [] (.p (.agg (cA 33 (pI .u64) y))) ([]) []:=by
 unfold S3 at h;refine A4 Z func245 ?_;refine W1 Z Nk h (fun x1 x2=>⟨[(9,pN x2),(8,pN (p_w.n:Int)),(7,.p (vSl 2 A0 p_w)),(4,.reg 5000 0),(2,.reg 3000 0)],[(5000,.arr 33 (fun i=>pI .u64 (x1 i))),(3000,.cells ((Sj p_x).map .p))]⟩) (ids:=[(3000,3000),(5000,5000)]) (fun _ _ _ _ _ d x1 x2 a h=>?_) (hle:=klR [(3,.fn 33 33 (fun i=>[(fun i=>(List.replicate 33 (pI .u64 0)).getD i default) i]) (fun i=>[pI .u64 ((fun _=>0) i)]))] (al1 ⟨rfl,Av (z:=pI .u64 0) rfl⟩ al0));apply kI Z h<;>intro h
 .obtain⟨c8,h⟩:=P1 h;refine E4 Z (Ar0 c8 P0) (b:=(((E9 .or .u32 (E9 .andNot .u32 p_x.is.Plus (p_w.g x2.toNat).Plus) (E9 .andNot .u32 p_x.is.Minus (p_w.g x2.toNat).Minus))==0)==p_x.not) != true) (fun c9=>?_) (fun c9=>?_)
  .replace h:=itT c9 h;obtain⟨c10,h⟩:=P1 h;exact a _ [(3000,3000),(5000,5000)] _ (Jx x1 (0+x2.toNat*1) (shI .shl .u64 1 (wrap .i64 (x2+1)))) (wrap .i64 (x2+1)) c10 h (hle:=klR [(3,.fn 33 33 (fun i=>[(fun i=>if i=(0+x2.toNat*1)then (pI .u64 (shI .shl .u64 1 (wrap .i64 (x2+1))))else (fun i=>pI .u64 (x1 i)) i) i]) (fun i=>[pI .u64 (Jx x1 (0+x2.toNat*1) (shI .shl .u64 1 (wrap .i64 (x2+1))) i)]))] (al1 ⟨rfl,Ab7 (c:=pI .u64) (v:=x1) (x:=shI .shl .u64 1 (wrap .i64 (x2+1))) (fun _ _=>rfl) rfl⟩ al0))
  replace h:=itF c9 h;exact a _ [(3000,3000),(5000,5000)] _ x1 (wrap .i64 (x2+1)) Nk h
 obtain rfl:=D0 h;exact A8 Z (Ar0 rfl (E1 _ _):(0:Nat)=0/\(AX 33 (fun i=>pI .u64 (x1 i))).length=33) ⟨[(4,.reg 5000 0)],[(5000,.arr 33 (fun i=>pI .u64 (x1 i)))]⟩ [] (ids:=[(5000,5000)]) ⟨rfl,rfl,rfl⟩ (hle:=klR [(0,.fn 33 33 (fun i=>[(fun i=>(cA 33 (pI .u64) x1).getD i default) i]) (fun i=>[pI .u64 (x1 i)]))] (al1 ⟨rfl,C9 33 (fun i=>pI .u64 (x1 i))⟩ al0))
def W9 (N:Nat)(p_x:Ac6)(p_w:Sl Qz):Option (Nat->Int):= if p_x.end_ then if (((0:Int)<=(p_w.n:Int)/\((0:Int)<=(p_w.n:Int)/\(p_w.n:Int)<33))/\(0+(p_w.n:Int).toNat*1)<33)then some (Jx (fun _=>0) (0+(p_w.n:Int).toNat*1) (shI .shl .u64 1 (p_w.n:Int))) else none else if (((0:Int)<=0/\(0:Int)<33)/\(0+0*1)<33)then some (Jx (fun _=>0) (0+0*1) (shI .shl .u64 1 0)) else none
theorem KZ {p_x:Ac6}{p_w:Sl Qz}{y:Nat->Int}(h:W9 N p_x p_w=some y) :FunO S Cn [.p (.agg (Ac7 p_x)),.p (vSl 2 A0 p_w)] [] (.p (.agg (cA 33 (pI .u64) y))) ([]) []:=by
 unfold W9 at h;refine A4 Z func246 ?_;apply kI Z h<;>intro h
 .obtain⟨c2,h⟩:=P1 h;obtain rfl:=D0 h;exact A8 Z (Ar0 (Ar0 (Ar0 c2.1.1 c2.1.2) c2.2) (Ar0 rfl (E1 _ _):(0:Nat)=0/\(AX 33 (fun i=>if i=(0+(p_w.n:Int).toNat*1)then (pI .u64 (shI .shl .u64 1 (p_w.n:Int)))else (fun i=>(List.replicate 33 (pI .u64 0)).getD i default) i)).length=33)) ⟨[(4,.reg 5000 0)],[(5000,.arr 33 (fun i=>pI .u64 (Jx (fun _=>0) (0+(p_w.n:Int).toNat*1) (shI .shl .u64 1 (p_w.n:Int)) i)))]⟩ [] (ids:=[(5000,5000)]) ⟨rfl,rfl,rfl⟩ (hle:=klR [(0,.fn 33 33 (fun i=>[(fun i=>(AX 33 (fun i=>if i=(0+(p_w.n:Int).toNat*1)then (pI .u64 (shI .shl .u64 1 (p_w.n:Int)))else (fun i=>(List.replicate 33 (pI .u64 0)).getD i default) i)).getD i default) i]) (fun i=>[pI .u64 (Jx (fun _=>0) (0+(p_w.n:Int).toNat*1) (shI .shl .u64 1 (p_w.n:Int)) i)]))] (al1 ⟨rfl,fun i a=>(C9 33 (fun i=>if i=(0+(p_w.n:Int).toNat*1)then (pI .u64 (shI .shl .u64 1 (p_w.n:Int)))else (fun i=>(List.replicate 33 (pI .u64 0)).getD i default) i) i a).trans (Ab7 (c:=pI .u64) (v:=fun _=>0) (x:=shI .shl .u64 1 (p_w.n:Int)) (Av (z:=pI .u64 0) rfl) rfl i a)⟩ al0))
 obtain⟨c3,h⟩:=P1 h;obtain rfl:=D0 h;exact A8 Z (Ar0 (Ar0 (Ar0 (by decide:(0:Int)<=0) c3.1) c3.2) (Ar0 rfl (E1 _ _):(0:Nat)=0/\(AX 33 (fun i=>if i=(0+0*1)then (pI .u64 (shI .shl .u64 1 0))else (fun i=>(List.replicate 33 (pI .u64 0)).getD i default) i)).length=33)) ⟨[(4,.reg 5000 0)],[(5000,.arr 33 (fun i=>pI .u64 (Jx (fun _=>0) (0+0*1) (shI .shl .u64 1 0) i)))]⟩ [] (ids:=[(5000,5000)]) ⟨rfl,rfl,rfl⟩ (hle:=klR [(0,.fn 33 33 (fun i=>[(fun i=>(AX 33 (fun i=>if i=(0+0*1)then (pI .u64 (shI .shl .u64 1 0))else (fun i=>(List.replicate 33 (pI .u64 0)).getD i default) i)).getD i default) i]) (fun i=>[pI .u64 (Jx (fun _=>0) (0+0*1) (shI .shl .u64 1 0) i)]))] (al1 ⟨rfl,fun i a=>(C9 33 (fun i=>if i=(0+0*1)then (pI .u64 (shI .shl .u64 1 0))else (fun i=>(List.replicate 33 (pI .u64 0)).getD i default) i) i a).trans (Ab7 (c:=pI .u64) (v:=fun _=>0) (x:=shI .shl .u64 1 0) (Av (z:=pI .u64 0) rfl) rfl i a)⟩ al0))
def Ab (rec:Part->(Sl Qz)->Option (Nat->Int))(N:Nat)(p_x:Pseq)(p_w:Sl Qz):Option (Nat->Int):= (N2 N (p_w.n:Int)).bind fun y1=>N6 N (fun a (x1:Nat->Int) (x2:Int)=>if (decide (x2<(p_x.l.n:Int))) then if ((0:Int)<=x2/\x2<(p_x.l.n:Int))then (rec (p_x.l.g x2.toNat) p_w).bind fun y6=>(C5 N x1 y6).bind fun y7=>a y7 (wrap .i64 (x2+1)) else none else some x1) y1 0
theorem Nn {rec:Part->(Sl Qz)->Option ((Nat->Int))}(a:∀{x:Part}{b0:(Sl Qz)}{y:(Nat->Int)},rec x b0=some y->Am2 S Tryz.prog (Eh x) "ablaut/pats.in" [(.p (vSl 2 A0 b0))] (.p (.agg (cA 33 (pI .u64) y)))){p_x:Pseq}{p_w:(Sl Qz)}{y:(Nat->Int)}(h:Ab rec N p_x p_w=some y) :FunO S Dt [(.p (.agg (An2 p_x))),(.p (vSl 2 A0 p_w))] [] (.p (.agg (cA 33 (pI .u64) y))) ([]) []:=by
 unfold Ab at h;refine A4 Z func252 ?_;refine kC Z h (BF Z Y) (fun y1 h=>?_);refine W1 Z (Ar0 rfl (E1 _ _):(0:Nat)=0/\(AX 33 (fun i=>pI .u64 (y1 i))).length=33) h (fun x1 x2=>⟨[(15,(pN x2)),(14,(pN (p_x.l.n:Int))),(13,(.p (vSl 1 CM p_x.l))),(5,(.reg 6000 0)),(4,(.reg 5000 0)),(1,(.p (vSl 2 A0 p_w)))],[(6000,(.arr 33 (fun i=>pI .u64 (x1 i)))),(5000,(.arr 33 (fun i=>pI .u64 ((fun _=>0) i))))]⟩) (ids:=[(5000,5000),(6000,6000)]) (fun _ _ _ _ _ b x1 x2 c h=>?_) (hle:=(klR [(4,.fn 33 33 (fun i=>[(fun i=>(cA 33 (pI .u64) y1).getD i default) i]) (fun i=>[pI .u64 (y1 i)])),(5,.fn 33 33 (fun i=>[(fun i=>(List.replicate 33 (pI .u64 0)).getD i default) i]) (fun i=>[pI .u64 ((fun _=>0) i)]))] (al1 ⟨rfl,(C9 33 (fun i=>pI .u64 (y1 i)))⟩ (al1 ⟨rfl,(Av (z:=pI .u64 0) rfl)⟩ al0))));apply kI Z h<;>intro h
 .obtain⟨c6,h⟩:=P1 h;obtain⟨y6,e6,h⟩:=D8 h;refine IM Z c6 (a e6) ?_;refine W0 Z (Ar0 rfl (E1 _ _):(0:Nat)=0/\(AX 33 (fun i=>pI .u64 (y6 i))).length=33) ⟨[(15,(pN x2)),(14,(pN (p_x.l.n:Int))),(13,(.p (vSl 1 CM p_x.l))),(8,(.reg 9000 0)),(5,(.reg 6000 0)),(4,(.reg 5000 0)),(1,(.p (vSl 2 A0 p_w)))],[(9000,(.arr 33 (fun i=>pI .u64 (y6 i)))),(6000,(.arr 33 (fun i=>pI .u64 (x1 i)))),(5000,(.arr 33 (fun i=>pI .u64 ((fun _=>0) i))))]⟩ (ids:=[(5000,5000),(6000,6000),(9000,9000)]) ?_ (hle:=(klR [(4,.fn 33 33 (fun i=>[(fun i=>(cA 33 (pI .u64) y6).getD i default) i]) (fun i=>[pI .u64 (y6 i)]))] (al1 ⟨rfl,(C9 33 (fun i=>pI .u64 (y6 i)))⟩ al0)));obtain⟨y7,e7,h⟩:=D8 h;refine E5 Z [6000,9000] Nk (O6 Z Y e7) ?_;exact c _ [(5000,5000),(6000,6000)] _ y7 (wrap .i64 (x2+1)) (Ar0 rfl (E1 _ _):(0:Nat)=0/\(AX 33 (fun i=>pI .u64 (y7 i))).length=33) h (hle:=klR [(4,.fn 33 33 (fun i=>[(fun i=>(cA 33 (pI .u64) y7).getD i default) i]) (fun i=>[pI .u64 (y7 i)]))] (al1 ⟨rfl,(C9 33 (fun i=>pI .u64 (y7 i)))⟩ al0))
 obtain rfl:=D0 h;exact A8 Z (Ar0 rfl (E1 _ _):(0:Nat)=0/\(AX 33 (fun i=>pI .u64 (x1 i))).length=33) ⟨[(4,(.reg 5000 0))],[(5000,(.arr 33 (fun i=>pI .u64 (x1 i))))]⟩ [] (ids:=[(5000,5000)]) ⟨rfl,rfl,rfl⟩ (hle:=(klR [(0,.fn 33 33 (fun i=>[(fun i=>(cA 33 (pI .u64) x1).getD i default) i]) (fun i=>[pI .u64 (x1 i)]))] (al1 ⟨rfl,(C9 33 (fun i=>pI .u64 (x1 i)))⟩ al0)))
def Ac (rec:Part->(Sl Qz)->Option (Nat->Int))(N:Nat)(p_x:Palt)(p_w:Sl Qz):Option (Nat->Int):= N6 N (fun a (x1:Nat->Int) (x2:Int)=>if (decide (x2<(p_x.l.n:Int))) then if ((0:Int)<=x2/\x2<(p_x.l.n:Int))then (rec (p_x.l.g x2.toNat) p_w).bind fun y5=>(J2 N x1 y5).bind fun y6=>a y6 (wrap .i64 (x2+1)) else none else some x1) (fun _=>0) 0
theorem No {rec:Part->(Sl Qz)->Option ((Nat->Int))}(a:∀{x:Part}{b0:(Sl Qz)}{y:(Nat->Int)},rec x b0=some y->Am2 S Tryz.prog (Eh x) "ablaut/pats.in" [(.p (vSl 2 A0 b0))] (.p (.agg (cA 33 (pI .u64) y)))){p_x:Palt}{p_w:(Sl Qz)}{y:(Nat->Int)}(h:Ac rec N p_x p_w=some y) :FunO S Dr [(.p (.agg (Am9 p_x))),(.p (vSl 2 A0 p_w))] [] (.p (.agg (cA 33 (pI .u64) y))) ([]) []:=by
 unfold Ac at h;refine A4 Z func247 ?_;refine W1 Z Nk h (fun x1 x2=>⟨[(11,(pN x2)),(10,(pN (p_x.l.n:Int))),(9,(.p (vSl 1 CM p_x.l))),(4,(.reg 5000 0)),(1,(.p (vSl 2 A0 p_w)))],[(5000,(.arr 33 (fun i=>pI .u64 (x1 i))))]⟩) (ids:=[(5000,5000)]) (fun _ _ _ _ _ b x1 x2 c h=>?_) (hle:=(klR [(4,.fn 33 33 (fun i=>[(fun i=>(List.replicate 33 (pI .u64 0)).getD i default) i]) (fun i=>[pI .u64 ((fun _=>0) i)]))] (al1 ⟨rfl,(Av (z:=pI .u64 0) rfl)⟩ al0)));apply kI Z h<;>intro h
 .obtain⟨c6,h⟩:=P1 h;obtain⟨y5,e5,h⟩:=D8 h;refine IM Z c6 (a e5) ?_;refine W0 Z (Ar0 rfl (E1 _ _):(0:Nat)=0/\(AX 33 (fun i=>pI .u64 (y5 i))).length=33) ⟨[(11,(pN x2)),(10,(pN (p_x.l.n:Int))),(9,(.p (vSl 1 CM p_x.l))),(7,(.reg 8000 0)),(4,(.reg 5000 0)),(1,(.p (vSl 2 A0 p_w)))],[(8000,(.arr 33 (fun i=>pI .u64 (y5 i)))),(5000,(.arr 33 (fun i=>pI .u64 (x1 i))))]⟩ (ids:=[(5000,5000),(8000,8000)]) ?_ (hle:=(klR [(4,.fn 33 33 (fun i=>[(fun i=>(cA 33 (pI .u64) y5).getD i default) i]) (fun i=>[pI .u64 (y5 i)]))] (al1 ⟨rfl,(C9 33 (fun i=>pI .u64 (y5 i)))⟩ al0)));obtain⟨y6,e6,h⟩:=D8 h;refine E5 Z [5000,8000] Nk (Ce Z Y e6) ?_;exact c _ [(5000,5000)] _ y6 (wrap .i64 (x2+1)) Nk h
 obtain rfl:=D0 h;exact A8 Z (Ar0 rfl (E1 _ _):(0:Nat)=0/\(AX 33 (fun i=>pI .u64 (x1 i))).length=33) ⟨[(4,(.reg 5000 0))],[(5000,(.arr 33 (fun i=>pI .u64 (x1 i))))]⟩ [] (ids:=[(5000,5000)]) ⟨rfl,rfl,rfl⟩ (hle:=(klR [(0,.fn 33 33 (fun i=>[(fun i=>(cA 33 (pI .u64) x1).getD i default) i]) (fun i=>[pI .u64 (x1 i)]))] (al1 ⟨rfl,(C9 33 (fun i=>pI .u64 (x1 i)))⟩ al0)))
def Ad (rec:Part->(Sl Qz)->Option (Nat->Int))(N:Nat)(p_x:An0)(p_w:Sl Qz):Option (Nat->Int):= (rec p_x.of p_w).bind fun y1=>(D9 N y1 p_x.min (p_w.n:Int)).bind fun y2=>(N2 N (p_w.n:Int)).bind fun y3=>(J2 N y1 y3).bind fun y4=>if (decide (p_x.max<0)) then (D9 N y4 (p_w.n:Int) (p_w.n:Int)).bind fun y5=>(C5 N y2 y5).bind fun y6=>some y6 else (D9 N y4 (wrap .i64 (p_x.max-p_x.min)) (p_w.n:Int)).bind fun y7=>(C5 N y2 y7).bind fun y8=>some y8
theorem Np {rec:Part->(Sl Qz)->Option ((Nat->Int))}(a:∀{x:Part}{b0:(Sl Qz)}{y:(Nat->Int)},rec x b0=some y->Am2 S Tryz.prog (Eh x) "ablaut/pats.in" [(.p (vSl 2 A0 b0))] (.p (.agg (cA 33 (pI .u64) y)))){p_x:An0}{p_w:(Sl Qz)}{y:(Nat->Int)}(h:Ad rec N p_x p_w=some y) :FunO S Ds [(.p (.agg (An1 p_x))),(.p (vSl 2 A0 p_w))] [] (.p (.agg (cA 33 (pI .u64) y))) ([]) []:=by
 unfold Ad at h;refine A4 Z func249 ?_;obtain⟨y1,e1,h⟩:=D8 h;refine IM Z Nk (a e1) ?_;refine W0 Z (Ar0 rfl (E1 _ _):(0:Nat)=0/\(AX 33 (fun i=>pI .u64 (y1 i))).length=33) ⟨[(18,(pN (p_w.n:Int))),(16,(pN p_x.min)),(14,(.p (.agg (cA 33 (pI .u64) y1)))),(5,(.reg 6000 0)),(4,(.reg 5000 0)),(2,(.reg 3000 0)),(1,(.p (vSl 2 A0 p_w)))],[(6000,(.arr 33 (fun i=>pI .u64 (y1 i)))),(5000,(.arr 33 (fun i=>pI .u64 ((fun _=>0) i)))),(3000,(.cells [(.p (Eh p_x.of)),(pN p_x.min),(pN p_x.max)]))]⟩ (ids:=[(3000,3000),(5000,5000),(6000,6000)]) ?_ (hle:=(klR [(2,.eq (.agg (AX 33 (fun i=>(cA 33 (pI .u64) y1).getD i default))) (.agg (cA 33 (pI .u64) y1))),(4,.fn 33 33 (fun i=>[(fun i=>(cA 33 (pI .u64) y1).getD i default) i]) (fun i=>[pI .u64 (y1 i)])),(5,.fn 33 33 (fun i=>[(fun i=>(List.replicate 33 (pI .u64 0)).getD i default) i]) (fun i=>[pI .u64 ((fun _=>0) i)]))] (al1 (congrArg PV.agg (Tt (C9 33 (fun i=>pI .u64 (y1 i))))) (al1 ⟨rfl,(C9 33 (fun i=>pI .u64 (y1 i)))⟩ (al1 ⟨rfl,(Av (z:=pI .u64 0) rfl)⟩ al0)))));refine kC Z h (S2 Z Y) (fun y2 h=>?_);obtain⟨y3,e3,h⟩:=D8 h;refine E5 Z [] (Ar0 (Ar0 rfl (E1 _ _):(0:Nat)=0/\(AX 33 (fun i=>pI .u64 (y2 i))).length=33) (Ar0 rfl (E1 _ _):(0:Nat)=0/\(AX 33 (fun i=>pI .u64 (y1 i))).length=33)) (BF Z Y e3) ?_;refine W0 Z (Ar0 rfl (E1 _ _):(0:Nat)=0/\(AX 33 (fun i=>pI .u64 (y3 i))).length=33) ⟨[(8,(.reg 9000 0)),(7,(.reg 8000 0)),(6,(.reg 7000 0)),(4,(.reg 5000 0)),(2,(.reg 3000 0)),(1,(.p (vSl 2 A0 p_w)))],[(9000,(.arr 33 (fun i=>pI .u64 (y3 i)))),(8000,(.arr 33 (fun i=>pI .u64 (y1 i)))),(7000,(.arr 33 (fun i=>pI .u64 (y2 i)))),(5000,(.arr 33 (fun i=>pI .u64 ((fun _=>0) i)))),(3000,(.cells [(.p (Eh p_x.of)),(pN p_x.min),(pN p_x.max)]))]⟩ (ids:=[(3000,3000),(5000,5000),(7000,7000),(8000,8000),(9000,9000)]) ?_ (hle:=(klR [(1,.fn 33 33 (fun i=>[(fun i=>(cA 33 (pI .u64) y3).getD i default) i]) (fun i=>[pI .u64 (y3 i)])),(2,.fn 33 33 (fun i=>[(fun i=>(cA 33 (pI .u64) y1).getD i default) i]) (fun i=>[pI .u64 (y1 i)])),(3,.fn 33 33 (fun i=>[(fun i=>(cA 33 (pI .u64) y2).getD i default) i]) (fun i=>[pI .u64 (y2 i)]))] (al1 ⟨rfl,(C9 33 (fun i=>pI .u64 (y3 i)))⟩ (al1 ⟨rfl,(C9 33 (fun i=>pI .u64 (y1 i)))⟩ (al1 ⟨rfl,(C9 33 (fun i=>pI .u64 (y2 i)))⟩ al0)))));obtain⟨y4,e4,h⟩:=D8 h;refine E5 Z [8000,9000] Nk (Ce Z Y e4) ?_;apply kI Z h<;>intro h
 .refine kC Z h (S2 Z Y) (fun y5 h=>?_);refine W0 Z (Ar0 rfl (E1 _ _):(0:Nat)=0/\(AX 33 (fun i=>pI .u64 (y5 i))).length=33) ⟨[(7,(.reg 8000 0)),(6,(.reg 7000 0)),(4,(.reg 5000 0))],[(8000,(.arr 33 (fun i=>pI .u64 (y5 i)))),(7000,(.arr 33 (fun i=>pI .u64 (y2 i)))),(5000,(.arr 33 (fun i=>pI .u64 ((fun _=>0) i))))]⟩ (ids:=[(5000,5000),(7000,7000),(8000,8000)]) ?_ (hle:=(klR [(0,.fn 33 33 (fun i=>[(fun i=>(cA 33 (pI .u64) y5).getD i default) i]) (fun i=>[pI .u64 (y5 i)]))] (al1 ⟨rfl,(C9 33 (fun i=>pI .u64 (y5 i)))⟩ al0)));obtain⟨y6,e6,h⟩:=D8 h;refine E5 Z [7000,8000] Nk (O6 Z Y e6) ?_;obtain rfl:=D0 h;exact A8 Z (Ar0 rfl (E1 _ _):(0:Nat)=0/\(AX 33 (fun i=>pI .u64 (y6 i))).length=33) ⟨[(4,(.reg 5000 0))],[(5000,(.arr 33 (fun i=>pI .u64 (y6 i))))]⟩ [] (ids:=[(5000,5000)]) ⟨rfl,rfl,rfl⟩ (hle:=(klR [(0,.fn 33 33 (fun i=>[(fun i=>(cA 33 (pI .u64) y6).getD i default) i]) (fun i=>[pI .u64 (y6 i)]))] (al1 ⟨rfl,(C9 33 (fun i=>pI .u64 (y6 i)))⟩ al0)))
 refine kC Z h (S2 Z Y) (fun y7 h=>?_);refine W0 Z (Ar0 rfl (E1 _ _):(0:Nat)=0/\(AX 33 (fun i=>pI .u64 (y7 i))).length=33) ⟨[(7,(.reg 8000 0)),(6,(.reg 7000 0)),(4,(.reg 5000 0))],[(8000,(.arr 33 (fun i=>pI .u64 (y7 i)))),(7000,(.arr 33 (fun i=>pI .u64 (y2 i)))),(5000,(.arr 33 (fun i=>pI .u64 ((fun _=>0) i))))]⟩ (ids:=[(5000,5000),(7000,7000),(8000,8000)]) ?_ (hle:=(klR [(0,.fn 33 33 (fun i=>[(fun i=>(cA 33 (pI .u64) y7).getD i default) i]) (fun i=>[pI .u64 (y7 i)]))] (al1 ⟨rfl,(C9 33 (fun i=>pI .u64 (y7 i)))⟩ al0)));obtain⟨y8,e8,h⟩:=D8 h;refine E5 Z [7000,8000] Nk (O6 Z Y e8) ?_;obtain rfl:=D0 h;exact A8 Z (Ar0 rfl (E1 _ _):(0:Nat)=0/\(AX 33 (fun i=>pI .u64 (y8 i))).length=33) ⟨[(4,(.reg 5000 0))],[(5000,(.arr 33 (fun i=>pI .u64 (y8 i))))]⟩ [] (ids:=[(5000,5000)]) ⟨rfl,rfl,rfl⟩ (hle:=(klR [(0,.fn 33 33 (fun i=>[(fun i=>(cA 33 (pI .u64) y8).getD i default) i]) (fun i=>[pI .u64 (y8 i)]))] (al1 ⟨rfl,(C9 33 (fun i=>pI .u64 (y8 i)))⟩ al0)))
def P8 (rec:Pat->Option Part)(N:Nat)(a:Pat):Option Part:= N6 N (fun b (x1:Sl Part) (x2:Int)=>if (decide (x2<(a.L.n:Int))) then if ((0:Int)<=x2/\x2<(a.L.n:Int))then (rec (a.L.g x2.toNat)).bind fun y3=>if ((x1.n+(Sl.of [y3]:Sl Part).n)*16<=140737488355328/\x1.n+(Sl.of [y3]:Sl Part).n<=140737488355328)then b (x1.push y3) (wrap .i64 (x2+1)) else none else none else if (a.Kind==1) then some (Part.sound a.Is a.Not) else if (a.Kind==2) then some (Part.edge false) else if (a.Kind==6) then some (Part.edge true) else if (a.Kind==4) then some (Part.alt x1.n x1.g) else if (a.Kind==5) then if (((0:Int)<=0/\0<(x1.n:Int))/\0<x1.n)then some (Part.rep (x1.g 0) a.Min a.Max) else none else some (Part.seq x1.n x1.g)) (Sl.nil:Sl Part) 0
def X0:Nat->Pat->Option Part
 |0=>fun _=>none
 |N+1=>P8 (X0 N) N
theorem JZ {rec:Pat->Option Part}(b:∀{a:Pat}{y:Part},rec a=some y->FunO S AH [.p (.agg (B8 a))] [] (.p (Eh y)) ([]) []){a:Pat}{y:Part}(h:P8 rec N a=some y) :FunO S AH [.p (.agg (B8 a))] [] (.p (Eh y)) ([]) []:=by
 unfold P8 at h;refine A4 Z func225 ?_;refine CL Z Nk 2 2000 (B8 a) ?_;refine Y0 Z Nk 8 ⟨[(7,.p (vSl 7 B8 a.L)),(3,.p P4),(1,.p (.ptr (B8 a)))],[]⟩ (ids:=[]) ?_ (hle:=klR [(0,.fn a.L.n a.L.n (Dn a) (fun i=>B8 (a.L.g i)))] (al1 ⟨rfl,AG a⟩ al0));refine W1 Z Nk h (fun x1 x2=>⟨[(9,pN x2),(8,pN (a.L.n:Int)),(7,.p (vSl 7 B8 a.L)),(3,.vec 4500),(1,.p (.ptr (B8 a)))],[(4500,.vec QH 1 x1.n (fun i=>CM (x1.g i)) false)]⟩) (ids:=[]) (fun _ _ _ _ _ d x1 x2 f h=>?_);apply kI Z h<;>intro h
 .obtain⟨c6,h⟩:=P1 h;refine CL Z (Ar0 c6 Q5) 13 6000 (B8 (a.L.g x2.toNat)) ?_;obtain⟨y3,e3,h⟩:=D8 h;refine E5 Z [] Q5 (b e3) ?_;obtain⟨c7,h⟩:=P1 h;exact f _ [(4500,18000)] _ (x1.push y3) (wrap .i64 (x2+1)) (Ar0 Q8 c7) h (hle:=klR [(4,.fn (x1.n+1) (x1.push y3).n (BP x1.n (fun i=>CM (x1.g i)) (G7 [.v .nilIface] [(0,CM y3)])) (fun i=>CM ((x1.push y3).g i)))] (al1 ⟨rfl,Uh (c:=CM) (v:=x1) (x:=y3) (z:=[(.v .nilIface)]) same rfl rfl⟩ al0))
 apply kI Z h<;>intro h
 .obtain rfl:=D0 h;exact Ab3 Z (by decide:(2:Nat)<=6) [] ⟨rfl,rfl,rfl⟩
 apply kI Z h<;>intro h
 .cases h;exact kR Z
 apply kI Z h<;>intro h
 .cases h;exact kR Z
 apply kI Z h<;>intro h
 .refine Y0 Z Nk 40 ⟨[(39,.p (vSl 1 CM x1))],[]⟩ (ids:=[]) ?_;cases h;exact kR Z
 apply kI Z h<;>intro h
 .refine T3 Z Nk [4,6] ?_;obtain⟨c13,h⟩:=P1 h;refine X9 c13 ?_;cases h;exact kR Z
 refine Y0 Z Nk 54 ⟨[(53,.p (vSl 1 CM x1))],[]⟩ (ids:=[]) ?_;cases h;exact kR Z
theorem La {a:Pat}{y:Part}(h:X0 N a=some y) :FunO S AH [.p (.agg (B8 a))] [] (.p (Eh y)) ([]) []:=by
 induction N generalizing a y with
 |zero=>cases (show (none:Option Part)=some y from h)
 |succ N ih=>exact JZ Z Y (fun e=>ih e) h
end Go.AM
namespace Go.AM
open Go.Proofs
variable {S:U6}(Z:G6 S Tryz.prog) (Y:Kt S)
include Z Y
def X1:Nat->Part->Sl Qz->Option (Nat->Int)
 |0=>fun _ _=>none
 |N+1=>fun p w=>match p with
  |.nil=>none
  |.sound x no=>S3 N ⟨x,no⟩ w
  |.edge e=>W9 N ⟨e⟩ w
  |.seq n g=>Ab (X1 N) N ⟨⟨n,g⟩⟩ w
  |.alt n g=>Ac (X1 N) N ⟨⟨n,g⟩⟩ w
  |.rep o mn mx=>Ad (X1 N) N ⟨o,mn,mx⟩ w
theorem VL {N:Nat}{x:Part}{w:Sl Qz}{y:Nat->Int}(h:X1 N x w=some y):Am2 S Tryz.prog (Eh x) "ablaut/pats.in" [(.p (vSl 2 A0 w))] (.p (.agg (cA 33 (pI .u64) y))):=by
 induction N generalizing x w y with
 |zero=>cases h
 |succ N ih=>
  cases x with
  |nil=>cases h
  |sound s no=>exact⟨_,_,BB,rfl,by kernel_rfl,JY Z Y (p_x:=⟨s,no⟩) h⟩
  |edge e=>exact⟨_,_,Cn,rfl,by kernel_rfl,KZ Z Y (N:=N) (p_x:=⟨e⟩) h⟩
  |seq n g=>exact⟨_,_,Dt,rfl,by kernel_rfl,Nn Z Y (fun e=>ih e) (p_x:=⟨⟨n,g⟩⟩) h⟩
  |alt n g=>exact⟨_,_,Dr,rfl,by kernel_rfl,No Z Y (fun e=>ih e) (p_x:=⟨⟨n,g⟩⟩) h⟩
  |rep o mn mx=>exact⟨_,_,Ds,rfl,by kernel_rfl,Np Z Y (fun e=>ih e) (p_x:=⟨o,mn,mx⟩) h⟩
end Go.AM
namespace Go.AM
open Go.Proofs.Tryz
variable {N:Nat}
open IntKind (wrap)
open Go.Proofs
set_option maxRecDepth 10000
set_option maxHeartbeats 2000000
variable {S:U6}(Z:G6 S Tryz.prog) (Y:Kt S)
include Z Y
def O9 (N:Nat)(a:Qz):Option Bool:= (L0 N a).bind fun y1=>some (!y1)
theorem Ka {a:Qz}{y:Bool}(h:O9 N a=some y) :FunO S Ek [.p (.agg (A0 a))] [] (pB y) ([]) []:=by unfold O9 at h;refine A4 Z func224 ?_;refine kC Z h (Cd Z Y) (fun y1 h=>?_);cases h;exact kR Z
def C0 (N:Nat)(a:Sl Qz)(c:Qz->Option Bool):Option Int:= Ao N (fun b (x1:Int)=>if (decide (x1<(a.n:Int))) then if ((0:Int)<=x1/\x1<(a.n:Int))then (c (a.g x1.toNat)).bind fun y3=>if y3 then some x1 else b (wrap .i64 (x1+1)) else none else some (-1)) 0
theorem Q6 {a:Sl Qz}{c:Qz->Option Bool}{kp_f:Nat}(d:∀{a0:Qz}{b:Bool},c a0=some b->FunO S kp_f [.p (.agg (A0 a0))] [] (pB b) [] []){y:Int}(h:C0 N a c=some y) :FunO S H9 [.p (vSl 2 A0 a),.clo kp_f [] []] [] (pN y) ([]) []:=by
 unfold C0 at h;refine A4 Z func151 ?_;refine CJ Z Nk h (fun x1=>⟨[(8,pN x1),(7,pN (a.n:Int)),(1,.clo kp_f [] []),(0,.p (vSl 2 A0 a))],[]⟩) (ids:=[]) (fun _ _ _ _ _ f x1 g h=>?_);apply kI Z h<;>intro h
 .obtain⟨c8,h⟩:=P1 h;obtain⟨y3,e3,h⟩:=D8 h;refine E5 Z [] (Ar0 c8 P0) (d e3) ?_;apply kI Z h<;>intro h
  .cases h;exact kR Z
  exact g _ [] _ (wrap .i64 (x1+1)) Nk h
 cases h;exact kR Z
def A7 (N:Nat)(a:Sl Qz)(b:Qz->Option Bool):Option Bool:= (C0 N a b).bind fun y1=>some (decide (0<=y1))
theorem H2 {a:Sl Qz}{c:Qz->Option Bool}{kp_f:Nat}(d:∀{a0:Qz}{b:Bool},c a0=some b->FunO S kp_f [.p (.agg (A0 a0))] [] (pB b) [] []){y:Bool}(h:A7 N a c=some y) :FunO S H1 [.p (vSl 2 A0 a),.clo kp_f [] []] [] (pB y) ([]) []:=by unfold A7 at h;refine A4 Z func130 ?_;refine kC Z h (Q6 Z Y (fun e=>d e)) (fun y1 h=>?_);cases h;exact kR Z
def B7 (N:Nat)(q0:Sl Pat):Option (List (Int×Pat)):= Ao N (fun a (x1:Int)=>if (decide (0<=x1)) then if ((0:Int)<=x1/\x1<(q0.n:Int))then P7 (x1,q0.g x1.toNat) (a (wrap .i64 (x1-1))) else none else some []) (wrap .i64 ((q0.n:Int)-1))
theorem U0 {q0:Sl Pat}{L:List (Int×Pat)}(h:B7 N q0=some L) :Ck S D1 [] [.reg 0 0] [.cells [.p (vSl 7 B8 q0)]] (L.map (fun (x:Int×Pat)=>[pI .i64 x.1,(fun x=>.agg (B8 x)) x.2])):=by
 unfold B7 at h;refine EM Z func168 ?_;refine Ef Z Nk h (fun x1 L1=>⟨[(3,pN x1),(1,.reg 0 0),(0,.yf 1)],[(1,.yld (L1.map (fun (x:Int×Pat)=>[pI .i64 x.1,(fun x=>.agg (B8 x)) x.2])) true),(0,.cells [.p (vSl 7 B8 q0)])]⟩) (ids:=[(0,0),(1,1)]) (fun _ _ _ _ _ d x1 L1 f h=>?_);apply kI Z h<;>intro h
 .obtain⟨c10,h⟩:=P1 h;obtain⟨L4,rfl,c⟩:=KC h;replace h:=c;refine Cl Z (Ar0 c10 Q5) (ys:=(fun (x:Int×Pat)=>[pI .i64 x.1,(fun x=>.agg (B8 x)) x.2]) (x1,q0.g x1.toNat)) (rest:=L4.map (fun (x:Int×Pat)=>[pI .i64 x.1,(fun x=>.agg (B8 x)) x.2])) ?_ ?_
  .refine E4 Z Nk (b:=false) (fun c11=>?_) (fun c11=>?_)
   .exact Bool.noConfusion ((rfl:false=false).symm.trans c11)
   exact f _ [(0,0),(1,1)] _ (wrap .i64 (x1-1)) L4 Nk h
  refine E4 Z Nk (b:=true) (fun c12=>?_) (fun c12=>?_)
  .exact A8 Z Nk (a:=.tup []) (objs:=[(.cells [.p (vSl 7 B8 q0)]),.yld [] false]) ⟨[],[(1,.yld [] false),(0,.cells [.p (vSl 7 B8 q0)])]⟩ [0,1] (ids:=[(0,0),(1,1)]) ⟨false,rfl,rfl,_,rfl⟩
  exact Bool.noConfusion (Q8.symm.trans c12)
 obtain rfl:=D0 h;exact A8 Z Nk (a:=.tup []) (objs:=[(.cells [.p (vSl 7 B8 q0)]),.yld [] true]) ⟨[],[(1,.yld [] true),(0,.cells [.p (vSl 7 B8 q0)])]⟩ [0,1] (ids:=[(0,0),(1,1)]) ⟨true,rfl,rfl,_,rfl⟩
def G3 (N:Nat)(a:Sl Pat):Option (Sl Pat):= some a
theorem X2 {a:Sl Pat}{y:Sl Pat}(h:G3 N a=some y) :FunO S K8 [.p (vSl 7 B8 a)] [] (.clo D1 [] [.reg 0 0]) ([.cells [.p (vSl 7 B8 y)]]) []:=by unfold G3 at h;refine A4 Z func150 ?_;obtain rfl:=D0 h;exact A8 Z Nk ⟨[(2,.clo D1 [] [.reg 2000 0])],[(2000,.cells [.p (vSl 7 B8 a)])]⟩ [2000] (ids:=[(2000,2000)]) ⟨rfl,rfl,rfl⟩
def S4 (N:Nat)(c:Pat):Option Int:= N6 N (fun a (x3:Sl Pat) (x4:Int)=>if (decide (0<(x3.n:Int))) then if (x4==40) then some 12 else if (((0:Int)<=(wrap .i64 ((x3.n:Int)-1))/\(wrap .i64 ((x3.n:Int)-1))<(x3.n:Int))/\(wrap .i64 ((x3.n:Int)-1)).toNat<x3.n)then if ((0:Int)<=(wrap .i64 ((x3.n:Int)-1))/\(wrap .i64 ((x3.n:Int)-1))<=(x3.n:Int))then (W7 N (x3.g (wrap .i64 ((x3.n:Int)-1)).toNat)).bind fun y5=>if (y5 != 0) then some y5 else if ((0:Int)<=(if 41<((x3.g (wrap .i64 ((x3.n:Int)-1)).toNat).L.n:Int)then 41 else ((x3.g (wrap .i64 ((x3.n:Int)-1)).toNat).L.n:Int))/\(if 41<((x3.g (wrap .i64 ((x3.n:Int)-1)).toNat).L.n:Int)then 41 else ((x3.g (wrap .i64 ((x3.n:Int)-1)).toNat).L.n:Int))<=((x3.g (wrap .i64 ((x3.n:Int)-1)).toNat).L.n:Int))then (G3 N ((x3.g (wrap .i64 ((x3.n:Int)-1)).toNat).L.take (if 41<((x3.g (wrap .i64 ((x3.n:Int)-1)).toNat).L.n:Int)then 41 else ((x3.g (wrap .i64 ((x3.n:Int)-1)).toNat).L.n:Int)).toNat)).bind fun y6=>(B7 N y6).bind fun L3=>K5 L3 (fun b (x7:Int×Pat) (z3:Sl Pat)=>if ((((z3.n+(Sl.of [Pat.nil]:Sl Pat).n)*64<=140737488355328/\z3.n+(Sl.of [Pat.nil]:Sl Pat).n<=140737488355328)/\((0:Int)<=(z3.n:Int)/\(z3.n:Int)<((z3.push Pat.nil).n:Int)))/\(z3.n:Int).toNat<(z3.push Pat.nil).n)then b ((z3.push Pat.nil).upd (z3.n:Int).toNat x7.2) else none) (fun (z3:Sl Pat)=>a z3 (wrap .i64 (x4+1))) (x3.take (wrap .i64 ((x3.n:Int)-1)).toNat) else none else none else none else some 0) (Sl.of [c]:Sl Pat) 0
theorem Et {b:Pat}{y:Int}(h:S4 N b=some y) :FunO S Ii [.p (.agg (B8 b))] [] (pN y) ([]) []:=by
 unfold S4 at h;refine A4 Z func129 ?_;refine CL Z Nk 2 2000 (B8 b) ?_;refine W1 Z (Ar0 Q5 Q8) h (fun x3 x4=>⟨[(4,pN x4),(3,.reg 4000 0)],[(4501,.vec En 7 x3.n (fun i=>B8 (x3.g i)) false),(4000,.cells [.vec 4501])]⟩) (ids:=[(4000,4000),(4501,12000)]) (fun _ _ _ _ _ d x3 x4 j h=>?_) (hle:=klR [(1,.fn 1 (Sl.of [b]:Sl Pat).n (G7 [pI .i64 0,pI .u32 0,pI .u32 0,.v (.bool false),pI .i64 0,pI .i64 0,P4] [(0,B8 b)]) (fun i=>B8 ((Sl.of [b]:Sl Pat).g i)))] (al1 ⟨rfl,(fun i m=>match i,m with|0,_=>rfl|_+1,m=>Ng m (by omega))⟩ al0));apply kI Z h<;>intro h
 .apply kI Z h<;>intro h
  .cases h;exact kR Z
  obtain⟨c21,h⟩:=P1 h;refine CL Z (Ar0 (Ar0 c21.1 Q5) c21.2) 25 6000 (B8 (x3.g (wrap .i64 ((x3.n:Int)-1)).toNat)) ?_;obtain⟨c22,h⟩:=P1 h;refine Am3 Z c22 30 4501 (wrap .i64 ((x3.n:Int)-1)).toNat 4508 (e:=En) (k:=7) (N:=x3.n) (f:=fun i=>B8 (x3.g i)) (by have r:=c22;omega) ?_;obtain⟨y5,e7,h⟩:=D8 h;refine E5 Z [] Q5 (KX Z Y e7) ?_;apply kI Z h<;>intro h
  .cases h;exact kR Z
  refine Y0 Z Nk 39 ⟨[(38,.p (vSl 7 B8 (x3.g (wrap .i64 ((x3.n:Int)-1)).toNat).L)),(36,.p (vSl 7 B8 (x3.g (wrap .i64 ((x3.n:Int)-1)).toNat).L)),(4,pN x4),(3,.reg 4000 0)],[(4508,.vec En 7 (x3.take (wrap .i64 ((x3.n:Int)-1)).toNat).n (fun i=>B8 ((x3.take (wrap .i64 ((x3.n:Int)-1)).toNat).g i)) false),(4000,.cells [.vec 4508])]⟩ (ids:=[(4000,4000),(4508,4508)]) ?_ (hle:=klR [(0,.fn (x3.g (wrap .i64 ((x3.n:Int)-1)).toNat).L.n (x3.g (wrap .i64 ((x3.n:Int)-1)).toNat).L.n (Dn (x3.g (wrap .i64 ((x3.n:Int)-1)).toNat)) (fun i=>B8 ((x3.g (wrap .i64 ((x3.n:Int)-1)).toNat).L.g i))),(1,.fn (x3.g (wrap .i64 ((x3.n:Int)-1)).toNat).L.n (x3.g (wrap .i64 ((x3.n:Int)-1)).toNat).L.n (Dn (x3.g (wrap .i64 ((x3.n:Int)-1)).toNat)) (fun i=>B8 ((x3.g (wrap .i64 ((x3.n:Int)-1)).toNat).L.g i)))] (al1 ⟨rfl,AG (x3.g (wrap .i64 ((x3.n:Int)-1)).toNat)⟩ (al1 ⟨rfl,AG (x3.g (wrap .i64 ((x3.n:Int)-1)).toNat)⟩ al0)));obtain⟨c24,h⟩:=P1 h;obtain⟨y6,e8,h⟩:=D8 h;refine E5 Z [] c24 (X2 Z Y e8) ?_;obtain⟨L3,e9,h⟩:=D8 h;refine Hr Z Nk [44000] [4,3] 905 (fun z3=>⟨[(4,pN x4),(3,.reg 4000 0)],[(4500,.vec En 7 z3.n (fun i=>B8 (z3.g i)) false),(4000,.cells [.vec 4500])]⟩) (idl:=[(4000,4000),(4500,4508)]) h (U0 Z Y e9) (fun _=>by kernel_rfl) (fun _=>by kernel_rfl) (fun _=>by kernel_rfl) (fun _=>by kernel_rfl) (fun x7 _ o z3 q h=>?_) (fun z3 h=>?_)
  .refine Gx Z Nk ?_;refine Ab6 Z Nk 10000 (B8 x7.2) ?_;refine T4 Z Nk [(0,.l [4000]),(1,.n),(2,.l [4500]),(4,.a [51000,4500]),(5,.l [51000]),(6,.a [51000]),(7,.a [4000])] ?_;refine Dk Q5 (x:=.sl true 7 1 (G7 [pI .i64 0,pI .u32 0,pI .u32 0,.v (.bool false),pI .i64 0,pI .i64 0,P4] [(0,[pI .i64 0,pI .u32 0,pI .u32 0,.v (.bool false),pI .i64 0,pI .i64 0,P4])])) ?_;obtain⟨c27,h⟩:=P1 h;refine X9 (Ar0 (Ar0 c27.1.1 c27.1.2) (Ar0 (rfl:(7:Nat)=7) (Ar0 c27.2 Q5))) ?_;exact q _ [(905,905),(4000,4000),(4500,51000)] _ ((z3.push Pat.nil).upd (z3.n:Int).toNat x7.2) Nk h (hle:=klR [(0,.fn (z3.n+1) ((z3.push Pat.nil).upd (z3.n:Int).toNat x7.2).n (fun l=>if l=(z3.n:Int).toNat then splice (BP z3.n (fun i=>B8 (z3.g i)) (G7 [pI .i64 0,pI .u32 0,pI .u32 0,.v (.bool false),pI .i64 0,pI .i64 0,P4] [(0,[pI .i64 0,pI .u32 0,pI .u32 0,.v (.bool false),pI .i64 0,pI .i64 0,P4])]) l) 0 [pI .i64 x7.2.Kind,pI .u32 x7.2.Is.Plus,pI .u32 x7.2.Is.Minus,.bb x7.2.Not,pI .i64 x7.2.Min,pI .i64 x7.2.Max,.sl false 7 x7.2.L.n (Dn x7.2)]else (BP z3.n (fun i=>B8 (z3.g i)) (G7 [pI .i64 0,pI .u32 0,pI .u32 0,.v (.bool false),pI .i64 0,pI .i64 0,P4] [(0,[pI .i64 0,pI .u32 0,pI .u32 0,.v (.bool false),pI .i64 0,pI .i64 0,P4])])) l) (fun i=>B8 (((z3.push Pat.nil).upd (z3.n:Int).toNat x7.2).g i)))] (al1 ⟨rfl,setH (c:=B8) (v:=z3.push Pat.nil) (x:=x7.2) (app1H (c:=B8) (v:=z3) (z:=Pat.nil) same rfl) (fun _=>by simp[BP,G7,splice])⟩ al0))
  exact j _ [(4000,4000),(4501,4500)] _ z3 (wrap .i64 (x4+1)) Nk h
 cases h;exact kR Z
def U1 (N:Nat)(a:Pat)(p_w:Sl Qz):Option ((Nat->Int)×Int):= (S4 N a).bind fun y1=>if (y1 != 0) then some (fun _=>0,y1) else if (decide (32<(p_w.n:Int))) then some (fun _=>0,11) else (A7 N p_w (fun (u1:Qz)=>O9 N u1)).bind fun y2=>if y2 then some (fun _=>0,14) else (X0 N a).bind fun y3=>(X1 N y3 p_w).bind fun y4=>some (y4,0)
theorem GO {a:Pat}{p_w:Sl Qz}{y:(Nat->Int)×Int}(h:U1 N a p_w=some y) :FunO S GH [.p (.agg (B8 a)),.p (vSl 2 A0 p_w)] [] (.tup [.p (.agg (cA 33 (pI .u64) y.1)),pN y.2]) ([]) []:=by
 unfold U1 at h;refine A4 Z func214 ?_;refine kC Z h (Et Z Y) (fun y1 h=>?_);apply kI Z h<;>intro h
 .obtain rfl:=D0 h;exact A8 Z (Ar0 rfl (E1 _ _):(0:Nat)=0/\(AX 33 (fun i=>pI .u64 ((fun _=>0) i))).length=33) ⟨[(5,pN y1),(4,.reg 5000 0)],[(5000,.arr 33 (fun i=>pI .u64 ((fun _=>0) i)))]⟩ [] (ids:=[(5000,5000)]) ⟨rfl,rfl,rfl⟩ (hle:=klR [(1,.fn 33 33 (fun i=>[(fun i=>(cA 33 (pI .u64) (fun _=>0)).getD i default) i]) (fun i=>[pI .u64 ((fun _=>0) i)]))] (al1 ⟨rfl,C9 33 (fun i=>pI .u64 ((fun _=>0) i))⟩ al0))
 apply kI Z h<;>intro h
 .obtain rfl:=D0 h;exact A8 Z (Ar0 rfl (E1 _ _):(0:Nat)=0/\(AX 33 (fun i=>pI .u64 ((fun _=>0) i))).length=33) ⟨[(5,pN 11),(4,.reg 5000 0)],[(5000,.arr 33 (fun i=>pI .u64 ((fun _=>0) i)))]⟩ [] (ids:=[(5000,5000)]) ⟨rfl,rfl,rfl⟩ (hle:=klR [(1,.fn 33 33 (fun i=>[(fun i=>(cA 33 (pI .u64) (fun _=>0)).getD i default) i]) (fun i=>[pI .u64 ((fun _=>0) i)]))] (al1 ⟨rfl,C9 33 (fun i=>pI .u64 ((fun _=>0) i))⟩ al0))
 refine kC Z h (H2 Z Y (fun e=>Ka Z Y e)) (fun y2 h=>?_);apply kI Z h<;>intro h
 .obtain rfl:=D0 h;exact A8 Z (Ar0 rfl (E1 _ _):(0:Nat)=0/\(AX 33 (fun i=>pI .u64 ((fun _=>0) i))).length=33) ⟨[(5,pN 14),(4,.reg 5000 0)],[(5000,.arr 33 (fun i=>pI .u64 ((fun _=>0) i)))]⟩ [] (ids:=[(5000,5000)]) ⟨rfl,rfl,rfl⟩ (hle:=klR [(1,.fn 33 33 (fun i=>[(fun i=>(cA 33 (pI .u64) (fun _=>0)).getD i default) i]) (fun i=>[pI .u64 ((fun _=>0) i)]))] (al1 ⟨rfl,C9 33 (fun i=>pI .u64 ((fun _=>0) i))⟩ al0))
 refine kC Z h (La Z Y) (fun y3 h=>?_);obtain⟨y4,e4,h⟩:=D8 h;refine IM Z Nk (VL Z Y e4) ?_;obtain rfl:=D0 h;exact A8 Z (Ar0 rfl (E1 _ _):(0:Nat)=0/\(AX 33 (fun i=>pI .u64 (y4 i))).length=33) ⟨[(5,pN 0),(4,.reg 5000 0)],[(5000,.arr 33 (fun i=>pI .u64 (y4 i)))]⟩ [] (ids:=[(5000,5000)]) ⟨rfl,rfl,rfl⟩ (hle:=klR [(1,.fn 33 33 (fun i=>[(fun i=>(cA 33 (pI .u64) y4).getD i default) i]) (fun i=>[pI .u64 (y4 i)]))] (al1 ⟨rfl,C9 33 (fun i=>pI .u64 (y4 i))⟩ al0))
def Ae (N:Nat)(c:Pat)(p_w:Sl Qz)(a:Int):Option ((Sl Int)×Int):= (U1 N c p_w).bind fun y1=>lt (fun (z1:Int)=>if (z1 != 0) then some (Qv,z1) else N6 N (fun b (x2:Sl Int) (x3:Int)=>if (decide (x3<(wrap .i64 ((p_w.n:Int)+1)))) then if ((((0:Int)<=x3/\x3<33)/\(0+x3.toNat*1)<33)/\(0:Int)<=a)then if ((E9 .and .u64 (shI .shr .u64 (y1.1 (0+x3.toNat*1)) a) 1)==1) then if ((x2.n+(Sl.of [x3]:Sl Int).n)*8<=140737488355328/\x2.n+(Sl.of [x3]:Sl Int).n<=140737488355328)then b (x2.push x3) (wrap .i64 (x3+1)) else none else b x2 (wrap .i64 (x3+1)) else none else some (x2,0)) Qv 0) fun k1=>if (y1.2==0) then (T7 N p_w a).bind fun y3=>k1 y3 else k1 y1.2
theorem Nq {d:Pat}{p_w:Sl Qz}{a:Int}{y:(Sl Int)×Int}(h:Ae N d p_w a=some y) :FunO S GG [.p (.agg (B8 d)),.p (vSl 2 A0 p_w),pN a] [] (.tup [.vec 0,pN y.2]) ([.vec M9 1 y.1.n (fun i=>cI .i64 (y.1.g i)) true]) []:=by
 unfold Ae at h;refine A4 Z func202 ?_;refine kC Z h (GO Z Y) (fun y1 h=>?_);refine Se Z (Ar0 rfl (E1 _ _):(0:Nat)=0/\(AX 33 (fun i=>pI .u64 (y1.1 i))).length=33) (C6 Z) h 0 (fun z1=>⟨[(9,pN z1),(8,.reg 9000 0),(2,pN a),(1,.p (vSl 2 A0 p_w))],[(9000,.arr 33 (fun i=>pI .u64 (y1.1 i)))]⟩) (fun M1 k1 f h=>?_) (fun z1 h=>?_)
 .apply kI Z h<;>intro h
  .refine kC Z h (GN Z Y) (fun y3 h=>?_);exact f _ [(9000,9000)] _ y3 Nk h (hle:=klR [(3,.fn 33 33 (fun i=>[(fun i=>(cA 33 (pI .u64) y1.1).getD i default) i]) (fun i=>[pI .u64 (y1.1 i)]))] (al1 ⟨rfl,C9 33 (fun i=>pI .u64 (y1.1 i))⟩ al0))
  exact f _ [(9000,9000)] _ y1.2 Nk h (hle:=klR [(3,.fn 33 33 (fun i=>[(fun i=>(cA 33 (pI .u64) y1.1).getD i default) i]) (fun i=>[pI .u64 (y1.1 i)]))] (al1 ⟨rfl,C9 33 (fun i=>pI .u64 (y1.1 i))⟩ al0))
 apply kI Z h<;>intro h
 .obtain rfl:=D0 h;exact A8 Z Nk ⟨[(7,pN z1),(6,.vec 7700)],[(7700,.vec M9 1 Qv.n (fun i=>cI .i64 (Qv.g i)) true)]⟩ [7700] (ids:=[]) ⟨rfl,rfl,rfl⟩
 refine W1 Z Nk h (fun x2 x3=>⟨[(29,pN x3),(28,pN (wrap .i64 ((p_w.n:Int)+1))),(10,.vec 11500),(8,.reg 9000 0),(2,pN a)],[(11500,.vec M9 1 x2.n (fun i=>cI .i64 (x2.g i)) false),(9000,.arr 33 (fun i=>pI .u64 (y1.1 i)))]⟩) (ids:=[(9000,9000)]) (fun _ _ _ _ _ l x2 x3 j h=>?_);apply kI Z h<;>intro h
 .obtain⟨c12,h⟩:=P1 h;refine E4 Z c12 (b:=(E9 .and .u64 (shI .shr .u64 (y1.1 (0+x3.toNat*1)) a) 1)==1) (fun c13=>?_) (fun c13=>?_)
  .replace h:=itT c13 h;obtain⟨c14,h⟩:=P1 h;exact j _ [(9000,9000),(11500,43000)] _ (x2.push x3) (wrap .i64 (x3+1)) (Ar0 Q8 c14) h (hle:=klR [(3,.fn (x2.n+1) (x2.push x3).n (BP x2.n (fun i=>cI .i64 (x2.g i)) (G7 [pI .i64 0] [(0,cI .i64 x3)])) (fun i=>cI .i64 ((x2.push x3).g i)))] (al1 ⟨rfl,Uh (c:=cI .i64) (v:=x2) (x:=x3) (z:=[(pI .i64 0)]) same rfl rfl⟩ al0))
  replace h:=itF c13 h;exact j _ [(9000,9000),(11500,11500)] _ x2 (wrap .i64 (x3+1)) Nk h
 obtain rfl:=D0 h;exact A8 Z Nk ⟨[(7,pN 0),(6,.vec 11500)],[(11500,.vec M9 1 x2.n (fun i=>cI .i64 (x2.g i)) true)]⟩ [11500] (ids:=[(11500,11500)]) ⟨rfl,rfl,rfl⟩
def F6 (N:Nat)(a:List (Int)):Option (Sl Int):= K5 a (fun b (x1:Int) (z1:Sl Int)=>if ((z1.n+(Sl.of [x1]:Sl Int).n)*8<=140737488355328/\z1.n+(Sl.of [x1]:Sl Int).n<=140737488355328)then b (z1.push x1) else none) (fun (z1:Sl Int)=>some z1) Qv
theorem AR {b:List (Int)}{a:Int}{kp_seq:Nat}(fp_seq:∃fn,Aq3[kp_seq]? = some fn/\fn.body.isSome=true/\(fn.name == "runtime.NumGoroutine")=false)(d:Ck S kp_seq [] [.reg 0 0] [(.cells [(.p (pI .u64 a))])] (b.map (fun (x:Int)=>[(pI .i64) x]))){y:(Sl Int)}(h:F6 N b=some y) :FunO S G4 [(.p P4),(.clo kp_seq [] [(.reg 0 0)])] [(.cells [(.p (pI .u64 a))])] (.vec 0) ([(.vec M9 1 y.n (fun i=>(cI .i64) (y.g i)) true)]) [false]:=by
 unfold F6 at h;refine A4 Z func77 ?_;refine Gw Z Nk fp_seq [0] [2] 901 (fun z1=>⟨[(2,(.reg 3000 0))],[(3500,(.vec M9 1 z1.n (fun i=>(cI .i64) (z1.g i)) false)),(3000,(.cells [(.vec 3500)]))]⟩) (idl:=[(3000,3000)]) h d (fun _=>by kernel_rfl) (fun _=>by kernel_rfl) (fun _=>by kernel_rfl) (fun _=>by kernel_rfl) (fun x1 _ f z1 j h=>?_) (fun z1 h=>?_)
 .refine Gx Z Nk ?_;obtain⟨c1,h⟩:=P1 h;exact j _ [(901,901),(3000,3000),(3500,12000)] _ (z1.push x1) (Ar0 Q8 c1) h (hle:=klR [(0,.fn (z1.n+1) (z1.push x1).n (BP z1.n (fun i=>(cI .i64) (z1.g i)) (G7 [(pI .i64 0)] [(0,(cI .i64) x1)])) (fun i=>(cI .i64) ((z1.push x1).g i)))] (al1 ⟨rfl,(Uh (c:=(cI .i64)) (v:=z1) (x:=x1) (z:=[(pI .i64 0)]) same rfl rfl)⟩ al0))
 obtain rfl:=D0 h;exact A8 Z Nk ⟨[(4,(.vec 3500))],[(3500,(.vec M9 1 z1.n (fun i=>(cI .i64) (z1.g i)) true))]⟩ [3500] (ids:=[(3500,3500)]) ⟨rfl,rfl,rfl⟩
def I6 (N:Nat)(a:List (Int)):Option (Sl Int):= (F6 N a).bind fun y1=>some y1
theorem Eu {b:List (Int)}{a:Int}{kp_seq:Nat}(fp_seq:∃fn,Aq3[kp_seq]? = some fn/\fn.body.isSome=true/\(fn.name == "runtime.NumGoroutine")=false)(c:Ck S kp_seq [] [.reg 0 0] [(.cells [(.p (pI .u64 a))])] (b.map (fun (x:Int)=>[(pI .i64) x]))){y:(Sl Int)}(h:I6 N b=some y) :FunO S O5 [(.clo kp_seq [] [(.reg 0 0)])] [(.cells [(.p (pI .u64 a))])] (.vec 0) ([(.vec M9 1 y.n (fun i=>(cI .i64) (y.g i)) true)]) [false]:=by unfold I6 at h;refine A4 Z func46 ?_;obtain⟨y1,e1,h⟩:=D8 h;refine E5 Z [0] Nk (AR Z Y fp_seq c e1) ?_;obtain rfl:=D0 h;exact A8 Z Nk ⟨[(2,(.vec 5000))],[(5000,(.vec M9 1 y1.n (fun i=>(cI .i64) (y1.g i)) true))]⟩ [5000] (ids:=[(5000,5000)]) ⟨rfl,rfl,rfl⟩
def BL (N:Nat)(b:Pat)(p_w:Sl Qz)(a:Int):Option ((Sl Int)×Int):= (U1 N b p_w).bind fun y1=>lt (fun (z1:Int)=>if (z1 != 0) then some (Qv,z1) else if (((0:Int)<=a/\a<33)/\(0+a.toNat*1)<33)then (W8 N (y1.1 (0+a.toNat*1))).bind fun y4=>(N4 N y4).bind fun L1=>(I6 N L1).bind fun y5=>some (y5,0) else none) fun k1=>if (y1.2==0) then (T7 N p_w a).bind fun y3=>k1 y3 else k1 y1.2
theorem QO {b:Pat}{p_w:Sl Qz}{a:Int}{y:(Sl Int)×Int}(h:BL N b p_w a=some y) :FunO S JJ [.p (.agg (B8 b)),.p (vSl 2 A0 p_w),pN a] [] (.tup [.vec 0,pN y.2]) ([.vec M9 1 y.1.n (fun i=>cI .i64 (y.1.g i)) true]) []:=by
 unfold BL at h;refine A4 Z func203 ?_;refine kC Z h (GO Z Y) (fun y1 h=>?_);refine Se Z (Ar0 rfl (E1 _ _):(0:Nat)=0/\(AX 33 (fun i=>pI .u64 (y1.1 i))).length=33) (C6 Z) h 0 (fun z1=>⟨[(9,pN z1),(8,.reg 9000 0),(2,pN a)],[(9000,.arr 33 (fun i=>pI .u64 (y1.1 i)))]⟩) (fun M1 k1 c h=>?_) (fun z1 h=>?_)
 .apply kI Z h<;>intro h
  .refine kC Z h (GN Z Y) (fun y3 h=>?_);exact c _ [(9000,9000)] _ y3 Nk h (hle:=klR [(2,.fn 33 33 (fun i=>[(fun i=>(cA 33 (pI .u64) y1.1).getD i default) i]) (fun i=>[pI .u64 (y1.1 i)]))] (al1 ⟨rfl,C9 33 (fun i=>pI .u64 (y1.1 i))⟩ al0))
  exact c _ [(9000,9000)] _ y1.2 Nk h (hle:=klR [(2,.fn 33 33 (fun i=>[(fun i=>(cA 33 (pI .u64) y1.1).getD i default) i]) (fun i=>[pI .u64 (y1.1 i)]))] (al1 ⟨rfl,C9 33 (fun i=>pI .u64 (y1.1 i))⟩ al0))
 apply kI Z h<;>intro h
 .obtain rfl:=D0 h;exact A8 Z Nk ⟨[(7,pN z1),(6,.vec 7700)],[(7700,.vec M9 1 Qv.n (fun i=>cI .i64 (Qv.g i)) true)]⟩ [7700] (ids:=[]) ⟨rfl,rfl,rfl⟩
 obtain⟨c5,h⟩:=P1 h;obtain⟨y4,e4,h⟩:=D8 h;refine E5 Z [] c5 (Cp Z Y e4) ?_;obtain⟨L1,e5,h⟩:=D8 h;obtain⟨y5,e6,h⟩:=D8 h;refine E5 Z [28000] Nk (Eu Z Y ⟨_,func226,by decide +kernel,by decide +kernel⟩ (Bb Z Y e5) e6) ?_;obtain rfl:=D0 h;exact A8 Z Nk ⟨[(7,pN 0),(6,.vec 29000)],[(29000,.vec M9 1 y5.n (fun i=>cI .i64 (y5.g i)) true)]⟩ [29000] (ids:=[(29000,29000)]) ⟨rfl,rfl,rfl⟩
end Go.AM
