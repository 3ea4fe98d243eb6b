/- What a law's walk and its plain proof need, part 11: no condition of its own. -/
import Derived.Test.YtfcfdofmgkpmbaaGreatDoorNG
import Derived.Test.YtfcfdofmgkpmbaaGreatDoorNF
import Derived.Test.YtfcfdofmgkpmbaaGreatDoorNI
import Derived.Lay
set_option linter.defProp false
set_option linter.unusedSimpArgs false
set_option linter.unusedVariables false
set_option linter.unusedSectionVars false
namespace Go.AM
def De:=@decide_eq_true_eq
theorem Ay{c:Prop}{i:Decidable c}{α:Sort _}{a b:α}(h:¬c:=by omega):(if c then a else b)=b:=Bb h
theorem Aw{c:Prop}{i:Decidable c}{α:Sort _}{a b:α}(h:c:=by omega):(if c then a else b)=a:=Az h
def AK2:=@Int.toNat_natCast
def AM9:=@Bool.eq_iff_iff
def AN5:=@List.range_succ
def AO7:=@BitVec.getLsbD_and
def AP3:=@BitVec.eq_of_toNat_eq
def AP7:=@BitVec.eq_of_getLsbD_eq
def AQ1:=@Go.Proofs.Tryz.underlying5
def AR5:=@List.map_append
def AR8:=@Go.Proofs.Tryz.underlying3
def AT0:=@Nat.not_lt_zero
def AT9:=@Bool.not_eq_true
def AU1:=@Go.Proofs.Tryz.underlying4
def AU5:=@Nat.pow_le_pow_right
def AU7:=@BitVec.getLsbD_or
def AU8:=@List.reverse_append
def AV1:=@Go.Proofs.Tryz.underlying119
def AV4:=@Bool.or_eq_false_iff
def AV7:=@List.any_eq_false
def AW3:=@BitVec.toNat_shiftLeft
def AX2:=@Bool.eq_false_iff
def AX4:=@Go.Proofs.Tryz.underlying85
def AX6:=@Go.Claim7.holds_tied_plain_at
def AX9:=@Nat.shiftRight_eq_div_pow
def AY3:=@Go.Proofs.Tryz.underlying9
def AY5:=@BitVec.toNat_ushiftRight
def AY8:=@List.filter_append
def AZ0:=@Bool.and_comm
def AZ2:=@BitVec.getLsbD_not
def AZ6:=@UInt8.toNat_ofNat'
def AZ8:=@Go.OpenSpec.preRow_of_cond
def Ba1:=@Go.OpenClaim.holds_of_cond
def Ba4:=@Go.OpenClaim.pre_eq_preRow
def Bb2:=@Classical.not_not
def Bb6:=@Nat.shiftLeft_eq
def Bb8:=@List.mem_reverse
def Bc2:=@Int.ofNat.inj
def Bc3:=@Nat.testBit_two_pow_sub_one
def Bc5:=@List.filter_nil
def Bd1:=@Int.fdiv_eq_ediv_of_nonneg
def Bd3:=@BitVec.getLsbD_ushiftRight
def Bd6:=@BitVec.toNat_ofInt
def Bd8:=@BitVec.getLsbD_one
def Be2:=@Go.Proofs.Tryz.underlying72
def Be7:=@List.filter_cons_of_pos
def Be9:=@List.filter_cons_of_neg
def Bf1:=@BitVec.getLsbD_setWidth
def Bf3:=@Classical.axiomOfChoice
def Bf4:=@Nat.add_sub_cancel_left
def Bf7:=@Nat.min_eq_right
def Bg2:=@List.mem_toArray
def Bg5:=@List.not_mem_nil
def Bg8:=@Nat.testBit_lt_two_pow
def Bg9:=@List.reverse_singleton
def Bh2:=@BitVec.getLsbD_ofBool
def Bh4:=@Bool.and_eq_false_iff
def Bh5:=@List.singleton_append
def Bh6:=@List.mem_append
def Bi3:=@Nat.pow_lt_pow_right
def Bi5:=@BitVec.getLsbD_ofNat
def Bj1:=@Nat.mul_le_mul
def Bj4:=@Go.Proofs.Tryz.func12
def Bj6:=@Int.toNat_of_nonneg
def Bk1:=@Int.natCast_nonneg
def Bk3:=@Int.add_emod_right
def Bk5:=@List.filter_filter
def Bk7:=@List.cons.inj
def Bk8:=@Go.Proofs.Tryz.params11
def Bl9:=@Go.Proofs.Tryz.func11
theorem leC0:leC [] []:=⟨rfl,fun _=>.inl rfl⟩
theorem leCc {x y:PV}{xs ys:List PV}(h:leP x y)(hs:leC xs ys):leC (x::xs) (y::ys):=
 ⟨by rw[AN3,AN3,hs.1],fun j=>by cases j with
  |zero=>exact h
  |succ j=>exact hs.2 j⟩
theorem lePN {k:Nat}{g:Nat->List PV}:leP (.v (.slice none 0 0)) (.sl false k 0 g):=.inr (.inr (.inl ⟨_,_,rfl,rfl⟩))
theorem AC1 {xs ys:List PV}(h:leC xs ys):AV.p (.agg xs)=.p (.agg ys) \/ ∃x y,AV.p (.agg xs)=.p x/\AV.p (.agg ys)=.p y/\leQ x y:=.inr ⟨_,_,rfl,rfl,.inr (.inr ⟨_,_,rfl,rfl,h⟩)⟩
section
variable {S:Q8}{P:Program}{F:I2}{K:List It}{st:St}
section
variable {n:Nat}{rs:List ResultVar}{Q:Md->List Obj->List Bool->Prop}{l:List AV}{a:AV}
end
end
end Go.AM
namespace Go.AM
open IntKind (wrap)
def Qy {n:Nat}(h:n<2 ^ 32):IntKind.u32.wrap (n:Int)=n:=by have h1:((n:Int) % (2 ^ 32:Int))=n:=AS0 (by omega) (by omega);unfold wrap;simp only[IntKind.bits,IntKind.signed,h1,AV2,AK8,Cj]
def IG (x:BitVec 32):BitVec.ofInt 32 (x.toNat:Int)=x:=by
 apply AP3;rw[Bd6]
 have:=x.isLt
 omega
def Mn (x y:BitVec 32):E3 .and .u32 x.toNat y.toNat=((x &&& y).toNat:Int):=by simp only[E3,IntKind.bits,IG];exact Qy (x &&& y).isLt
def Zm (x y:BitVec 32):E3 .or .u32 x.toNat y.toNat=((x ||| y).toNat:Int):=by simp only[E3,IntKind.bits,IG];exact Qy (x ||| y).isLt
def XD (x y:BitVec 32):E3 .andNot .u32 x.toNat y.toNat=((x &&& ~~~ y).toNat:Int):=by simp only[E3,IntKind.bits,IG];exact Qy (x &&& ~~~ y).isLt
def Aq7 (x:BitVec 32)(n:Nat):shI .shr .u32 x.toNat n=((x >>> n).toNat:Int):=by
 simp only[shI,IntKind.bits,AK2];have hx:=x.isLt;rw[AY5,AX9];have e:((2:Int) ^ (min n 32))=((2 ^ (min n 32):Nat):Int):=by norm_cast
 rw[e,Bd1 _ (Bk1 _),<- Int.natCast_ediv];congr 1;by_cases h:n<=32
 .rw[AS8 h]
 rw[Bf7 (by omega),AT7 hx,AT7];exact AM6 hx (AU5 (by omega) (by omega))
end Go.AM
namespace Go.AM
namespace Sl
variable {α : Type}
end Sl
section
variable {R:Type}
variable {A B C D E F G H:Type}
theorem Q9 {N:Nat}{body:(A->Option R)->A->Option R}{a:A}:Y1 (N+1) body a=body (Y1 N body) a:=rfl
theorem Sr {N:Nat}{body:(A->B->Option R)->A->B->Option R}{a:A}{b:B}:BC (N+1) body a b=body (BC N body) a b:=rfl
end
section
variable {R X Y:Type}{r:R}
end
section
variable {S:Q8}{P:Program}{F:I2}{K:List It}{st:St}
end
section
variable {regs:D1}{ids:List (Nat×Nat)}
variable {env r:Env}{t:Nat}{a b:AV}{x y:PV}
end
end Go.AM
namespace Go.AM
abbrev cB (b:Bool):List PV:=[.bb b]
abbrev cS (s:Str):List PV:=[.str s]
section
variable {S:Q8}{P:Program}{F:I2}{K:List It}{st:St}
end
section
variable {regs:D1}{ids:List (Nat×Nat)}
end
end Go.AM
namespace Go.AM
theorem Us {κ ν : Type}(kP : κ -> PV)(vP : ν -> PV)(es:List (κ × ν)):(LE kP vP es).length=es.length:=by simp[LE]
theorem Ss {X Y:Type}(a:Y)(f:X->Y):At7 none a f=a:=rfl
theorem Zn {X Y:Type}(x:X)(a:Y)(f:X->Y):At7 (some x) a f=f x:=rfl
section
variable {R T A B C D:Type}
end
section
variable {S:Q8}{P:Program}{F:I2}{K:List It}{st:St}
end
end Go.AM
namespace Go.AM
section
variable {S:Q8}{P:Program}{all:List Oper}{k:Env->D1->Prop}
end
end Go.AM
namespace Go.AM
section
variable (P:Program)
end
section
variable {P:Program}
variable {S:Q8}{F:I2}{g:Cfg}{pr:Prop}
end
section
variable {S:Q8}{P:Program}{F:I2}{g:Cfg}{pr:Prop}
section
variable {sc:SC}{k:Env->D1->Prop}
theorem Aq8:∀{env:Env}{i d:Nat}{b:AV},Ag9 ((i,b)::env)=true->get env d ≠ .top->d<i
 |[],_,_,_,_,h=>Bc rfl h
 |(j,c)::r,i,d,b,hd,h=>by
  simp only[Ag9,AK5,De]at hd;by_cases e:j=d
  .subst e;exact hd.1
  simp only[get,e,Cj]at h;exact Nat.lt_trans (Aq8 hd.2 h) hd.1
theorem Qz:∀{env:Env}{d:Nat}{a:AV},Ag9 env=true->get env d=a->a ≠ .top->ins d a env=env
 |[],_,_,_,h,hn=>Bc h.symm hn
 |(i,b)::r,d,a,hd,h,hn=>by
  by_cases e:i=d
  .subst e;simp only[get,Bq]at h;subst h;simp[ins]
  simp only[get,e,Cj]at h;have c:=Aq8 hd (by rw[h];exact hn);have f:Ag9 r=true:=by
   cases r with
   |nil=>rfl
   |cons p r=>simp only[Ag9,AK5]at hd;exact hd.2
  simp only[ins,show ¬i<d by omega,e,Cj,Qz f h hn]
def Mo (v:Bool)(sc:SC):SC:=match sc.rest with
 |o::_=>match o.guard with
  |some (j,_)=>match AC2 sc.all j with
   |some d=>mkO (ins d (.p (.bb v)) sc.env) sc.regs fun env regs=>⟨sc.all,sc.cls,sc.rest,env,regs,j::sc.kn⟩
   |none=>sc
  |none=>sc
 |[]=>sc
theorem At8 (hc:pr){b:Bool}(ht:b=true->SG S P (Mo true (GK P sc)) k)(f:b=false->SG S P (Mo false (GK P sc)) k)(hp:pr=E7 (Zh P sc))(hb:QA (GK P sc)=some b):SG S P sc k:=by
 refine AC3 hc ?_ hp;generalize GK P sc=s at hb ht f;obtain⟨all,cls,rest,env,regs,kn⟩:=s;cases rest with
 |nil=>simp[QA]at hb
 |cons o rest=>
  simp only[QA]at hb;split at hb
  .rename_i j w g;split at hb
   .rename_i d i;split at hb
    .rename_i b' a;split at hb
     .rename_i c;simp only[AK0]at hb;subst hb;simp only[Mo,g,i,EY]at ht f;cases b' with
      |true=>have:=ht rfl;rwa [Qz c a (by simp)]at this
      |false=>have:=f rfl;rwa [Qz c a (by simp)]at this
     cases hb
    cases hb
   cases hb
  cases hb
end
end
section
variable {S:Q8}{P:Program}{F:I2}{g:Cfg}{pr:Prop}
section
variable {sc:SC}{k:Env->D1->Prop}
theorem At9 (hc:pr){b:Bool}(ht:b=true->DG S P (Mo true (GK P sc)) k)(a:b=false->DG S P (Mo false (GK P sc)) k)(hp:pr=E7 (Zh P sc):=by kernel_rfl)(hb:QA (GK P sc)=some b:=by kernel_rfl):DG S P sc k:=
 ⟨At8 hc (fun h=>(ht h).out) (fun h=>(a h).out) hp hb⟩
end
end
end Go.AM
namespace Go.AM
section
variable {S:Q8}{P:Program}{F:I2}{K:List It}{st:St}{g:Cfg}{pr:Prop}
theorem AC4 {k:Nat}{g:Nat->List PV}:AV.p (.v (.slice none 0 0))=.p (.sl false k 0 g) \/ ∃x y,AV.p (.v (.slice none 0 0))=.p x/\AV.p (.sl false k 0 g)=.p y/\leQ x y:=
 .inr ⟨_,_,rfl,rfl,.inl (.inr (.inr (.inl ⟨_,_,rfl,rfl⟩)))⟩
end
end Go.AM
namespace Go.AM
open Go.RowKit Go.ChangeShapes Go.Deep
theorem LeDs.append {a b c d:List PV}(h:LeDs a b)(h' : LeDs c d):LeDs (a++c) (b++d):=by
 induction a generalizing b with
 |nil=>cases h;exact h'
 |cons x l ih=>cases h with|cons h1 h2=>exact .cons h1 (ih h2)
section
variable {P:Program}{t e:TypeId}{m:Nat}{pvs:List PV}
def E6 (f:Nat->Nat):Nat->Nat
 |0=>0
 |k+1=>E6 f k+f k
theorem Au0 (f:Nat->Nat){k n:Nat}(h:k<=n):E6 f k<=E6 f n:=by
 induction h with
 |refl=>exact AK6 _
 |step _ ih=>simp only[E6];omega
theorem Zo (f:Nat->Nat){k n:Nat}(h:k<n):f k<=E6 f n:=by
 have:=Au0 f (show k+1<=n from h)
 simp only[E6]at this;omega
theorem GS {f g:Nat->Nat}:∀{n:Nat},(∀i,i<n->f i<=g i)->E6 f n<=E6 g n
 |0,_=>AK6 _
 |n+1,h=>by have h1:=GS (n:=n) fun i a=>h i (by omega);have b:=h n (by omega);simp only[E6];omega
theorem Gu (f:Nat->Nat):∀n,Oz ((List.range n).map f)=E6 f n:=by
 have app:∀a b:List Nat,Oz (a++b)=Oz a+Oz b:=by
  intro a b
  induction a with
  |nil=>simp[Oz]
  |cons x r ih=>simp only[AN4,Mp,ih];omega
 intro n
 induction n with
 |zero=>rfl
 |succ n ih=>rw[AN5,AR5,app,ih];simp[E6,Oz]
theorem XE (ht:P.underlying t=some .bool):LF P t cB (fun _=>True) (fun _=>1):=by
 intro m pvs h;cases h with
 |int ht'=>rw[ht]at ht';cases ht'
 |str ht'=>rw[ht]at ht';cases ht'
 |slice _ ht'=>rw[ht]at ht';cases ht'
 |arr ht'=>rw[ht]at ht';cases ht'
 |struct ht'=>rw[ht]at ht';cases ht'
 |bool ht' hm=>exact⟨_,LeDs.refl _,trivial,hm⟩
theorem Zp (ht:P.underlying t=some .string):LF P t cS (fun _=>True) (fun l=>l.length+1):=by
 intro m pvs h;cases h with
 |int ht'=>rw[ht]at ht';cases ht'
 |bool ht'=>rw[ht]at ht';cases ht'
 |slice _ ht'=>rw[ht]at ht';cases ht'
 |arr ht'=>rw[ht]at ht';cases ht'
 |struct ht'=>rw[ht]at ht';cases ht'
 |str ht' hm=>exact⟨_,LeDs.refl _,trivial,hm⟩
theorem T7 {T:Type}[Inhabited T]{c:T->List PV}{W:T->Prop}{sz:T->Nat}{k:Nat}(ht:P.underlying t=some (.slice e))(hk:P.cellsOf e=k)(h:LF P e c W sz) :LF P t (cL k c) (fun s=>∀i,i<s.n->W (s.g i)) (fun s=>E6 (fun i=>sz (s.g i)) s.n+1):=by
 intro m pvs hs;cases hs with
 |int ht'=>rw[ht]at ht';cases ht'
 |bool ht'=>rw[ht]at ht';cases ht'
 |str ht'=>rw[ht]at ht';cases ht'
 |arr ht'=>rw[ht]at ht';cases ht'
 |struct ht'=>rw[ht]at ht';cases ht'
 | @slice _ _ e' n f ms ht' hl hel hm=>
  rw[ht]at ht';cases ht';obtain⟨g,b⟩:=choose_lt (α:=T) (p:=fun i x=>LeDs (f i) (c x)/\W x/\sz x<=ms i) fun i a=>h _ _ (hel i a);refine⟨⟨n,g⟩,?_,fun i a=>(b i a).2.1,?_⟩
  .subst hk;exact .cons (.sl fun i a=>(b i a).1) .nil
  have h1:=GS (n:=n) fun i a=>(b i a).2.2;rw[Gu]at hm;show E6 (fun i=>sz (g i)) n+1<=m;omega
theorem Ct {fs:Array Field}(ht:P.underlying t=some (.struct fs))(h:IH P m t pvs):∃m',GT P m' (fs.toList.map (·.type)) pvs/\m' + 1<=m:=by
 cases h with
 |int ht'=>rw[ht]at ht';cases ht'
 |bool ht'=>rw[ht]at ht';cases ht'
 |str ht'=>rw[ht]at ht';cases ht'
 |slice _ ht'=>rw[ht]at ht';cases ht'
 |arr ht'=>rw[ht]at ht';cases ht'
 |struct ht' h hm=>rw[ht]at ht';cases ht';exact⟨_,h,hm⟩
theorem F0 {ts:List TypeId}(h:GT P m (t::ts) pvs):∃a b p q,pvs=p++q/\IH P a t p/\GT P b ts q/\a+b<=m:=by
 cases h with
 |cons h h' hm=>exact⟨_,_,_,_,rfl,h,h',hm⟩
theorem EZ (h:GT P m [] pvs):pvs=[]:=by cases h;rfl
end
end Go.AM
namespace Go.AM
structure HY where
 Parents:(Sl Int)
 Laws:(Sl Law)
 On:(Sl Int)
 deriving Inhabited
abbrev Dx (x:HY):List PV:=[(vSl 1 (cI .u8) x.Parents),vSl 18 B5 x.Laws,vSl 1 (cI .u16) x.On]
end Go.AM
namespace Go.AM
open Go.Proofs
abbrev BX:Nat:=11
def Fa:AJ8[BX]? = some Tryz.f11:=Bl9
abbrev Cu:Nat:=12
def GU:AJ8[Cu]? = some Tryz.f12:=Bj4
abbrev Mq:Nat:=28
abbrev Gv:Nat:=39
abbrev BF:Nat:=48
abbrev Mr:Nat:=67
abbrev Ms:Nat:=68
abbrev Py:Nat:=69
abbrev Mt:Nat:=86
abbrev KR:Nat:=88
abbrev Pz:Nat:=100
abbrev Mu:Nat:=101
abbrev Mv:Nat:=102
abbrev HN:Nat:=103
abbrev FE:Nat:=104
abbrev Dg:Nat:=132
abbrev PA:Nat:=133
abbrev PB:Nat:=134
abbrev Mw:Nat:=135
abbrev Mx:Nat:=136
abbrev PC:Nat:=137
abbrev My:Nat:=143
abbrev KS:Nat:=156
abbrev HO:Nat:=157
abbrev PD:Nat:=173
abbrev UD:Nat:=75
abbrev Zq:Nat:=155
end Go.AM
namespace Go.AM
open IntKind (wrap)
def Y2 {n:Nat}(h:n<2 ^ 64):IntKind.u64.wrap (n:Int)=n:=by have h1:((n:Int) % (2 ^ 64:Int))=n:=AS0 (by omega) (by omega);unfold wrap;simp only[IntKind.bits,IntKind.signed,h1,AV2,AK8,Cj]
def FF (x:BitVec 64):BitVec.ofInt 64 (U x)=x:=by
 apply AP3;rw[Bd6]
 have:=x.isLt
 show ((x.toNat:Int) % ((2 ^ 64:Nat):Int)).toNat=x.toNat;omega
def UE (x y:BitVec 64):E3 .and .u64 (U x) (U y)=U (x &&& y):=by simp only[E3,IntKind.bits,FF];exact Y2 (x &&& y).isLt
def or64 (x y:BitVec 64):E3 .or .u64 (U x) (U y)=U (x ||| y):=by simp only[E3,IntKind.bits,FF];exact Y2 (x ||| y).isLt
def EA (x y:BitVec 64):E3 .andNot .u64 (U x) (U y)=U (x &&& ~~~ y):=by simp only[E3,IntKind.bits,FF];exact Y2 (x &&& ~~~ y).isLt
def Mz (n:Nat)(h:n<64):shI .shl .u64 1 n=U (1#64 <<< n):=by
 simp only[shI,IntKind.bits,AK2];rw[AS8 (by omega)];show wrap .u64 (1*2 ^ n)=((1#64 <<< n).toNat:Int);rw[AW3,Bb6];have h1:(2:Nat) ^ n<2 ^ 64:=Bi3 (by omega) h;have e:((1:Int)*2 ^ n)=((2 ^ n:Nat):Int):=by norm_cast;omega
 rw[e,Y2 h1]
 norm_cast
 rw[AQ9]
 .simp
 simpa using h1
def QC {i:Nat}:(1#64).getLsbD i=decide (i=0):=by rw[Bd8];simp
def Au1 {n i:Nat}(h:n<64)(a:i<64):(1#64 <<< n).getLsbD i=decide (i=n):=by rw[BitVec.getLsbD_shiftLeft,QC,AM9];simp only[AK5,AL6,De,decide_eq_false_iff_not];omega
def OE {x y:BitVec 64}(h:∀b,b<64->(x.getLsbD b=true↔y.getLsbD b=true)):x=y:=
 AP7 fun b hb=>AM9.2 (h b hb)
end Go.AM
namespace Go.AM
open Go.Proofs
section
variable {S:Q8}(hS:H1 S Tryz.prog) (hL:GL S)
include hS hL
def K6 (N:Nat)(s:Sl Int)(n:Int):Option (Sl Int):=if s.n=1/\0<=n/\n*8<=140737488355328 then some (Sl.rep n.toNat (s.g 0))else none
theorem Ee {N:Nat}{s:Sl Int}{n:Int}{y:Sl Int}(h:K6 N s n=some y):FunO S K7 [.p (vSl 1 (cI .i64) s),.p (pI .i64 n)] [] (.vec 0) [.vec D4 1 y.n (fun i=>cI .i64 (y.g i)) false] []:=by
 obtain⟨⟨a,h1,b⟩,h⟩:=E8 h;obtain rfl:=C7 h
 have:=hL.repI s n.toNat a (by omega)
 rw[show ((n.toNat:Nat):Int)=n by omega]at this;exact this
def H6 (N:Nat)(s:Sl (Sl Eg))(n:Int):Option (Sl (Sl Eg)):=if s.n=1/\0<=n/\n*24<=140737488355328 then some (Sl.rep n.toNat (s.g 0))else none
theorem S2 {N:Nat}{s:Sl (Sl Eg)}{n:Int}{y:Sl (Sl Eg)}(h:H6 N s n=some y):FunO S C5 [.p (vSl 1 (cL 2 A1) s),.p (pI .i64 n)] [] (.p (vSl 1 (cL 2 A1) y)) [] []:=by
 obtain⟨⟨a,h1,b⟩,h⟩:=E8 h;obtain rfl:=C7 h
 have:=hL.repW s n.toNat a (by omega)
 rw[show ((n.toNat:Nat):Int)=n by omega]at this;exact this
end
end Go.AM
namespace Go.AM
variable {N:Nat}
open IntKind (wrap)
open Go.Proofs
set_option maxRecDepth 10000
set_option maxHeartbeats 2000000
variable {S:Q8}(hS:H1 S Tryz.prog) (hL:GL S)
include hS hL
def Y3 (N:Nat)(a:Eg):Option Bool:= Y1 N (fun b (x1:Int)=>if (decide (x1<32)) then if ((0:Int)<=x1/\(0:Int)<=x1)then if ((((E3 .and .u32 (shI .shr .u32 a.Plus x1) 1)==1)&&((E3 .and .u32 (shI .shr .u32 a.Minus x1) 1)==1))||((((E3 .and .u32 (shI .shr .u32 a.Plus x1) 1)==1)||((E3 .and .u32 (shI .shr .u32 a.Minus x1) 1)==1))&&(decide (24<=x1)))) then some false else b (wrap .i64 (x1+1)) else none else some true) 0
theorem MA {b:Eg}{y:Bool}(h:Y3 N b=some y) :FunO S Mx [.p (.agg (A1 b))] [] (pB y) ([]) []:=by
 unfold Y3 at h;refine A6 hS Tryz.func136 ?_;refine N4 hS Df h (fun x1=>⟨[(3,pN x1),(1,.reg 2000 0)],[(2000,.cells [pU b.Plus,pU b.Minus])]⟩) (ids:=[(2000,2000)]) (fun _ _ _ _ _ c x1 d h=>?_);apply kI hS h<;>intro h
 .obtain⟨c7,h⟩:=E8 h;refine kB hS (A5 hS) c7 Df 12 (.o (.n (.a ((E3 .and .u32 (shI .shr .u32 b.Plus x1) 1)==1)) (.a ((E3 .and .u32 (shI .shr .u32 b.Minus x1) 1)==1))) (.n (.o (.a ((E3 .and .u32 (shI .shr .u32 b.Plus x1) 1)==1)) (.a ((E3 .and .u32 (shI .shr .u32 b.Minus x1) 1)==1))) (.a (decide (24<=x1))))) ?_;apply kI hS h<;>intro h
  .cases h;exact kR hS
  exact d _ [(2000,2000)] _ (wrap .i64 (x1+1)) Df h
 cases h;exact kR hS
def Y4 (N:Nat)(a:Eg):Option Bool:= some ((((E3 .and .u32 a.Plus a.Minus)==0)&&(decide (a.Plus<16777216)))&&(decide (a.Minus<16777216)))
theorem UF {b:Eg}{y:Bool}(h:Y4 N b=some y) :FunO S My [.p (.agg (A1 b))] [] (pB y) ([]) []:=by unfold Y4 at h;refine A6 hS Tryz.func143 ?_;refine kB hS (A5 hS) Df Df 9 (.n (.n (.a ((E3 .and .u32 b.Plus b.Minus)==0)) (.a (decide (b.Plus<16777216)))) (.a (decide (b.Minus<16777216)))) ?_;cases h;exact kR hS
def Fb (N:Nat)(a:Pat):Option Int:= if ((decide (a.Kind<0))||(decide (6<a.Kind))) then some 2 else if ((a.Kind != 1)&&((((a.Is.Plus==0)&&(a.Is.Minus==0)) != true)||a.Not)) then some 2 else lt (fun (z1:Bool)=>if z1 then some 2 else if ((a.Kind != 5)&&((a.Min != 0)||(a.Max != 0))) then some 2 else lt (fun (z2:Bool)=>if z2 then some 2 else (Y4 N a.Is).bind fun y1=>if (!y1) then some 14 else some 0) fun k2=>if (a.Kind==5) then if ((a.L.n:Int) != 1) then k2 true else if (decide (a.Min<0)) then k2 true else if (decide (32<a.Min)) then k2 true else if (a.Max != (-1)) then if (decide (a.Max<a.Min)) then k2 true else k2 (decide (32<a.Max)) else k2 false else k2 false) fun k1=>if (a.Kind != 3) then if (a.Kind != 4) then if (a.Kind != 5) then k1 (decide (0<(a.L.n:Int))) else k1 false else k1 false else k1 false
theorem XO {c:Pat}{y:Int}(h:Fb N c=some y) :FunO S PD [.p (.agg (B7 c))] [] (pN y) ([]) []:=by
 unfold Fb at h;refine A6 hS Tryz.func173 ?_;refine kB hS (A5 hS) Df Df 4 (.o (.a (decide (c.Kind<0))) (.a (decide (6<c.Kind)))) ?_;apply kI hS h<;>intro h
 .cases h;exact kR hS
 obtain⟨t1,f⟩:∃x:Bool,x=((c.Kind != 1)&&((((c.Is.Plus==0)&&(c.Is.Minus==0)) != true)||c.Not)):=⟨_,rfl⟩;refine LH hS Df (A5 hS) 0 ⟨[(23,pB t1),(1,.reg 2000 0)],[(2000,.cells ((B7 c).map .p))]⟩ (fun M1 l=>?_) ?_
 .refine FG hS Df (b:=c.Kind != 1) (fun c4=>?_) (fun c4=>?_)
  .refine FG hS (by decide +kernel:Au2 Tryz.prog F1=true) (b:=((c.Is.Plus==0)&&(c.Is.Minus==0)) != true) (fun c5=>?_) (fun c5=>?_)
   .exact l _ [(2000,2000)] _ Df (hle:=klR [(0,.eq (.bb true) (.bb t1))] (al1 (by simp only[f,c4,c5,Leaf.ok,pm,Bq,Cj]) al0))
   exact l _ [(2000,2000)] _ Df (hle:=klR [(0,.eq (.bb c.Not) (.bb t1))] (al1 (by simp only[f,c4,c5,Leaf.ok,pm,Bq,Cj]) al0))
  exact l _ [(2000,2000)] _ Df (hle:=klR [(0,.eq (.bb false) (.bb t1))] (al1 (by simp only[f,c4,Leaf.ok,pm,Bq,Cj]) al0))
 subst f;apply kI hS h<;>intro h
 .cases h;exact kR hS
 refine Ef hS Df (A5 hS) h 0 (fun z1=>⟨[(42,pB z1),(1,.reg 2000 0)],[(2000,.cells ((B7 c).map .p))]⟩) (fun M2 k1 j h=>?_) (fun z1 h=>?_)
 .refine kG hS h (fun h=>?_) (fun h=>?_)
  .refine kG hS h (fun h=>?_) (fun h=>?_)
   .refine kG hS h (fun h=>?_) (fun h=>?_)
    .refine I7 hS Df 40 ⟨[(39,.p (vSl 7 B7 c.L)),(37,.p (.v (.bool true))),(1,.reg 2000 0)],[(2000,.cells ((B7 c).map .p))]⟩ (ids:=[(2000,2000)]) ?_ (hle:=klR [(0,.fn c.L.n c.L.n (BY c) (fun i=>B7 (c.L.g i)))] (al1 ⟨rfl,U8 c⟩ al0));exact j _ [(2000,2000)] _ (decide (0<(c.L.n:Int))) Df h
    exact j _ [(2000,2000)] _ false Df h
   exact j _ [(2000,2000)] _ false Df h
  exact j _ [(2000,2000)] _ false Df h
 apply kI hS h<;>intro h
 .cases h;exact kR hS
 refine kB hS (A5 hS) Df Df 9 (.n (.a (c.Kind != 5)) (.o (.a (c.Min != 0)) (.a (c.Max != 0)))) ?_;apply kI hS h<;>intro h
 .cases h;exact kR hS
 refine Ef hS Df (A5 hS) h 0 (fun z2=>⟨[(91,pB z2),(1,.reg 2000 0)],[(2000,.cells ((B7 c).map .p))]⟩) (fun M3 k2 d h=>?_) (fun z2 h=>?_)
 .refine kG hS h (fun h=>?_) (fun h=>?_)
  .refine I7 hS Df 62 ⟨[(61,.p (vSl 7 B7 c.L)),(59,.p (.v (.bool true))),(1,.reg 2000 0)],[(2000,.cells ((B7 c).map .p))]⟩ (ids:=[(2000,2000)]) ?_ (hle:=klR [(0,.fn c.L.n c.L.n (BY c) (fun i=>B7 (c.L.g i)))] (al1 ⟨rfl,U8 c⟩ al0));refine kG hS h (fun h=>?_) (fun h=>?_)
   .exact d _ [(2000,2000)] _ true Df h
   refine kG hS h (fun h=>?_) (fun h=>?_)
   .exact d _ [(2000,2000)] _ true Df h
   refine kG hS h (fun h=>?_) (fun h=>?_)
   .exact d _ [(2000,2000)] _ true Df h
   refine kG hS h (fun h=>?_) (fun h=>?_)
   .refine kG hS h (fun h=>?_) (fun h=>?_)
    .exact d _ [(2000,2000)] _ true Df h
    exact d _ [(2000,2000)] _ (decide (32<c.Max)) Df h
   exact d _ [(2000,2000)] _ false Df h
  exact d _ [(2000,2000)] _ false Df h
 apply kI hS h<;>intro h
 .cases h;exact kR hS
 refine kC hS h (UF hS hL) (fun y1 h=>?_);apply kI hS h<;>intro h
 .cases h;exact kR hS
 cases h;exact kR hS
end Go.AM
namespace Go.AM
variable {N:Nat}
open IntKind (wrap)
open Go.Proofs
set_option maxRecDepth 10000
set_option maxHeartbeats 2000000
variable {S:Q8}(hS:H1 S Tryz.prog) (hL:GL S)
include hS hL
def BG (rec:Pat->Int->Option Int)(N:Nat)(b:Pat)(a:Int):Option Int:= BC N (fun c (x1:Int) (x2:Int)=>if ((decide (x2<(b.L.n:Int)))&&(decide (x1<=40))) then if ((0:Int)<=x2/\x2<(b.L.n:Int))then (rec (b.L.g x2.toNat) x1).bind fun y3=>c y3 (wrap .i64 (x2+1)) else none else some x1) (wrap .i64 (a+1)) 0
def Bj:Nat->Pat->Int->Option Int
 |0=>fun _ _=>none
 |N+1=>BG (Bj N) N
theorem Sw {rec:Pat->Int->Option Int}(d:∀{b:Pat}{c:Int}{y:Int},rec b c=some y->FunO S FE [.p (.agg (B7 b)),pN c] [] (pN y) ([]) []){b:Pat}{c:Int}{y:Int}(h:BG rec N b c=some y) :FunO S FE [.p (.agg (B7 b)),pN c] [] (pN y) ([]) []:=by
 unfold BG at h;refine A6 hS Tryz.func104 ?_;refine I8 hS Df h (fun x1 x2=>⟨[(6,pN x2),(5,pN x1),(2,.reg 3000 0)],[(3000,.cells ((B7 b).map .p))]⟩) (ids:=[(3000,3000)]) (fun _ _ _ _ _ f x1 x2 j h=>?_);refine I7 hS Df 12 ⟨[(11,.p (vSl 7 B7 b.L)),(9,pN x2),(6,pN x2),(5,pN x1),(2,.reg 3000 0)],[(3000,.cells ((B7 b).map .p))]⟩ (ids:=[(3000,3000)]) ?_ (hle:=klR [(0,.fn b.L.n b.L.n (BY b) (fun i=>B7 (b.L.g i)))] (al1 ⟨rfl,U8 b⟩ al0));refine kB hS (A5 hS) Df Df 3 (.n (.a (decide (x2<(b.L.n:Int)))) (.a (decide (x1<=40)))) ?_;apply kI hS h<;>intro h
 .refine I7 hS Df 23 ⟨[(22,pN x2),(21,.p (vSl 7 B7 b.L)),(6,pN x2),(5,pN x1),(2,.reg 3000 0)],[(3000,.cells ((B7 b).map .p))]⟩ (ids:=[(3000,3000)]) ?_ (hle:=klR [(1,.fn b.L.n b.L.n (BY b) (fun i=>B7 (b.L.g i)))] (al1 ⟨rfl,U8 b⟩ al0));obtain⟨c6,h⟩:=E8 h;obtain⟨y3,e3,h⟩:=B8 h;refine C0 hS [] (And.intro c6 (by decide:(7:Nat)<=7)) (d e3) ?_;exact j _ [(3000,3000)] _ y3 (wrap .i64 (x2+1)) Df h
 cases h;exact kR hS
theorem UG {b:Pat}{a:Int}{y:Int}(h:Bj N b a=some y) :FunO S FE [.p (.agg (B7 b)),pN a] [] (pN y) ([]) []:=by
 induction N generalizing b a y with
 |zero=>cases (show (none:Option Int)=some y from h)
 |succ N ih=>exact Sw hS hL (fun e=>ih e) h
def Ah (N:Nat)(a:Pat):Option Int:= (Bj N a 0).bind fun y1=>some y1
theorem Fc {a:Pat}{y:Int}(h:Ah N a=some y) :FunO S Py [.p (.agg (B7 a))] [] (pN y) ([]) []:=by unfold Ah at h;refine A6 hS Tryz.func69 ?_;refine kC hS h (UG hS hL) (fun y1 h=>?_);cases h;exact kR hS
def Y5 (rec:Pat->Option Int)(N:Nat)(a:Pat):Option Int:= BC N (fun b (x1:Int) (x2:Int)=>if (decide (x2<(a.L.n:Int))) then if ((0:Int)<=x2/\x2<(a.L.n:Int))then (rec (a.L.g x2.toNat)).bind fun y3=>b (wrap .i64 (x1+y3)) (wrap .i64 (x2+1)) else none else some x1) (if (a.Kind==5) then 1 else 0) 0
def Ai:Nat->Pat->Option Int
 |0=>fun _=>none
 |N+1=>Y5 (Ai N) N
theorem OF {rec:Pat->Option Int}(d:∀{a:Pat}{y:Int},rec a=some y->FunO S Dg [.p (.agg (B7 a))] [] (pN y) ([]) []){a:Pat}{y:Int}(h:Y5 rec N a=some y) :FunO S Dg [.p (.agg (B7 a))] [] (pN y) ([]) []:=by
 unfold Y5 at h;refine A6 hS Tryz.func132 ?_;obtain⟨t1,c⟩:∃x:Int,x=(if (a.Kind==5) then 1 else 0):=⟨_,rfl⟩;refine LH hS Df (A5 hS) 0 ⟨[(3,pN t1),(1,.reg 2000 0)],[(2000,.cells ((B7 a).map .p))]⟩ (fun M1 f=>?_) ?_
 .refine D9 hS Df (b:=a.Kind==5) (fun c2=>?_) (fun c2=>?_)
  .exact f _ [(2000,2000)] _ Df (hle:=klR [(0,.eq (pI .i64 1) (pI .i64 t1))] (al1 (by simp only[c,c2,Leaf.ok,pm,Bq,Cj]) al0))
  exact f _ [(2000,2000)] _ Df (hle:=klR [(0,.eq (pI .i64 0) (pI .i64 t1))] (al1 (by simp only[c,c2,Leaf.ok,pm,Bq,Cj]) al0))
 subst c;refine I8 hS Df h (fun x1 x2=>⟨[(4,pN x2),(3,pN x1),(1,.reg 2000 0)],[(2000,.cells ((B7 a).map .p))]⟩) (ids:=[(2000,2000)]) (fun _ _ _ _ _ j x1 x2 l h=>?_);refine I7 hS Df 11 ⟨[(10,.p (vSl 7 B7 a.L)),(8,pN x2),(4,pN x2),(3,pN x1),(1,.reg 2000 0)],[(2000,.cells ((B7 a).map .p))]⟩ (ids:=[(2000,2000)]) ?_ (hle:=klR [(0,.fn a.L.n a.L.n (BY a) (fun i=>B7 (a.L.g i)))] (al1 ⟨rfl,U8 a⟩ al0));apply kI hS h<;>intro h
 .refine I7 hS Df 19 ⟨[(18,pN x2),(17,.p (vSl 7 B7 a.L)),(15,pN x1),(4,pN x2),(1,.reg 2000 0)],[(2000,.cells ((B7 a).map .p))]⟩ (ids:=[(2000,2000)]) ?_ (hle:=klR [(1,.fn a.L.n a.L.n (BY a) (fun i=>B7 (a.L.g i)))] (al1 ⟨rfl,U8 a⟩ al0));obtain⟨c8,h⟩:=E8 h;obtain⟨y3,e3,h⟩:=B8 h;refine C0 hS [] (And.intro c8 (by decide:(7:Nat)<=7)) (d e3) ?_;exact l _ [(2000,2000)] _ (wrap .i64 (x1+y3)) (wrap .i64 (x2+1)) Df h
 cases h;exact kR hS
theorem QD {a:Pat}{y:Int}(h:Ai N a=some y) :FunO S Dg [.p (.agg (B7 a))] [] (pN y) ([]) []:=by
 induction N generalizing a y with
 |zero=>cases (show (none:Option Int)=some y from h)
 |succ N ih=>exact OF hS hL (fun e=>ih e) h
def Ds (N:Nat)(a:Sl Law):Option Int:= BC N (fun c (x3:Int) (x4:Int)=>if ((decide (x4<(a.n:Int)))&&(decide (x4<=300))) then if (((0:Int)<=x4/\x4<(a.n:Int))/\((0:Int)<=x4/\x4<(a.n:Int)))then BC N (fun b (x7:Int) (x8:Int)=>if (decide (x8<((Sl.of [(a.g x4.toNat).Left,(a.g x4.toNat).Right]:Sl Pat).n:Int))) then if ((0:Int)<=x8/\x8<((Sl.of [(a.g x4.toNat).Left,(a.g x4.toNat).Right]:Sl Pat).n:Int))then (Ah N ((Sl.of [(a.g x4.toNat).Left,(a.g x4.toNat).Right]:Sl Pat).g x8.toNat)).bind fun d=>if (decide (d<=40)) then (Ai N ((Sl.of [(a.g x4.toNat).Left,(a.g x4.toNat).Right]:Sl Pat).g x8.toNat)).bind fun f=>b (wrap .i64 (x7+f)) (wrap .i64 (x8+1)) else b x7 (wrap .i64 (x8+1)) else none else c (if x3<x7 then x7 else x3) (wrap .i64 (x4+1))) 0 0 else none else some x3) 0 0
theorem XP {b:Sl Law}{y:Int}(h:Ds N b=some y) :FunO S Pz [.p (vSl 18 B5 b)] [] (pN y) ([]) []:=by
 unfold Ds at h;refine A6 hS Tryz.func100 ?_;refine I8 hS Df h (fun x3 x4=>⟨[(4,pN x4),(3,pN x3),(0,.p (vSl 18 B5 b))],[]⟩) (ids:=[]) (fun _ _ _ _ _ d x3 x4 f h=>?_);refine kB hS (A5 hS) Df Df 3 (.n (.a (decide (x4<(b.n:Int)))) (.a (decide (x4<=300)))) ?_;apply kI hS h<;>intro h
 .refine G9 hS Df [2,4,7,9] ?_;obtain⟨c24,h⟩:=E8 h;refine W9 (And.intro (And.intro (And.intro c24.1 (by decide:(7:Nat)<=17)) c24.2) (by decide:(7:Nat)<=10)) (x:=.sl true 7 2 (D3 [pI .i64 0,pI .u32 0,pI .u32 0,.v (.bool false),pI .i64 0,pI .i64 0,G1] [(0,B7 (b.g x4.toNat).Left),(1,B7 (b.g x4.toNat).Right)])) ?_;refine O0 Df ?_;refine I8 hS Df h (fun x7 x8=>⟨[(30,pN x8),(29,pN ((Sl.of [(b.g x4.toNat).Left,(b.g x4.toNat).Right]:Sl Pat).n:Int)),(28,.p (vSl 7 B7 (Sl.of [(b.g x4.toNat).Left,(b.g x4.toNat).Right]:Sl Pat))),(5,pN x7),(4,pN x4),(3,pN x3),(0,.p (vSl 18 B5 b))],[]⟩) (ids:=[]) (fun _ _ _ _ _ j x7 x8 c h=>?_) (hle:=klR [(2,.fn 2 (Sl.of [(b.g x4.toNat).Left,(b.g x4.toNat).Right]:Sl Pat).n (D3 [pI .i64 0,pI .u32 0,pI .u32 0,.v (.bool false),pI .i64 0,pI .i64 0,G1] [(0,B7 (b.g x4.toNat).Left),(1,B7 (b.g x4.toNat).Right)]) (fun i=>B7 ((Sl.of [(b.g x4.toNat).Left,(b.g x4.toNat).Right]:Sl Pat).g i)))] (al1 ⟨rfl,(fun i l=>match i,l with|0,_=>rfl|1,_=>rfl|_+2,l=>Bc l (by omega))⟩ al0));apply kI hS h<;>intro h
  .obtain⟨c32,h⟩:=E8 h;refine J3 hS (And.intro c32 (by decide:(7:Nat)<=7)) 34 8000 (B7 ((Sl.of [(b.g x4.toNat).Left,(b.g x4.toNat).Right]:Sl Pat).g x8.toNat)) ?_;obtain⟨o,e17,h⟩:=B8 h;refine C0 hS [] (by decide:(7:Nat)<=7) (Fc hS hL e17) ?_;apply kI hS h<;>intro h
   .obtain⟨m,e18,h⟩:=B8 h;refine C0 hS [] (by decide:(7:Nat)<=7) (QD hS hL e18) ?_;exact c _ [] _ (wrap .i64 (x7+m)) (wrap .i64 (x8+1)) Df h
   exact c _ [] _ x7 (wrap .i64 (x8+1)) Df h
  exact f _ [] _ (if x3<x7 then x7 else x3) (wrap .i64 (x4+1)) Df h
 cases h;exact kR hS
def Y6 (rec:Pat->Int->Option (Int×Int))(N:Nat)(b:Pat)(a:Int):Option (Int×Int):= if (a==40) then some (a,12) else (Fb N b).bind fun y1=>if (y1 != 0) then some (a,y1) else BC N (fun c (x1:Int) (x2:Int)=>if (decide (x2<(b.L.n:Int))) then if ((0:Int)<=x2/\x2<(b.L.n:Int))then (rec (b.L.g x2.toNat) x1).bind fun y4=>if (y4.2 != 0) then some (y4.1,y4.2) else c y4.1 (wrap .i64 (x2+1)) else none else some (x1,0)) (wrap .i64 (a+1)) 0
def Dt:Nat->Pat->Int->Option (Int×Int)
 |0=>fun _ _=>none
 |N+1=>Y6 (Dt N) N
theorem UH {rec:Pat->Int->Option (Int×Int)}(c:∀{a:Pat}{b:Int}{y:Int×Int},rec a b=some y->FunO S HO [.p (.agg (B7 a)),pN b] [] (.tup [pN y.1,pN y.2]) ([]) []){a:Pat}{b:Int}{y:Int×Int}(h:Y6 rec N a b=some y) :FunO S HO [.p (.agg (B7 a)),pN b] [] (.tup [pN y.1,pN y.2]) ([]) []:=by
 unfold Y6 at h;refine A6 hS Tryz.func157 ?_;apply kI hS h<;>intro h
 .cases h;exact kR hS
 refine kC hS h (XO hS hL) (fun y1 h=>?_);apply kI hS h<;>intro h
 .cases h;exact kR hS
 refine I8 hS Df h (fun x1 x2=>⟨[(8,pN x2),(7,pN x1),(2,.reg 3000 0)],[(3000,.cells ((B7 a).map .p))]⟩) (ids:=[(3000,3000)]) (fun _ _ _ _ _ d x1 x2 f h=>?_);refine I7 hS Df 23 ⟨[(22,.p (vSl 7 B7 a.L)),(20,pN x2),(8,pN x2),(7,pN x1),(2,.reg 3000 0)],[(3000,.cells ((B7 a).map .p))]⟩ (ids:=[(3000,3000)]) ?_ (hle:=klR [(0,.fn a.L.n a.L.n (BY a) (fun i=>B7 (a.L.g i)))] (al1 ⟨rfl,U8 a⟩ al0));apply kI hS h<;>intro h
 .refine I7 hS Df 31 ⟨[(30,pN x2),(29,.p (vSl 7 B7 a.L)),(8,pN x2),(7,pN x1),(2,.reg 3000 0)],[(3000,.cells ((B7 a).map .p))]⟩ (ids:=[(3000,3000)]) ?_ (hle:=klR [(1,.fn a.L.n a.L.n (BY a) (fun i=>B7 (a.L.g i)))] (al1 ⟨rfl,U8 a⟩ al0));obtain⟨c10,h⟩:=E8 h;obtain⟨y4,e4,h⟩:=B8 h;refine C0 hS [] (And.intro c10 (by decide:(7:Nat)<=7)) (c e4) ?_;apply kI hS h<;>intro h
  .cases h;exact kR hS
  exact f _ [(3000,3000)] _ y4.1 (wrap .i64 (x2+1)) Df h
 cases h;exact kR hS
theorem XQ {b:Pat}{a:Int}{y:Int×Int}(h:Dt N b a=some y) :FunO S HO [.p (.agg (B7 b)),pN a] [] (.tup [pN y.1,pN y.2]) ([]) []:=by
 induction N generalizing b a y with
 |zero=>cases (show (none:Option (Int×Int))=some y from h)
 |succ N ih=>exact UH hS hL (fun e=>ih e) h
def BZ (N:Nat)(a:Pat):Option Int:= (Dt N a 0).bind fun y1=>some y1.2
theorem MB {a:Pat}{y:Int}(h:BZ N a=some y) :FunO S Mw [.p (.agg (B7 a))] [] (pN y) ([]) []:=by unfold BZ at h;refine A6 hS Tryz.func135 ?_;refine kC hS h (XQ hS hL) (fun y1 h=>?_);cases h;exact kR hS
theorem XR {b:Str}{y:Bool}(h:Ca N b=some y) :FunO S PB [.p (.str b)] [] (pB y) ([]) []:=by
 unfold Ca at h;refine A6 hS Tryz.func134 ?_;refine N4 hS Df h (fun x1=>⟨[(3,pN x1),(0,.p (.str b))],[]⟩) (ids:=[]) (fun _ _ _ _ _ c x1 d h=>?_);apply kI hS h<;>intro h
 .obtain⟨c8,h⟩:=E8 h;refine kB hS (A5 hS) c8 Df 23 (.o (.o (.o (.n (.a (decide (97<=(AE b x1)))) (.a (decide ((AE b x1)<=122)))) (.n (.a (decide (65<=(AE b x1)))) (.a (decide ((AE b x1)<=90))))) (.n (.a (decide (48<=(AE b x1)))) (.a (decide ((AE b x1)<=57))))) (.a ((AE b x1)==45))) ?_;apply kI hS h<;>intro h
  .cases h;exact kR hS
  exact d _ [] _ (wrap .i64 (x1+1)) Df h
 refine kB hS (A5 hS) Df Df 4 (.n (.a (decide (1<=(b.length:Int)))) (.a (decide ((b.length:Int)<=24)))) ?_;cases h;exact kR hS
def Fd (N:Nat)(p_x:BD)(a:Int):Option Bool:= lt (fun (z1:Bool)=>if z1 then some false else if ((((E3 .and .u32 p_x.Clear (E3 .or .u32 p_x.Set.Plus p_x.Set.Minus)) != 0)||((E3 .and .u32 p_x.Take (E3 .or .u32 p_x.Set.Plus p_x.Set.Minus)) != 0))||((E3 .and .u32 p_x.Take p_x.Clear) != 0)) then some false else if (p_x.Take==0) then some (p_x.Of==0) else some ((decide (0<=p_x.Of))&&(decide (p_x.Of<a)))) fun k1=>if (decide (p_x.From<(-1))) then k1 true else if (decide (a<=p_x.From)) then k1 true else (Y3 N p_x.Set).bind fun y2=>if (!y2) then k1 true else if ((E3 .andNot .u32 p_x.Clear 16777215) != 0) then k1 true else k1 ((E3 .andNot .u32 p_x.Take 16777215) != 0)
theorem XS {p_x:BD}{c:Int}{y:Bool}(h:Fd N p_x c=some y) :FunO S PC [.p (.agg (S4 p_x)),pN c] [] (pB y) ([]) []:=by
 unfold Fd at h;refine A6 hS Tryz.func137 ?_;refine Ef hS Df (A5 hS) h 0 (fun z1=>⟨[(32,pB z1),(2,.reg 3000 0),(1,pN c)],[(3000,.cells ((S4 p_x).map .p))]⟩) (fun M1 k1 b h=>?_) (fun z1 h=>?_)
 .refine kG hS h (fun h=>?_) (fun h=>?_)
  .exact b _ [(3000,3000)] _ true Df h
  refine kG hS h (fun h=>?_) (fun h=>?_)
  .exact b _ [(3000,3000)] _ true Df h
  refine kC hS h (MA hS hL) (fun y2 h=>?_);refine kG hS h (fun h=>?_) (fun h=>?_)
  .exact b _ [(3000,3000)] _ true Df h
  refine kG hS h (fun h=>?_) (fun h=>?_)
  .exact b _ [(3000,3000)] _ true Df h
  exact b _ [(3000,3000)] _ ((E3 .andNot .u32 p_x.Take 16777215) != 0) Df h
 apply kI hS h<;>intro h
 .cases h;exact kR hS
 refine kB hS (A5 hS) Df Df 14 (.o (.o (.a ((E3 .and .u32 p_x.Clear (E3 .or .u32 p_x.Set.Plus p_x.Set.Minus)) != 0)) (.a ((E3 .and .u32 p_x.Take (E3 .or .u32 p_x.Set.Plus p_x.Set.Minus)) != 0))) (.a ((E3 .and .u32 p_x.Take p_x.Clear) != 0))) ?_;apply kI hS h<;>intro h
 .cases h;exact kR hS
 apply kI hS h<;>intro h
 .cases h;exact kR hS
 refine kB hS (A5 hS) Df Df 5 (.n (.a (decide (0<=p_x.Of))) (.a (decide (p_x.Of<c)))) ?_;cases h;exact kR hS
def Cb (N:Nat)(a:Law):Option Int:= (Ca N a.Name).bind fun y1=>lt (fun (z1:Bool)=>if z1 then some 17 else if (((((decide (4<(a.If.n:Int)))||(decide (6<(a.Out.n:Int))))||((wrap .i64 ((a.If.n:Int)+(a.Out.n:Int)))==0))||(decide (a.Mode<1)))||(decide (3<a.Mode))) then some 17 else Y1 N (fun b (x2:Int)=>if (decide (x2<(a.If.n:Int))) then if ((0:Int)<=x2/\x2<(a.If.n:Int))then (Y3 N (a.If.g x2.toNat)).bind fun y8=>if (!y8) then some 17 else b (wrap .i64 (x2+1)) else none else Y1 N (fun c (x3:Int)=>if (decide (x3<(a.Out.n:Int))) then if ((0:Int)<=x3/\x3<(a.Out.n:Int))then (Fd N (a.Out.g x3.toNat) (a.If.n:Int)).bind fun d=>if (!d) then some 17 else c (wrap .i64 (x3+1)) else none else some 0) 0) 0) fun k1=>if (!y1) then k1 true else (BZ N a.Left).bind fun y4=>if (y4 != 0) then k1 true else (BZ N a.Right).bind fun y5=>k1 (y5 != 0)
theorem UI {b:Law}{y:Int}(h:Cb N b=some y) :FunO S Mv [.p (.agg (B5 b))] [] (pN y) ([]) []:=by
 unfold Cb at h;refine A6 hS Tryz.func102 ?_;refine J3 hS Df 2 2000 (B5 b) ?_;refine kC hS h (XR hS hL) (fun y1 h=>?_);refine Ef hS Df (A5 hS) h 0 (fun z1=>⟨[(20,pB z1),(1,.p (.ptr (B5 b)))],[]⟩) (fun M1 k1 c h=>?_) (fun z1 h=>?_)
 .refine kG hS h (fun h=>?_) (fun h=>?_)
  .exact c _ [] _ true Df h
  obtain⟨y4,e4,h⟩:=B8 h;refine C0 hS [] (by decide:(7:Nat)<=17) (MB hS hL e4) ?_;refine kG hS h (fun h=>?_) (fun h=>?_)
  .exact c _ [] _ true Df h
  obtain⟨y5,e5,h⟩:=B8 h;refine C0 hS [] (by decide:(7:Nat)<=10) (MB hS hL e5) ?_;exact c _ [] _ (y5 != 0) Df h
 apply kI hS h<;>intro h
 .cases h;exact kR hS
 refine kB hS (A5 hS) Df Df 25 (.o (.o (.o (.o (.a (decide (4<(b.If.n:Int)))) (.a (decide (6<(b.Out.n:Int))))) (.a ((wrap .i64 ((b.If.n:Int)+(b.Out.n:Int)))==0))) (.a (decide (b.Mode<1)))) (.a (decide (3<b.Mode)))) ?_;apply kI hS h<;>intro h
 .cases h;exact kR hS
 refine N4 hS Df h (fun x2=>⟨[(3,pN x2),(1,.p (.ptr (B5 b)))],[]⟩) (ids:=[]) (fun _ _ _ _ _ d x2 f h=>?_);apply kI hS h<;>intro h
 .obtain⟨c15,h⟩:=E8 h;obtain⟨y8,e8,h⟩:=B8 h;refine C0 hS [] (And.intro c15 (by decide:(2:Nat)<=2)) (MA hS hL e8) ?_;apply kI hS h<;>intro h
  .cases h;exact kR hS
  exact f _ [] _ (wrap .i64 (x2+1)) Df h
 refine N4 hS Df h (fun x3=>⟨[(4,pN x3),(1,.p (.ptr (B5 b)))],[]⟩) (ids:=[]) (fun _ _ _ _ _ g x3 i h=>?_);apply kI hS h<;>intro h
 .refine G9 hS Df [1,3,4,6,8] ?_;obtain⟨c24,h⟩:=E8 h;obtain⟨j,e11,h⟩:=B8 h;refine V7 (And.intro c24 (by decide:(6:Nat)<=6)) (XS hS hL e11) ?_;refine O0 Df ?_;apply kI hS h<;>intro h
  .cases h;exact kR hS
  exact i _ [] _ (wrap .i64 (x3+1)) Df h
 cases h;exact kR hS
end Go.AM
namespace Go.AM
variable {N:Nat}
open IntKind (wrap)
open Go.Proofs
set_option maxRecDepth 10000
set_option maxHeartbeats 2000000
variable {S:Q8}(hS:H1 S Tryz.prog) (hL:GL S)
include hS hL
def GV (N:Nat)(a:Int):Option Bool:= some (((((decide (97<=a))&&(decide (a<=122)))||((decide (65<=a))&&(decide (a<=90))))||((decide (48<=a))&&(decide (a<=57))))||(a==45))
theorem Sx {b:Int}{y:Bool}(h:GV N b=some y) :FunO S KS [.p (pI .u8 b)] [] (pB y) ([]) []:=by unfold GV at h;refine A6 hS Tryz.func156 ?_;refine kB hS (A5 hS) Df Df 23 (.o (.o (.o (.n (.a (decide (97<=b))) (.a (decide (b<=122)))) (.n (.a (decide (65<=b))) (.a (decide (b<=90))))) (.n (.a (decide (48<=b))) (.a (decide (b<=57))))) (.a (b==45))) ?_;cases h;exact kR hS
def Du (N:Nat)(a:Str):Option Bool:= Y1 N (fun b (x1:Int)=>if (decide (x1<(a.length:Int))) then if ((0:Int)<=x1/\x1<(a.length:Int))then (GV N (AE a x1)).bind fun y3=>if (!y3) then some false else b (wrap .i64 (x1+1)) else none else some ((decide (1<=(a.length:Int)))&&(decide ((a.length:Int)<=24)))) 0
theorem PE {b:Str}{y:Bool}(h:Du N b=some y) :FunO S PA [.p (.str b)] [] (pB y) ([]) []:=by
 unfold Du at h;refine A6 hS Tryz.func133 ?_;refine N4 hS Df h (fun x1=>⟨[(3,pN x1),(0,.p (.str b))],[]⟩) (ids:=[]) (fun _ _ _ _ _ c x1 d h=>?_);apply kI hS h<;>intro h
 .obtain⟨c8,h⟩:=E8 h;obtain⟨y3,e3,h⟩:=B8 h;refine C0 hS [] c8 (Sx hS hL e3) ?_;apply kI hS h<;>intro h
  .cases h;exact kR hS
  exact d _ [] _ (wrap .i64 (x1+1)) Df h
 refine kB hS (A5 hS) Df Df 4 (.n (.a (decide (1<=(b.length:Int)))) (.a (decide ((b.length:Int)<=24)))) ?_;cases h;exact kR hS
def Bk (N:Nat)(a:Sl F5):Option Int:= if ((decide ((a.n:Int)<1))=false->((decide (63<(a.n:Int)))=false->((0:Int)<=0/\0<(a.n:Int))))then if (((decide ((a.n:Int)<1))||(decide (63<(a.n:Int))))||((a.g 0).Parent != (-1))) then some 16 else Y1 N (fun b (x3:Int)=>if (decide (x3<(a.n:Int))) then lt (fun (z3:Bool)=>if z3 then some 16 else Y1 N (fun c (x7:Int)=>if (decide (x7<x3)) then if (((0:Int)<=x7/\x7<(a.n:Int))/\((0:Int)<=x3/\x3<(a.n:Int)))then if (((a.g x7.toNat).Name==(a.g x3.toNat).Name) != false) then some 16 else c (wrap .i64 (x7+1)) else none else b (wrap .i64 (x3+1))) 0) fun k3=>if (decide (0<x3)) then if ((0:Int)<=x3/\x3<(a.n:Int))then if (decide ((a.g x3.toNat).Parent<0)) then k3 true else if ((0:Int)<=x3/\x3<(a.n:Int))then if (decide (x3<=(a.g x3.toNat).Parent)) then k3 true else if ((0:Int)<=x3/\x3<(a.n:Int))then (Du N (a.g x3.toNat).Name).bind fun d=>k3 (!d) else none else none else none else if ((0:Int)<=x3/\x3<(a.n:Int))then (Du N (a.g x3.toNat).Name).bind fun f=>k3 (!f) else none else some 0) 0 else none
theorem UJ {c:Sl F5}{y:Int}(h:Bk N c=some y) :FunO S Mu [.p (vSl 2 D6 c)] [] (pN y) ([]) []:=by
 unfold Bk at h;refine A6 hS Tryz.func101 ?_;obtain⟨c1,h⟩:=E8 h;refine kB hS (A5 hS) Df c1 11 (.o (.o (.a (decide ((c.n:Int)<1))) (.a (decide (63<(c.n:Int))))) (.a ((c.g 0).Parent != (-1)))) ?_;apply kI hS h<;>intro h
 .cases h;exact kR hS
 refine N4 hS Df h (fun x3=>⟨[(3,pN x3),(0,.p (vSl 2 D6 c))],[]⟩) (ids:=[]) (fun _ _ _ _ _ f x3 i h=>?_);apply kI hS h<;>intro h
 .refine Ef hS Df (A5 hS) h 0 (fun z3=>⟨[(53,pB z3),(3,pN x3),(0,.p (vSl 2 D6 c))],[]⟩) (fun M3 k3 d h=>?_) (fun z3 h=>?_)
  .refine kG hS h (fun h=>?_) (fun h=>?_)
   .obtain⟨c71,h⟩:=E8 h;refine FG hS c71 (b:=decide ((c.g x3.toNat).Parent<0)) (fun c72=>?_) (fun c72=>?_)
    .replace h:=itT c72 h;exact d _ [] _ true Df h
    replace h:=itF c72 h;obtain⟨c73,h⟩:=E8 h;refine FG hS c73 (b:=decide (x3<=(c.g x3.toNat).Parent)) (fun c74=>?_) (fun c74=>?_)
    .replace h:=itT c74 h;exact d _ [] _ true Df h
    replace h:=itF c74 h;obtain⟨c75,h⟩:=E8 h;obtain⟨j,e11,h⟩:=B8 h;refine C0 hS [] c75 (PE hS hL e11) ?_;exact d _ [] _ (!j) Df h
   obtain⟨c76,h⟩:=E8 h;obtain⟨l,e12,h⟩:=B8 h;refine C0 hS [] c76 (PE hS hL e12) ?_;exact d _ [] _ (!l) Df h
  apply kI hS h<;>intro h
  .cases h;exact kR hS
  refine N4 hS Df h (fun x7=>⟨[(4,pN x7),(3,pN x3),(0,.p (vSl 2 D6 c))],[]⟩) (ids:=[]) (fun _ _ _ _ _ m x7 q h=>?_);apply kI hS h<;>intro h
  .refine G9 hS Df [2,4,7,9] ?_;obtain⟨c85,h⟩:=E8 h;refine O0 c85 ?_;apply kI hS h<;>intro h
   .cases h;exact kR hS
   exact q _ [] _ (wrap .i64 (x7+1)) Df h
  exact i _ [] _ (wrap .i64 (x3+1)) Df h
 cases h;exact kR hS
theorem UK {rec:A9->Int->Option (Sl Int)}(d:∀{a:A9}{b:Int}{y:Sl Int},rec a b=some y->FunO S HN [.p (.agg (B1 a)),pN b] [] (.vec 0) ([.vec D4 1 y.n (fun i=>cI .i64 (y.g i)) true]) []){a:A9}{b:Int}{y:Sl Int}(h:Y7 rec N a b=some y) :FunO S HN [.p (.agg (B1 a)),pN b] [] (.vec 0) ([.vec D4 1 y.n (fun i=>cI .i64 (y.g i)) true]) []:=by
 unfold Y7 at h;refine A6 hS Tryz.func103 ?_;refine J3 hS Df 4 3000 (B1 a) ?_;apply kI hS h<;>intro h
 .obtain rfl:=C7 h;exact B3 hS Df ⟨[(4,.vec 5700)],[(5700,.vec D4 1 (Sl.nil:Sl Int).n (fun i=>cI .i64 ((Sl.nil:Sl Int).g i)) true)]⟩ [5700] (ids:=[]) ⟨rfl,rfl,rfl⟩
 refine G9 hS Df [0,2,4,6,9,11,12] ?_;obtain⟨c2,h⟩:=E8 h;obtain⟨y1,e1,h⟩:=B8 h;refine Sy [] (And.intro (by decide:(3:Nat)<=3) c2) (d e1) ?_;obtain⟨c3,h⟩:=E8 h;refine O0 c3 ?_;obtain rfl:=C7 h;exact B3 hS Df ⟨[(4,.vec 21000)],[(21000,.vec D4 1 (y1.app (a.On.g b.toNat)).n (fun i=>cI .i64 ((y1.app (a.On.g b.toNat)).g i)) true)]⟩ [21000] (ids:=[(21000,21000)]) ⟨rfl,rfl,rfl⟩ (hle:=klR [(0,.fn (y1.n+(a.On.g b.toNat).n) (y1.app (a.On.g b.toNat)).n (AP y1.n (fun i=>cI .i64 (y1.g i)) (fun i=>cI .i64 ((a.On.g b.toNat).g i))) (fun i=>cI .i64 ((y1.app (a.On.g b.toNat)).g i)))] (al1 ⟨rfl,Au3 (c:=cI .i64) (v:=y1) (w:=a.On.g b.toNat) same rfl same rfl⟩ al0))
theorem XT {a:A9}{b:Int}{y:Sl Int}(h:Bu N a b=some y) :FunO S HN [.p (.agg (B1 a)),pN b] [] (.vec 0) ([.vec D4 1 y.n (fun i=>cI .i64 (y.g i)) true]) []:=by
 induction N generalizing a b y with
 |zero=>cases (show (none:Option (Sl Int))=some y from h)
 |succ N ih=>exact UK hS hL (fun e=>ih e) h
def Bl (N:Nat)(a:A9):Option Int:= (Bk N a.Tree).bind fun y1=>if (y1 != 0) then some 16 else if (decide (64<(a.Laws.n:Int))) then some 12 else Y1 N (fun d (x1:Int)=>if (decide (x1<(a.Laws.n:Int))) then if ((0:Int)<=x1/\x1<(a.Laws.n:Int))then (Cb N (a.Laws.g x1.toNat)).bind fun y4=>if (y4 != 0) then some 17 else d (wrap .i64 (x1+1)) else none else Y1 N (fun f (x3:Int)=>if (decide (x3<(a.Laws.n:Int))) then Y1 N (fun i (x5:Int)=>if (decide (x5<x3)) then if (((0:Int)<=x3/\x3<(a.Laws.n:Int))/\((0:Int)<=x5/\x5<(a.Laws.n:Int)))then if (((a.Laws.g x3.toNat).Name==(a.Laws.g x5.toNat).Name) != false) then some 6 else i (wrap .i64 (x5+1)) else none else f (wrap .i64 (x3+1))) 0 else if ((a.On.n:Int) != (a.Tree.n:Int)) then some 2 else Y1 N (fun j (x6:Int)=>if (decide (x6<(a.On.n:Int))) then (Bu N a x6).bind fun y7=>if (decide (64<(y7.n:Int))) then some 2 else j (wrap .i64 (x6+1)) else Y1 N (fun l (x8:Int)=>if (decide (x8<(a.On.n:Int))) then Y1 N (fun c (b:Int)=>if ((0:Int)<=x8/\x8<(a.On.n:Int))then if (decide (b<((a.On.g x8.toNat).n:Int))) then if (((0:Int)<=x8/\x8<(a.On.n:Int))/\((0:Int)<=b/\b<((a.On.g x8.toNat).n:Int)))then if (decide (((a.On.g x8.toNat).g b.toNat)<0)) then some 3 else if (((0:Int)<=x8/\x8<(a.On.n:Int))/\((0:Int)<=b/\b<((a.On.g x8.toNat).n:Int)))then if (decide ((a.Laws.n:Int)<=((a.On.g x8.toNat).g b.toNat))) then some 3 else c (wrap .i64 (b+1)) else none else none else l (wrap .i64 (x8+1)) else none) 0 else some 0) 0) 0) 0) 0
theorem UL {a:A9}{y:Int}(h:Bl N a=some y) :FunO S Ms [.p (.agg (B1 a))] [] (pN y) ([]) []:=by
 unfold Bl at h;refine A6 hS Tryz.func68 ?_;refine J3 hS Df 2 2000 (B1 a) ?_;refine kC hS h (UJ hS hL) (fun y1 h=>?_);apply kI hS h<;>intro h
 .cases h;exact kR hS
 apply kI hS h<;>intro h
 .cases h;exact kR hS
 refine N4 hS Df h (fun x1=>⟨[(3,pN x1),(1,.p (.ptr (B1 a)))],[]⟩) (ids:=[]) (fun _ _ _ _ _ i x1 j h=>?_);apply kI hS h<;>intro h
 .obtain⟨c10,h⟩:=E8 h;obtain⟨y4,e4,h⟩:=B8 h;refine C0 hS [] (And.intro c10 (by decide:(18:Nat)<=18)) (UI hS hL e4) ?_;apply kI hS h<;>intro h
  .cases h;exact kR hS
  exact j _ [] _ (wrap .i64 (x1+1)) Df h
 refine N4 hS Df h (fun x3=>⟨[(4,pN x3),(1,.p (.ptr (B1 a)))],[]⟩) (ids:=[]) (fun _ _ _ _ _ l x3 m h=>?_);apply kI hS h<;>intro h
 .refine N4 hS Df h (fun x5=>⟨[(5,pN x5),(4,pN x3),(1,.p (.ptr (B1 a)))],[]⟩) (ids:=[]) (fun _ _ _ _ _ o x5 q h=>?_);apply kI hS h<;>intro h
  .refine G9 hS Df [1,3,5,7,9,11] ?_;obtain⟨c40,h⟩:=E8 h;refine O0 c40 ?_;apply kI hS h<;>intro h
   .cases h;exact kR hS
   exact q _ [] _ (wrap .i64 (x5+1)) Df h
  exact m _ [] _ (wrap .i64 (x3+1)) Df h
 apply kI hS h<;>intro h
 .cases h;exact kR hS
 refine N4 hS Df h (fun x6=>⟨[(6,pN x6),(1,.p (.ptr (B1 a)))],[]⟩) (ids:=[]) (fun _ _ _ _ _ r x6 s h=>?_);apply kI hS h<;>intro h
 .obtain⟨y7,e7,h⟩:=B8 h;refine C0 hS [] (by decide:(3:Nat)<=3) (XT hS hL e7) ?_;apply kI hS h<;>intro h
  .cases h;exact kR hS
  exact s _ [] _ (wrap .i64 (x6+1)) Df h
 refine N4 hS Df h (fun x8=>⟨[(7,pN x8),(1,.p (.ptr (B1 a)))],[]⟩) (ids:=[]) (fun _ _ _ _ _ t x8 u h=>?_);apply kI hS h<;>intro h
 .refine N4 hS Df h (fun c=>⟨[(8,pN c),(7,pN x8),(1,.p (.ptr (B1 a)))],[]⟩) (ids:=[]) (fun _ _ _ _ _ f c d h=>?_);obtain⟨c100,h⟩:=E8 h;refine D9 hS c100 (b:=decide (c<((a.On.g x8.toNat).n:Int))) (fun c101=>?_) (fun c101=>?_)
  .replace h:=itT c101 h;refine G9 hS Df [1,3,4,6,7,11,13,14,16,17,19] ?_;obtain⟨c102,h⟩:=E8 h;refine At9 c102 (b:=decide (((a.On.g x8.toNat).g c.toNat)<0)) (fun c103=>?_) (fun c103=>?_)
   .replace h:=itT c103 h;refine O0 Df ?_;cases h;exact kR hS
   replace h:=itF c103 h;obtain⟨c104,h⟩:=E8 h;refine O0 c104 ?_;apply kI hS h<;>intro h
   .cases h;exact kR hS
   exact d _ [] _ (wrap .i64 (c+1)) Df h
  replace h:=itF c101 h;exact u _ [] _ (wrap .i64 (x8+1)) Df h
 cases h;exact kR hS
def PF (N:Nat)(b:A9)(a:Int):Option Bool:= some ((decide (0<=a))&&(decide (a<(b.Tree.n:Int))))
def Ki (N:Nat)(a:A9)(b:Int):Option ((Sl Int)×Int):= (Bl N a).bind fun y1=>if (y1 != 0) then some ((Sl.nil:Sl Int),y1) else (PF N a b).bind fun y2=>if (!y2) then some ((Sl.nil:Sl Int),3) else (Bu N a b).bind fun y3=>some (y3,0)
end Go.AM
namespace Go.AM
open IntKind (wrap)
open Go.Proofs
set_option maxRecDepth 10000
set_option maxHeartbeats 2000000
variable {S:Q8}(hS:H1 S Tryz.prog) (hL:GL S)
include hS hL
def EB (N:Nat)(b:Sl F5)(c:Int):Option (Sl Int):= BC N (fun a (x1:Sl Int) (x2:Int)=>if (decide (x2<(b.n:Int))) then if ((0:Int)<=x2/\x2<(b.n:Int))then if ((b.g x2.toNat).Parent==c) then if ((x1.n+(Sl.of [x2]:Sl Int).n)*8<=140737488355328/\x1.n+(Sl.of [x2]:Sl Int).n<=140737488355328)then a (x1.push x2) (wrap .i64 (x2+1)) else none else a x1 (wrap .i64 (x2+1)) else none else some x1) (Sl.nil:Sl Int) 0
def KT (N:Nat)(b:Sl F5):Option ((Sl Int)×Int):= (Bk N b).bind fun y1=>if (y1 != 0) then some ((Sl.nil:Sl Int),y1) else BC N (fun a (x1:Sl Int) (x2:Int)=>if (decide (x2<(b.n:Int))) then (EB N b x2).bind fun y4=>if ((y4.n:Int)==0) then if ((x1.n+(Sl.of [x2]:Sl Int).n)*8<=140737488355328/\x1.n+(Sl.of [x2]:Sl Int).n<=140737488355328)then a (x1.push x2) (wrap .i64 (x2+1)) else none else a x1 (wrap .i64 (x2+1)) else some (x1,0)) (Sl.nil:Sl Int) 0
end Go.AM
namespace Go.AM
open IntKind (wrap)
open Go.Proofs
set_option maxRecDepth 10000
set_option maxHeartbeats 2000000
variable {S:Q8}(hS:H1 S Tryz.prog) (hL:GL S)
include hS hL
def P7 (N:Nat)(a:Int):Option A9:= Ag7 N (fun b (x1:Sl F5) (x2:Sl (Sl Int)) (x3:Int)=>if (decide (x3<a)) then if ((x1.n+(Sl.of [(⟨0,[UInt8.ofNat (wrap .u8 (97+(wrap .u8 (wrap .i64 (x3.tdiv 20))))).toNat,UInt8.ofNat (wrap .u8 (97+(wrap .u8 (x3.tmod 20)))).toNat]⟩:F5)]:Sl F5).n)*24<=140737488355328/\x1.n+(Sl.of [(⟨0,[UInt8.ofNat (wrap .u8 (97+(wrap .u8 (wrap .i64 (x3.tdiv 20))))).toNat,UInt8.ofNat (wrap .u8 (97+(wrap .u8 (x3.tmod 20)))).toNat]⟩:F5)]:Sl F5).n<=140737488355328)then if ((x2.n+(Sl.of [(Sl.nil:Sl Int)]:Sl (Sl Int)).n)*24<=140737488355328/\x2.n+(Sl.of [(Sl.nil:Sl Int)]:Sl (Sl Int)).n<=140737488355328)then b (x1.push (⟨0,[UInt8.ofNat (wrap .u8 (97+(wrap .u8 (wrap .i64 (x3.tdiv 20))))).toNat,UInt8.ofNat (wrap .u8 (97+(wrap .u8 (x3.tmod 20)))).toNat]⟩:F5)) (x2.app (Sl.of [(Sl.nil:Sl Int)]:Sl (Sl Int))) (wrap .i64 (x3+1)) else none else none else some (⟨x1,(Sl.nil:Sl Law),x2⟩:A9)) (Sl.of [(⟨-1,[114]⟩:F5)]:Sl F5) (Sl.of [(Sl.nil:Sl Int)]:Sl (Sl Int)) 0
theorem BH {N:Nat}{a:Int}{y:A9}(h:P7 N a=some y) :FunO S BF [pN a] [] (.p (.agg (B1 y))) ([]) []:=by
 unfold P7 at h;refine A6 hS Tryz.func48 ?_;refine MC hS (And.intro (rfl:true=true) (rfl:true=true)) 8 8000 (k:=1) (n:=1) (e:=X5) (vw:=false) (D3 [G1] [(0,[G1])]) (fun i=>cL 1 (cI .i64) ((Sl.of [(Sl.nil:Sl Int)]:Sl (Sl Int)).g i)) (fun i b=>match i,b with|0,_=>Ah0|_+1,b=>Bc b (by omega)) ?_;refine KU hS Df h (fun x1 x2 x3=>⟨[(10,pN x3),(9,pN a),(3,.reg 4000 0),(2,.reg 3000 0)],[(4501,.vec X5 1 x2.n (fun i=>cL 1 (cI .i64) (x2.g i)) false),(4500,.vec Aj 2 x1.n (fun i=>D6 (x1.g i)) false),(4000,.cells [.vec 4500,.p G1,.vec 4501]),(3000,.cells [.p G1,.p G1,.p G1])]⟩) (ids:=[(3000,3000),(4000,4000),(4500,7000),(4501,8000)]) (fun _ _ _ _ _ d x1 x2 x3 f h=>?_) (hle:=klR [(3,.fn 1 (Sl.of [(⟨-1,[114]⟩:F5)]:Sl F5).n (D3 [pI .i64 0,.str []] [(0,D6 (⟨-1,[114]⟩:F5))]) (fun i=>D6 ((Sl.of [(⟨-1,[114]⟩:F5)]:Sl F5).g i)))] (al1 ⟨rfl,(fun i b=>match i,b with|0,_=>rfl|_+1,b=>Bc b (by omega))⟩ al0));apply kI hS h<;>intro h
 .obtain⟨c6,h⟩:=E8 h;refine MC hS (And.intro (And.intro (And.intro (And.intro (And.intro (And.intro (by decide:(20:Int)≠0) (by decide:(20:Int)≠0)) (rfl:true=true)) ((fun i b=>match i,b with|0,_=>rfl|1,_=>rfl|_+2,b=>Bc b (by omega)):∀i:Nat,i<2->(Eh (D3 [pI .u8 0] [(0,cI .u8 (wrap .u8 (97+(wrap .u8 (wrap .i64 (x3.tdiv 20)))))),(1,cI .u8 (wrap .u8 (97+(wrap .u8 (x3.tmod 20)))))] i)).isSome=true)) (rfl:true=true)) c6) (rfl:true=true)) 32 32000 (k:=1) (n:=1) (e:=X5) (vw:=false) (D3 [G1] [(0,[G1])]) (fun i=>cL 1 (cI .i64) ((Sl.of [(Sl.nil:Sl Int)]:Sl (Sl Int)).g i)) (fun i b=>match i,b with|0,_=>Ah0|_+1,b=>Bc b (by omega)) ?_;obtain⟨c7,h⟩:=E8 h;exact f _ [(3000,3000),(4000,4000),(4500,28000),(4501,33000)] _ (x1.push (⟨0,[UInt8.ofNat (wrap .u8 (97+(wrap .u8 (wrap .i64 (x3.tdiv 20))))).toNat,UInt8.ofNat (wrap .u8 (97+(wrap .u8 (x3.tmod 20)))).toNat]⟩:F5)) (x2.app (Sl.of [(Sl.nil:Sl Int)]:Sl (Sl Int))) (wrap .i64 (x3+1)) c7 h (hle:=klR [(2,.fn (x2.n+(Sl.of [(Sl.nil:Sl Int)]:Sl (Sl Int)).n) (x2.app (Sl.of [(Sl.nil:Sl Int)]:Sl (Sl Int))).n (AP x2.n (fun i=>cL 1 (cI .i64) (x2.g i)) (fun i=>cL 1 (cI .i64) ((Sl.of [(Sl.nil:Sl Int)]:Sl (Sl Int)).g i))) (fun i=>cL 1 (cI .i64) ((x2.app (Sl.of [(Sl.nil:Sl Int)]:Sl (Sl Int))).g i))),(3,.fn (x1.n+1) (x1.push (⟨0,[UInt8.ofNat (wrap .u8 (97+(wrap .u8 (wrap .i64 (x3.tdiv 20))))).toNat,UInt8.ofNat (wrap .u8 (97+(wrap .u8 (x3.tmod 20)))).toNat]⟩:F5)).n (AP x1.n (fun i=>D6 (x1.g i)) (D3 [pI .i64 0,.str []] [(0,D6 (⟨0,[UInt8.ofNat (wrap .u8 (97+(wrap .u8 (wrap .i64 (x3.tdiv 20))))).toNat,UInt8.ofNat (wrap .u8 (97+(wrap .u8 (x3.tmod 20)))).toNat]⟩:F5))])) (fun i=>D6 ((x1.push (⟨0,[UInt8.ofNat (wrap .u8 (97+(wrap .u8 (wrap .i64 (x3.tdiv 20))))).toNat,UInt8.ofNat (wrap .u8 (97+(wrap .u8 (x3.tmod 20)))).toNat]⟩:F5)).g i)))] (al1 ⟨rfl,Au3 (c:=cL 1 (cI .i64)) (v:=x2) (w:=(Sl.of [(Sl.nil:Sl Int)]:Sl (Sl Int))) same rfl same rfl⟩ (al1 ⟨rfl,LI (c:=D6) (v:=x1) (x:=(⟨0,[UInt8.ofNat (wrap .u8 (97+(wrap .u8 (wrap .i64 (x3.tdiv 20))))).toNat,UInt8.ofNat (wrap .u8 (97+(wrap .u8 (x3.tmod 20)))).toNat]⟩:F5)) (z:=[(pI .i64 0),.str []]) same rfl rfl⟩ al0)))
 obtain rfl:=C7 h;exact B3 hS Df ⟨[(2,.reg 3000 0)],[(3000,.cells [.p (vSl 2 D6 x1),.p (vSl 18 B5 (Sl.nil:Sl Law)),.p (vSl 1 (cL 1 (cI .i64)) x2)])]⟩ [] (ids:=[(3000,3000)]) ⟨rfl,rfl,rfl⟩
end Go.AM
namespace Go.AM
variable {N:Nat}
open IntKind (wrap)
open Go.Proofs
set_option maxRecDepth 10000
set_option maxHeartbeats 2000000
variable {S:Q8}(hS:H1 S Tryz.prog) (hL:GL S)
include hS hL
def Cc (N:Nat)(a:A9):Option Bool:= if (((decide (70<(a.Tree.n:Int)))||(decide (70<(a.Laws.n:Int))))||(decide (70<(a.On.n:Int)))) then some false else Y1 N (fun b (x1:Int)=>if (decide (x1<(a.On.n:Int))) then if ((0:Int)<=x1/\x1<(a.On.n:Int))then if (decide (70<((a.On.g x1.toNat).n:Int))) then some false else b (wrap .i64 (x1+1)) else none else Y1 N (fun c (x3:Int)=>if (decide (x3<(a.Laws.n:Int))) then if (((0:Int)<=x3/\x3<(a.Laws.n:Int))/\((0:Int)<=x3/\x3<=(wrap .i64 (x3+1))/\(wrap .i64 (x3+1))<=(a.Laws.n:Int)))then (Ds N (a.Laws.sub x3.toNat (wrap .i64 (x3+1)).toNat)).bind fun d=>lt (fun (z3:Bool)=>if z3 then some false else c (wrap .i64 (x3+1))) fun k3=>if (decide (4<d)) then k3 true else if (decide (20<((a.Laws.g x3.toNat).If.n:Int))) then k3 true else if (decide (20<((a.Laws.g x3.toNat).Out.n:Int))) then k3 true else (Ah N (a.Laws.g x3.toNat).Left).bind fun f=>if (decide (41<f)) then k3 true else (Ah N (a.Laws.g x3.toNat).Right).bind fun i=>k3 (decide (41<i)) else none else some true) 0) 0
theorem MD {c:A9}{y:Bool}(h:Cc N c=some y) :FunO S Mr [.p (.agg (B1 c))] [] (pB y) ([]) []:=by
 unfold Cc at h;refine A6 hS Tryz.func67 ?_;refine kB hS (A5 hS) Df Df 11 (.o (.o (.a (decide (70<(c.Tree.n:Int)))) (.a (decide (70<(c.Laws.n:Int))))) (.a (decide (70<(c.On.n:Int))))) ?_;apply kI hS h<;>intro h
 .cases h;exact kR hS
 refine N4 hS Df h (fun x1=>⟨[(3,pN x1),(1,.reg 2000 0)],[(2000,.cells ((B1 c).map .p))]⟩) (ids:=[(2000,2000)]) (fun _ _ _ _ _ f x1 i h=>?_);apply kI hS h<;>intro h
 .obtain⟨c9,h⟩:=E8 h;refine D9 hS c9 (b:=decide (70<((c.On.g x1.toNat).n:Int))) (fun c10=>?_) (fun c10=>?_)
  .replace h:=itT c10 h;cases h;exact kR hS
  replace h:=itF c10 h;exact i _ [(2000,2000)] _ (wrap .i64 (x1+1)) Df h
 refine N4 hS Df h (fun x3=>⟨[(4,pN x3),(1,.reg 2000 0)],[(2000,.cells ((B1 c).map .p))]⟩) (ids:=[(2000,2000)]) (fun _ _ _ _ _ j x3 l h=>?_);apply kI hS h<;>intro h
 .obtain⟨c40,h⟩:=E8 h;obtain⟨q,e11,h⟩:=B8 h;refine C0 hS [] (And.intro (And.intro c40.1 (by decide:(18:Nat)<=18)) c40.2) (XP hS hL e11) ?_;refine Ef hS Df (A5 hS) h 0 (fun z3=>⟨[(79,pB z3),(4,pN x3),(1,.reg 2000 0)],[(2000,.cells ((B1 c).map .p))]⟩) (fun M3 k3 d h=>?_) (fun z3 h=>?_)
  .refine kG hS h (fun h=>?_) (fun h=>?_)
   .exact d _ [(2000,2000)] _ true Df h
   refine kG hS h (fun h=>?_) (fun h=>?_)
   .exact d _ [(2000,2000)] _ true Df h
   refine kG hS h (fun h=>?_) (fun h=>?_)
   .exact d _ [(2000,2000)] _ true Df h
   refine kC hS h (Fc hS hL) (fun r h=>?_);refine kG hS h (fun h=>?_) (fun h=>?_)
   .exact d _ [(2000,2000)] _ true Df h
   refine kC hS h (Fc hS hL) (fun m h=>?_);exact d _ [(2000,2000)] _ (decide (41<m)) Df h
  apply kI hS h<;>intro h
  .cases h;exact kR hS
  exact l _ [(2000,2000)] _ (wrap .i64 (x3+1)) Df h
 cases h;exact kR hS
def Dy (N:Nat)(a:A9)(b:Sl (Sl Eg)):Option Bool:= (Cc N a).bind fun y1=>if ((!y1)||(decide (300<(b.n:Int)))) then some false else BC N (fun c (x1:Int) (x2:Int)=>if (decide (x2<(b.n:Int))) then if ((0:Int)<=x2/\x2<(b.n:Int))then if (decide (50<((b.g x2.toNat).n:Int))) then some false else c (wrap .i64 (x1+(wrap .i64 ((wrap .i64 (((b.g x2.toNat).n:Int)+1))*(wrap .i64 (((b.g x2.toNat).n:Int)+1)))))) (wrap .i64 (x2+1)) else none else if ((decide ((b.n:Int)<=256))&&(decide (1500<x1))) then some false else (Bl N a).bind fun y2=>if (y2 != 0) then some true else BC N (fun d (x3:Int) (x4:Int)=>if (decide (x4<(a.Laws.n:Int))) then if ((0:Int)<=x4/\x4<(a.Laws.n:Int))then (Ah N (a.Laws.g x4.toNat).Left).bind fun y7=>(Ah N (a.Laws.g x4.toNat).Right).bind fun y8=>d (wrap .i64 (x3+(wrap .i64 ((wrap .i64 (y7+y8))-2)))) (wrap .i64 (x4+1)) else none else BC N (fun f (x5:Int) (x6:Int)=>if (decide (x6<(a.On.n:Int))) then if ((0:Int)<=x6/\x6<(a.On.n:Int))then f (wrap .i64 (x5+((a.On.g x6.toNat).n:Int))) (wrap .i64 (x6+1)) else none else some (decide ((wrap .i64 (x3*x5))<=1200))) 0 0) 4 0) 0 0
theorem UM {c:A9}{d:Sl (Sl Eg)}{y:Bool}(h:Dy N c d=some y) :FunO S Mq [.p (.agg (B1 c)),.p (vSl 1 (cL 2 A1) d)] [] (pB y) ([]) []:=by
 unfold Dy at h;refine A6 hS Tryz.func28 ?_;refine J3 hS Df 4 3000 (B1 c) ?_;obtain⟨y1,e1,h⟩:=B8 h;refine C0 hS [] (by decide:(3:Nat)<=3) (MD hS hL e1) ?_;refine kB hS (A5 hS) Df Df 4 (.o (.a (!y1)) (.a (decide (300<(d.n:Int))))) ?_;apply kI hS h<;>intro h
 .cases h;exact kR hS
 refine I8 hS Df h (fun x1 x2=>⟨[(24,pN x2),(23,pN (d.n:Int)),(22,.p (vSl 1 (cL 2 A1) d)),(5,pN x1),(2,.p (.ptr (B1 c))),(1,.p (vSl 1 (cL 2 A1) d))],[]⟩) (ids:=[]) (fun _ _ _ _ _ f x1 x2 i h=>?_);apply kI hS h<;>intro h
 .obtain⟨c9,h⟩:=E8 h;refine D9 hS c9 (b:=decide (50<((d.g x2.toNat).n:Int))) (fun c10=>?_) (fun c10=>?_)
  .replace h:=itT c10 h;cases h;exact kR hS
  replace h:=itF c10 h;exact i _ [] _ (wrap .i64 (x1+(wrap .i64 ((wrap .i64 (((d.g x2.toNat).n:Int)+1))*(wrap .i64 (((d.g x2.toNat).n:Int)+1)))))) (wrap .i64 (x2+1)) Df h
 refine kB hS (A5 hS) Df Df 3 (.n (.a (decide ((d.n:Int)<=256))) (.a (decide (1500<x1)))) ?_;apply kI hS h<;>intro h
 .cases h;exact kR hS
 obtain⟨y2,e2,h⟩:=B8 h;refine C0 hS [] (by decide:(3:Nat)<=3) (UL hS hL e2) ?_;apply kI hS h<;>intro h
 .cases h;exact kR hS
 refine I8 hS Df h (fun x3 x4=>⟨[(54,pN x4),(53,pN (c.Laws.n:Int)),(52,.p (vSl 18 B5 c.Laws)),(9,pN 0),(8,pN x3),(2,.p (.ptr (B1 c)))],[]⟩) (ids:=[]) (fun _ _ _ _ _ j x3 x4 l h=>?_);apply kI hS h<;>intro h
 .obtain⟨c18,h⟩:=E8 h;refine QE hS (And.intro c18 (by decide:(18:Nat)<=18)) 12000 (B5 (c.Laws.g x4.toNat)) ?_;refine G9 hS Df [2,3,5,6] ?_;obtain⟨y7,e7,h⟩:=B8 h;refine V7 (by decide:(7:Nat)<=17) (Fc hS hL e7) ?_;obtain⟨y8,e8,h⟩:=B8 h;refine V7 (by decide:(7:Nat)<=10) (Fc hS hL e8) ?_;refine O0 Df ?_;exact l _ [] _ (wrap .i64 (x3+(wrap .i64 ((wrap .i64 (y7+y8))-2)))) (wrap .i64 (x4+1)) Df h
 refine I8 hS Df h (fun x5 x6=>⟨[(72,pN x6),(71,pN (c.On.n:Int)),(70,.p (vSl 1 (cL 1 (cI .i64)) c.On)),(9,pN x5),(8,pN x3)],[]⟩) (ids:=[]) (fun _ _ _ _ _ m x5 x6 q h=>?_);apply kI hS h<;>intro h
 .obtain⟨c22,h⟩:=E8 h;exact q _ [] _ (wrap .i64 (x5+((c.On.g x6.toNat).n:Int))) (wrap .i64 (x6+1)) c22 h
 cases h;exact kR hS
def Cv (N:Nat)(b:Sl Int)(a:Int):Option Int:= if (decide (a<(b.n:Int))) then if ((0:Int)<=a/\a<(b.n:Int))then some (wrap .i64 (b.g a.toNat)) else none else some 0
theorem Sz {a:Sl Int}{b:Int}{y:Int}(h:Cv N a b=some y) :FunO S KR [.p (vSl 1 (cI .u16) a),pN b] [] (pN y) ([]) []:=by
 unfold Cv at h;refine A6 hS Tryz.func88 ?_;apply kI hS h<;>intro h
 .obtain⟨c2,h⟩:=E8 h;obtain rfl:=C7 h;exact XU hS c2 [] ⟨rfl,rfl,rfl⟩
 cases h;exact kR hS
def Dz (N:Nat)(a:Law):Option Bool:= (Cc N (⟨(Sl.nil:Sl F5),(Sl.of [a]:Sl Law),(Sl.nil:Sl (Sl Int))⟩:A9)).bind fun y1=>some y1
theorem UN {a:Law}{y:Bool}(h:Dz N a=some y) :FunO S Mt [.p (.agg (B5 a))] [] (pB y) ([]) []:=by unfold Dz at h;refine A6 hS Tryz.func86 ?_;refine I7 hS (rfl:true=true) 5 ⟨[(4,.p (vSl 18 B5 (Sl.of [a]:Sl Law)))],[]⟩ (ids:=[]) ?_ (hle:=klR [(0,.fn 1 (Sl.of [a]:Sl Law).n (D3 [.str [],pI .i64 0,pI .u32 0,pI .u32 0,.v (.bool false),pI .i64 0,pI .i64 0,G1,pI .i64 0,pI .u32 0,pI .u32 0,.v (.bool false),pI .i64 0,pI .i64 0,G1,G1,G1,pI .i64 0] [(0,B5 a)]) (fun i=>B5 ((Sl.of [a]:Sl Law).g i)))] (al1 ⟨rfl,(fun i b=>match i,b with|0,_=>rfl|_+1,b=>Bc b (by omega))⟩ al0));obtain⟨y1,e1,h⟩:=B8 h;refine C0 hS [] Df (FunO.le hS (args:=[(.p (.agg [G1,vSl 18 B5 (Sl.of [a]:Sl Law),G1]))]) (by exact⟨AC1 (leCc lePN (leCc (.inl rfl) (leCc lePN leC0))),trivial⟩) (MD hS hL e1)) ?_;cases h;exact kR hS
def V8 (N:Nat)(p_x:HY):Option (A9×Bool):= BC N (fun d (x1:Sl F5) (x2:Int)=>if ((decide (x2<=(p_x.Parents.n:Int)))&&(decide (x2<10))) then if (((0:Int)<=(wrap .i64 (x2-1))/\(wrap .i64 (x2-1))<(p_x.Parents.n:Int))/\x2≠0)then if ((x1.n+(Sl.of [(⟨(wrap .i64 (p_x.Parents.g (wrap .i64 (x2-1)).toNat)).tmod x2,[UInt8.ofNat (wrap .u8 (97+(wrap .u8 x2))).toNat]⟩:F5)]:Sl F5).n)*24<=140737488355328/\x1.n+(Sl.of [(⟨(wrap .i64 (p_x.Parents.g (wrap .i64 (x2-1)).toNat)).tmod x2,[UInt8.ofNat (wrap .u8 (97+(wrap .u8 x2))).toNat]⟩:F5)]:Sl F5).n<=140737488355328)then d (x1.push (⟨(wrap .i64 (p_x.Parents.g (wrap .i64 (x2-1)).toNat)).tmod x2,[UInt8.ofNat (wrap .u8 (97+(wrap .u8 x2))).toNat]⟩:F5)) (wrap .i64 (x2+1)) else none else none else BC N (fun f (x4:Sl Law) (x5:Int)=>if ((decide (x5<(p_x.Laws.n:Int)))&&(decide (x5<6))) then if ((0:Int)<=x5/\x5<(p_x.Laws.n:Int))then (Dz N (⟨[UInt8.ofNat (wrap .u8 (65+(wrap .u8 x5))).toNat],(p_x.Laws.g x5.toNat).Left,(p_x.Laws.g x5.toNat).Right,(p_x.Laws.g x5.toNat).If,(p_x.Laws.g x5.toNat).Out,(p_x.Laws.g x5.toNat).Mode⟩:Law)).bind fun y7=>lt (fun (z3:Bool)=>if z3 then some ((⟨(Sl.nil:Sl F5),(Sl.nil:Sl Law),(Sl.nil:Sl (Sl Int))⟩:A9),false) else if ((x4.n+(Sl.of [(⟨[UInt8.ofNat (wrap .u8 (65+(wrap .u8 x5))).toNat],(p_x.Laws.g x5.toNat).Left,(p_x.Laws.g x5.toNat).Right,(p_x.Laws.g x5.toNat).If,(p_x.Laws.g x5.toNat).Out,(p_x.Laws.g x5.toNat).Mode⟩:Law)]:Sl Law).n)*200<=140737488355328/\x4.n+(Sl.of [(⟨[UInt8.ofNat (wrap .u8 (65+(wrap .u8 x5))).toNat],(p_x.Laws.g x5.toNat).Left,(p_x.Laws.g x5.toNat).Right,(p_x.Laws.g x5.toNat).If,(p_x.Laws.g x5.toNat).Out,(p_x.Laws.g x5.toNat).Mode⟩:Law)]:Sl Law).n<=140737488355328)then f (x4.push (⟨[UInt8.ofNat (wrap .u8 (65+(wrap .u8 x5))).toNat],(p_x.Laws.g x5.toNat).Left,(p_x.Laws.g x5.toNat).Right,(p_x.Laws.g x5.toNat).If,(p_x.Laws.g x5.toNat).Out,(p_x.Laws.g x5.toNat).Mode⟩:Law)) (wrap .i64 (x5+1)) else none) fun k3=>if (!y7) then k3 true else (U9 N (⟨[UInt8.ofNat (wrap .u8 (65+(wrap .u8 x5))).toNat],(p_x.Laws.g x5.toNat).Left,(p_x.Laws.g x5.toNat).Right,(p_x.Laws.g x5.toNat).If,(p_x.Laws.g x5.toNat).Out,(p_x.Laws.g x5.toNat).Mode⟩:Law)).bind fun y9=>k3 (y9 != 0) else none else BC N (fun i (c:Sl (Sl Int)) (j:Int)=>if (decide (j<(x1.n:Int))) then (Cv N p_x.On j).bind fun m=>BC N (fun l (a:Sl Int) (b:Int)=>if (wrap .i64 ((x4.n:Int)+1))≠0 then if (((b.tmod (wrap .i64 ((x4.n:Int)+1))) != 0)&&(decide ((a.n:Int)<5))) then if (((wrap .i64 ((x4.n:Int)+1))≠0/\((a.n+(Sl.of [wrap .i64 ((b.tmod (wrap .i64 ((x4.n:Int)+1)))-1)]:Sl Int).n)*8<=140737488355328/\a.n+(Sl.of [wrap .i64 ((b.tmod (wrap .i64 ((x4.n:Int)+1)))-1)]:Sl Int).n<=140737488355328))/\(wrap .i64 ((x4.n:Int)+1))≠0)then l (a.push (wrap .i64 ((b.tmod (wrap .i64 ((x4.n:Int)+1)))-1))) (wrap .i64 (b.tdiv (wrap .i64 ((x4.n:Int)+1)))) else none else if ((c.n+(Sl.of [a]:Sl (Sl Int)).n)*24<=140737488355328/\c.n+(Sl.of [a]:Sl (Sl Int)).n<=140737488355328)then i (c.push a) (wrap .i64 (j+1)) else none else none) (Sl.nil:Sl Int) m else some ((⟨x1,x4,c⟩:A9),true)) (Sl.nil:Sl (Sl Int)) 0) (Sl.nil:Sl Law) 0) (Sl.of [(⟨-1,[114]⟩:F5)]:Sl F5) 1
theorem LJ {p_x:HY}{y:A9×Bool}(h:V8 N p_x=some y) :FunO S Gv [.p (.agg (Dx p_x))] [] (.tup [.p (.agg (B1 y.1)),pB y.2]) ([]) []:=by
 unfold V8 at h;refine A6 hS Tryz.func39 ?_;refine J3 hS Df 2 2000 (Dx p_x) ?_;refine I8 hS (rfl:true=true) h (fun x1 x2=>⟨[(5,pN x2),(4,.reg 5000 0),(2,.reg 3000 0),(1,.p (.ptr (Dx p_x)))],[(5500,.vec Aj 2 x1.n (fun i=>D6 (x1.g i)) false),(5000,.cells [.vec 5500,.p G1,.p G1]),(3000,.cells [.p G1,.p G1,.p G1])]⟩) (ids:=[(3000,3000),(5000,5000),(5500,13000)]) (fun _ _ _ _ _ o x1 x2 q h=>?_) (hle:=klR [(2,.fn 1 (Sl.of [(⟨-1,[114]⟩:F5)]:Sl F5).n (D3 [pI .i64 0,.str []] [(0,D6 (⟨-1,[114]⟩:F5))]) (fun i=>D6 ((Sl.of [(⟨-1,[114]⟩:F5)]:Sl F5).g i)))] (al1 ⟨rfl,(fun i j=>match i,j with|0,_=>rfl|_+1,j=>Bc j (by omega))⟩ al0));refine kB hS (A5 hS) Df Df 3 (.n (.a (decide (x2<=(p_x.Parents.n:Int)))) (.a (decide (x2<10)))) ?_;apply kI hS h<;>intro h
 .refine G9 hS Df [3,6,7] ?_;obtain⟨c8,h⟩:=E8 h;refine W9 c8 (x:=.sl true 1 1 (D3 [pI .u8 0] [(0,cI .u8 (wrap .u8 (97+(wrap .u8 x2))))])) ?_;refine W9 ((fun i j=>match i,j with|0,_=>rfl|_+1,j=>Bc j (by omega)):∀i:Nat,i<1->(Eh (D3 [pI .u8 0] [(0,cI .u8 (wrap .u8 (97+(wrap .u8 x2))))] i)).isSome=true) (x:=.sl true 2 1 (D3 [pI .i64 0,.str []] [(0,D6 (⟨(wrap .i64 (p_x.Parents.g (wrap .i64 (x2-1)).toNat)).tmod x2,[UInt8.ofNat (wrap .u8 (97+(wrap .u8 x2))).toNat]⟩:F5))])) ?_;obtain⟨c9,h⟩:=E8 h;refine O0 c9 ?_;exact q _ [(3000,3000),(5000,5000),(5500,44000)] _ (x1.push (⟨(wrap .i64 (p_x.Parents.g (wrap .i64 (x2-1)).toNat)).tmod x2,[UInt8.ofNat (wrap .u8 (97+(wrap .u8 x2))).toNat]⟩:F5)) (wrap .i64 (x2+1)) Df h (hle:=klR [(2,.fn (x1.n+1) (x1.push (⟨(wrap .i64 (p_x.Parents.g (wrap .i64 (x2-1)).toNat)).tmod x2,[UInt8.ofNat (wrap .u8 (97+(wrap .u8 x2))).toNat]⟩:F5)).n (AP x1.n (fun i=>D6 (x1.g i)) (D3 [pI .i64 0,.str []] [(0,D6 (⟨(wrap .i64 (p_x.Parents.g (wrap .i64 (x2-1)).toNat)).tmod x2,[UInt8.ofNat (wrap .u8 (97+(wrap .u8 x2))).toNat]⟩:F5))])) (fun i=>D6 ((x1.push (⟨(wrap .i64 (p_x.Parents.g (wrap .i64 (x2-1)).toNat)).tmod x2,[UInt8.ofNat (wrap .u8 (97+(wrap .u8 x2))).toNat]⟩:F5)).g i)))] (al1 ⟨rfl,LI (c:=D6) (v:=x1) (x:=(⟨(wrap .i64 (p_x.Parents.g (wrap .i64 (x2-1)).toNat)).tmod x2,[UInt8.ofNat (wrap .u8 (97+(wrap .u8 x2))).toNat]⟩:F5)) (z:=[(pI .i64 0),.str []]) same rfl rfl⟩ al0))
 refine I8 hS Df h (fun x4 x5=>⟨[(6,pN x5),(4,.reg 5000 0),(2,.reg 3000 0),(1,.p (.ptr (Dx p_x)))],[(5501,.vec DA 18 x4.n (fun i=>B5 (x4.g i)) false),(5500,.vec Aj 2 x1.n (fun i=>D6 (x1.g i)) false),(5000,.cells [.vec 5500,.vec 5501,.p G1]),(3000,.cells [.p G1,.p G1,.p G1])]⟩) (ids:=[(3000,3000),(5000,5000),(5500,5500)]) (fun _ _ _ _ _ r x4 x5 s h=>?_);refine kB hS (A5 hS) Df Df 3 (.n (.a (decide (x5<(p_x.Laws.n:Int)))) (.a (decide (x5<6)))) ?_;apply kI hS h<;>intro h
 .obtain⟨c23,h⟩:=E8 h;obtain⟨y7,e7,h⟩:=B8 h;refine C0 hS [] (And.intro (And.intro (And.intro c23 (by decide:(18:Nat)<=18)) (rfl:true=true)) ((fun i j=>match i,j with|0,_=>rfl|_+1,j=>Bc j (by omega)):∀i:Nat,i<1->(Eh (D3 [pI .u8 0] [(0,cI .u8 (wrap .u8 (65+(wrap .u8 x5))))] i)).isSome=true)) (UN hS hL e7) ?_;refine Ef hS Df (A5 hS) h 0 (fun z3=>⟨[(74,pB z3),(7,.reg 8000 0),(6,pN x5),(4,.reg 5000 0),(2,.reg 3000 0),(1,.p (.ptr (Dx p_x)))],[(8000,.cells [.p (.str [UInt8.ofNat (wrap .u8 (65+(wrap .u8 x5))).toNat]),pN (p_x.Laws.g x5.toNat).Left.Kind,pU (p_x.Laws.g x5.toNat).Left.Is.Plus,pU (p_x.Laws.g x5.toNat).Left.Is.Minus,pB (p_x.Laws.g x5.toNat).Left.Not,pN (p_x.Laws.g x5.toNat).Left.Min,pN (p_x.Laws.g x5.toNat).Left.Max,.p (.sl false 7 (p_x.Laws.g x5.toNat).Left.L.n (BY (p_x.Laws.g x5.toNat).Left)),pN (p_x.Laws.g x5.toNat).Right.Kind,pU (p_x.Laws.g x5.toNat).Right.Is.Plus,pU (p_x.Laws.g x5.toNat).Right.Is.Minus,pB (p_x.Laws.g x5.toNat).Right.Not,pN (p_x.Laws.g x5.toNat).Right.Min,pN (p_x.Laws.g x5.toNat).Right.Max,.p (.sl false 7 (p_x.Laws.g x5.toNat).Right.L.n (BY (p_x.Laws.g x5.toNat).Right)),.p (vSl 2 A1 (p_x.Laws.g x5.toNat).If),.p (vSl 6 S4 (p_x.Laws.g x5.toNat).Out),pN (p_x.Laws.g x5.toNat).Mode]),(5501,.vec DA 18 x4.n (fun i=>B5 (x4.g i)) false),(5500,.vec Aj 2 x1.n (fun i=>D6 (x1.g i)) false),(5000,.cells [.vec 5500,.vec 5501,.p G1]),(3000,.cells [.p G1,.p G1,.p G1])]⟩) (fun M3 k3 m h=>?_) (fun z3 h=>?_)
  .refine kG hS h (fun h=>?_) (fun h=>?_)
   .exact m _ [(3000,3000),(5000,5000),(5500,5500),(5501,5501),(8000,8000)] _ true Df h
   refine kC hS h (FH hS hL) (fun y9 h=>?_);exact m _ [(3000,3000),(5000,5000),(5500,5500),(5501,5501),(8000,8000)] _ (y9 != 0) Df h
  apply kI hS h<;>intro h
  .obtain rfl:=C7 h;exact B3 hS Df ⟨[(3,pB false),(2,.reg 3000 0)],[(3000,.cells [.p (vSl 2 D6 (Sl.nil:Sl F5)),.p (vSl 18 B5 (Sl.nil:Sl Law)),.p (vSl 1 (cL 1 (cI .i64)) (Sl.nil:Sl (Sl Int)))])]⟩ [] (ids:=[(3000,3000)]) ⟨rfl,rfl,rfl⟩
  obtain⟨c28,h⟩:=E8 h;exact s _ [(3000,3000),(5000,5000),(5500,5500),(5501,81000)] _ (x4.push (⟨[UInt8.ofNat (wrap .u8 (65+(wrap .u8 x5))).toNat],(p_x.Laws.g x5.toNat).Left,(p_x.Laws.g x5.toNat).Right,(p_x.Laws.g x5.toNat).If,(p_x.Laws.g x5.toNat).Out,(p_x.Laws.g x5.toNat).Mode⟩:Law)) (wrap .i64 (x5+1)) (And.intro (rfl:true=true) c28) h (hle:=klR [(2,.fn (x4.n+1) (x4.push (⟨[UInt8.ofNat (wrap .u8 (65+(wrap .u8 x5))).toNat],(p_x.Laws.g x5.toNat).Left,(p_x.Laws.g x5.toNat).Right,(p_x.Laws.g x5.toNat).If,(p_x.Laws.g x5.toNat).Out,(p_x.Laws.g x5.toNat).Mode⟩:Law)).n (AP x4.n (fun i=>B5 (x4.g i)) (D3 [.str [],pI .i64 0,pI .u32 0,pI .u32 0,.v (.bool false),pI .i64 0,pI .i64 0,G1,pI .i64 0,pI .u32 0,pI .u32 0,.v (.bool false),pI .i64 0,pI .i64 0,G1,G1,G1,pI .i64 0] [(0,B5 (⟨[UInt8.ofNat (wrap .u8 (65+(wrap .u8 x5))).toNat],(p_x.Laws.g x5.toNat).Left,(p_x.Laws.g x5.toNat).Right,(p_x.Laws.g x5.toNat).If,(p_x.Laws.g x5.toNat).Out,(p_x.Laws.g x5.toNat).Mode⟩:Law))])) (fun i=>B5 ((x4.push (⟨[UInt8.ofNat (wrap .u8 (65+(wrap .u8 x5))).toNat],(p_x.Laws.g x5.toNat).Left,(p_x.Laws.g x5.toNat).Right,(p_x.Laws.g x5.toNat).If,(p_x.Laws.g x5.toNat).Out,(p_x.Laws.g x5.toNat).Mode⟩:Law)).g i)))] (al1 ⟨rfl,LI (c:=B5) (v:=x4) (x:=(⟨[UInt8.ofNat (wrap .u8 (65+(wrap .u8 x5))).toNat],(p_x.Laws.g x5.toNat).Left,(p_x.Laws.g x5.toNat).Right,(p_x.Laws.g x5.toNat).If,(p_x.Laws.g x5.toNat).Out,(p_x.Laws.g x5.toNat).Mode⟩:Law)) (z:=[(.str []),pI .i64 0,pI .u32 0,pI .u32 0,.v (.bool false),pI .i64 0,pI .i64 0,G1,pI .i64 0,pI .u32 0,pI .u32 0,.v (.bool false),pI .i64 0,pI .i64 0,G1,G1,G1,pI .i64 0]) same rfl rfl⟩ al0))
 refine I8 hS Df h (fun d l=>⟨[(8,pN l),(4,.reg 5000 0),(2,.reg 3000 0),(1,.p (.ptr (Dx p_x)))],[(5502,.vec X5 1 d.n (fun i=>cL 1 (cI .i64) (d.g i)) false),(5501,.vec DA 18 x4.n (fun i=>B5 (x4.g i)) false),(5500,.vec Aj 2 x1.n (fun i=>D6 (x1.g i)) false),(5000,.cells [.vec 5500,.vec 5501,.vec 5502]),(3000,.cells [.p G1,.p G1,.p G1])]⟩) (ids:=[(3000,3000),(5000,5000),(5500,5500),(5501,5501)]) (fun _ _ _ _ _ t d l u h=>?_);apply kI hS h<;>intro h
 .refine kC hS h (Sz hS hL) (fun a1 h=>?_);refine I8 hS Df h (fun b f=>⟨[(10,pN f),(9,.vec 10500),(8,pN l),(4,.reg 5000 0),(2,.reg 3000 0),(1,.p (.ptr (Dx p_x)))],[(10500,.vec D4 1 b.n (fun i=>cI .i64 (b.g i)) false),(5502,.vec X5 1 d.n (fun i=>cL 1 (cI .i64) (d.g i)) false),(5501,.vec DA 18 x4.n (fun i=>B5 (x4.g i)) false),(5500,.vec Aj 2 x1.n (fun i=>D6 (x1.g i)) false),(5000,.cells [.vec 5500,.vec 5501,.vec 5502]),(3000,.cells [.p G1,.p G1,.p G1])]⟩) (ids:=[(3000,3000),(5000,5000),(5500,5500),(5501,5501),(5502,5502)]) (fun _ _ _ _ _ w b f a0 h=>?_);obtain⟨c50,h⟩:=E8 h;refine kB hS (A5 hS) c50 Df 4 (.n (.a ((f.tmod (wrap .i64 ((x4.n:Int)+1))) != 0)) (.a (decide ((b.n:Int)<5)))) ?_;apply kI hS h<;>intro h
  .obtain⟨c52,h⟩:=E8 h;exact a0 _ [(3000,3000),(5000,5000),(5500,5500),(5501,5501),(5502,5502),(10500,121000)] _ (b.push (wrap .i64 ((f.tmod (wrap .i64 ((x4.n:Int)+1)))-1))) (wrap .i64 (f.tdiv (wrap .i64 ((x4.n:Int)+1)))) (And.intro (And.intro (And.intro c52.1.1 (rfl:true=true)) c52.1.2) c52.2) h (hle:=klR [(3,.fn (b.n+1) (b.push (wrap .i64 ((f.tmod (wrap .i64 ((x4.n:Int)+1)))-1))).n (AP b.n (fun i=>cI .i64 (b.g i)) (D3 [pI .i64 0] [(0,cI .i64 (wrap .i64 ((f.tmod (wrap .i64 ((x4.n:Int)+1)))-1)))])) (fun i=>cI .i64 ((b.push (wrap .i64 ((f.tmod (wrap .i64 ((x4.n:Int)+1)))-1))).g i)))] (al1 ⟨rfl,LI (c:=cI .i64) (v:=b) (x:=wrap .i64 ((f.tmod (wrap .i64 ((x4.n:Int)+1)))-1)) (z:=[(pI .i64 0)]) same rfl rfl⟩ al0))
  obtain⟨c53,h⟩:=E8 h;exact u _ [(3000,3000),(5000,5000),(5500,5500),(5501,5501),(5502,126000)] _ (d.push b) (wrap .i64 (l+1)) (And.intro (rfl:true=true) c53) h (hle:=klR [(2,.fn (d.n+1) (d.push b).n (AP d.n (fun i=>cL 1 (cI .i64) (d.g i)) (D3 [G1] [(0,cL 1 (cI .i64) b)])) (fun i=>cL 1 (cI .i64) ((d.push b).g i)))] (al1 ⟨rfl,LI (c:=cL 1 (cI .i64)) (v:=d) (x:=b) (z:=[G1]) same rfl rfl⟩ al0))
 obtain rfl:=C7 h;exact B3 hS Df ⟨[(3,pB true),(2,.reg 3000 0)],[(3000,.cells [.p (vSl 2 D6 x1),.p (vSl 18 B5 x4),.p (vSl 1 (cL 1 (cI .i64)) d)])]⟩ [] (ids:=[(3000,3000)]) ⟨rfl,rfl,rfl⟩
end Go.AM
namespace Go.AM
open IntKind (wrap)
open Go.Proofs
set_option maxRecDepth 10000
set_option maxHeartbeats 2000000
variable {S:Q8}(hS:H1 S Tryz.prog) (hL:GL S)
include hS hL
def Cw (N:Nat)(a:Int)(b:Int):Option Bool:= if ((b.tmod 5)==0) then if ((0:Int)<=1/\1<=((Sl.of [4294967295,0]:Sl Int).n:Int))then (F2 N (⟨wrap .i64 (32+(wrap .i64 ((wrap .i64 (a.tmod 4))-2))),(Sl.of [4294967295,0]:Sl Int).drop 1⟩:A3)).bind fun y1=>if (decide (0<(wrap .i64 ((wrap .i64 (a.tmod 4))-2)))) then lt (fun (z1:Bool)=>some z1) fun k1=>if (y1==3) then (D0 N ).bind fun y3=>k1 y3 else k1 false else lt (fun (z2:Bool)=>some z2) fun k2=>if (y1==0) then (D0 N ).bind fun y5=>k2 y5 else k2 false else none else if ((b.tmod 5)==1) then if ((0:Int)<=(wrap .i64 (64+(wrap .i64 ((wrap .i64 (a.tmod 4))-2))))/\(wrap .i64 (64+(wrap .i64 ((wrap .i64 (a.tmod 4))-2))))<=(wrap .i64 (64+(wrap .i64 ((wrap .i64 (a.tmod 4))-2))))/\(wrap .i64 (64+(wrap .i64 ((wrap .i64 (a.tmod 4))-2))))*8<=140737488355328/\(wrap .i64 (64+(wrap .i64 ((wrap .i64 (a.tmod 4))-2))))<=140737488355328)then (AQ N (⟨3,(Sl.rep (wrap .i64 (64+(wrap .i64 ((wrap .i64 (a.tmod 4))-2)))).toNat 0:Sl Int)⟩:A3)).bind fun y6=>if (decide (0<(wrap .i64 ((wrap .i64 (a.tmod 4))-2)))) then lt (fun (z3:Bool)=>some z3) fun k3=>if (y6.2==12) then (D0 N ).bind fun y8=>k3 y8 else k3 false else lt (fun (z4:Bool)=>some z4) fun k4=>if (y6.2==0) then (D0 N ).bind fun g=>k4 g else k4 false else none else if ((b.tmod 5)==2) then (P7 N (wrap .i64 (32+(wrap .i64 ((wrap .i64 (a.tmod 4))-2))))).bind fun i=>(U7 N i).bind fun d=>if ((((if (decide (0<(wrap .i64 ((wrap .i64 (a.tmod 4))-2)))) then 12 else 0):Int)==0)&&(d.1.Langs != (wrap .i64 (32+(wrap .i64 ((wrap .i64 (a.tmod 4))-2)))))) then some false else lt (fun (z5:Bool)=>some z5) fun k5=>if (d.2==((if (decide (0<(wrap .i64 ((wrap .i64 (a.tmod 4))-2)))) then 12 else 0):Int)) then (D0 N ).bind fun j=>k5 j else k5 false else if ((b.tmod 5)==3) then (P7 N 2).bind fun l=>if ((0:Int)<=(wrap .i64 (256+(wrap .i64 ((wrap .i64 (a.tmod 4))-2))))/\(wrap .i64 (256+(wrap .i64 ((wrap .i64 (a.tmod 4))-2))))<=(wrap .i64 (256+(wrap .i64 ((wrap .i64 (a.tmod 4))-2))))/\(wrap .i64 (256+(wrap .i64 ((wrap .i64 (a.tmod 4))-2))))*24<=140737488355328/\(wrap .i64 (256+(wrap .i64 ((wrap .i64 (a.tmod 4))-2))))<=140737488355328)then (V2 N l (Sl.rep (wrap .i64 (256+(wrap .i64 ((wrap .i64 (a.tmod 4))-2)))).toNat (Sl.nil:Sl Eg):Sl (Sl Eg))).bind fun f=>if (decide (0<(wrap .i64 ((wrap .i64 (a.tmod 4))-2)))) then lt (fun (z6:Bool)=>some z6) fun k6=>if (f.2==12) then (D0 N ).bind fun m=>k6 m else k6 false else lt (fun (z7:Bool)=>some z7) fun k7=>if (f.2==0) then (D0 N ).bind fun o=>k7 o else k7 false else none else (Ak N ).bind fun q=>(H6 N (Sl.of [(Sl.of [(⟨2,5⟩:Eg),(⟨5,2⟩:Eg)]:Sl Eg)]:Sl (Sl Eg)) (wrap .i64 (32+(wrap .i64 ((wrap .i64 (a.tmod 4))-2))))).bind fun r=>(V2 N q r).bind fun c=>if (((((if (decide (0<(wrap .i64 ((wrap .i64 (a.tmod 4))-2)))) then 12 else 0):Int)==0)&&((c.1.Has.n:Int) != (wrap .i64 (64+(wrap .i64 (2*(wrap .i64 ((wrap .i64 (a.tmod 4))-2))))))))||((((if (decide (0<(wrap .i64 ((wrap .i64 (a.tmod 4))-2)))) then 12 else 0):Int) != 0)&&((c.1.Langs != 0)||((c.1.Has.n:Int) != 0)))) then some false else lt (fun (z8:Bool)=>some z8) fun k8=>if (c.2==((if (decide (0<(wrap .i64 ((wrap .i64 (a.tmod 4))-2)))) then 12 else 0):Int)) then (D0 N ).bind fun s=>k8 s else k8 false
theorem SA {N:Nat}{c:Int}{d:Int}{y:Bool}(h:Cw N c d=some y) :FunO S Cu [.p (pI .u8 c),.p (pI .u8 d)] [] (pB y) ([]) []:=by
 unfold Cw at h;refine A6 hS GU ?_;refine D9 hS (And.intro (by decide:(4:Int)≠0) (by decide:(5:Int)≠0)) (b:=(d.tmod 5)==0) (fun c1=>?_) (fun c1=>?_)
 .replace h:=itT c1 h;refine I7 hS (rfl:true=true) 70 ⟨[(69,.vec 70000),(68,pN (wrap .i64 (32+(wrap .i64 ((wrap .i64 (c.tmod 4))-2))))),(8,pN 0),(5,pN (wrap .i64 ((wrap .i64 (c.tmod 4))-2)))],[(70000,.vec P8 1 (Sl.of [4294967295,0]:Sl Int).n (fun i=>cI .u64 ((Sl.of [4294967295,0]:Sl Int).g i)) false)]⟩ (ids:=[(70000,70000)]) ?_ (hle:=klR [(3,.fn 2 (Sl.of [4294967295,0]:Sl Int).n (D3 [pI .u64 0] [(0,cI .u64 4294967295),(1,cI .u64 0)]) (fun i=>cI .u64 ((Sl.of [4294967295,0]:Sl Int).g i)))] (al1 ⟨rfl,(fun i j=>match i,j with|0,_=>rfl|1,_=>rfl|_+2,j=>Bc j (by omega))⟩ al0));obtain⟨c2,h⟩:=E8 h;obtain⟨y1,e1,h⟩:=B8 h;refine C0 hS [] c2 (P9 hS hL e1) ?_;apply kI hS h<;>intro h
  .refine Ef hS Df (A5 hS) h 0 (fun z1=>⟨[(4,pB z1)],[]⟩) (fun M1 k1 s h=>?_) (fun z1 h=>?_)
   .refine kG hS h (fun h=>?_) (fun h=>?_)
    .refine kC hS h (F7 hS hL) (fun y3 h=>?_);exact s _ [] _ y3 Df h
    exact s _ [] _ false Df h
   cases h;exact kR hS
  refine Ef hS Df (A5 hS) h 0 (fun z2=>⟨[(4,pB z2)],[]⟩) (fun M2 k2 t h=>?_) (fun z2 h=>?_)
  .refine kG hS h (fun h=>?_) (fun h=>?_)
   .refine kC hS h (F7 hS hL) (fun y5 h=>?_);exact t _ [] _ y5 Df h
   exact t _ [] _ false Df h
  cases h;exact kR hS
 replace h:=itF c1 h;apply kI hS h<;>intro h
 .obtain⟨c11,h⟩:=E8 h;refine I7 hS c11 81 ⟨[(80,.p (vSl 1 (cI .u64) (Sl.rep (wrap .i64 (64+(wrap .i64 ((wrap .i64 (c.tmod 4))-2)))).toNat 0:Sl Int))),(8,pN 0),(5,pN (wrap .i64 ((wrap .i64 (c.tmod 4))-2)))],[]⟩ (ids:=[]) ?_;refine kC hS h (EC hS hL) (fun y6 h=>?_);apply kI hS h<;>intro h
  .refine Ef hS Df (A5 hS) h 0 (fun z3=>⟨[(4,pB z3)],[]⟩) (fun M3 k3 u h=>?_) (fun z3 h=>?_)
   .refine kG hS h (fun h=>?_) (fun h=>?_)
    .refine kC hS h (F7 hS hL) (fun y8 h=>?_);exact u _ [] _ y8 Df h
    exact u _ [] _ false Df h
   cases h;exact kR hS
  refine Ef hS Df (A5 hS) h 0 (fun z4=>⟨[(4,pB z4)],[]⟩) (fun M4 k4 v h=>?_) (fun z4 h=>?_)
  .refine kG hS h (fun h=>?_) (fun h=>?_)
   .refine kC hS h (F7 hS hL) (fun a3 h=>?_);exact v _ [] _ a3 Df h
   exact v _ [] _ false Df h
  cases h;exact kR hS
 apply kI hS h<;>intro h
 .refine kC hS h (BH hS hL) (fun b0 h=>?_);refine kC hS h (Ei hS hL) (fun l h=>?_);obtain⟨t1,q⟩:∃x:Int,x=((if (decide (0<(wrap .i64 ((wrap .i64 (c.tmod 4))-2)))) then 12 else 0):Int):=⟨_,rfl⟩;refine LH hS Df (A5 hS) 0 ⟨[(9,.reg 10000 0),(8,pN t1),(7,pN l.2),(5,pN (wrap .i64 ((wrap .i64 (c.tmod 4))-2)))],[(10000,.cells [pN l.1.Langs,.p (vSl 1 (cI .u64) l.1.Has)])]⟩ (fun M5 w=>?_) ?_
  .refine D9 hS Df (b:=decide (0<(wrap .i64 ((wrap .i64 (c.tmod 4))-2)))) (fun c21=>?_) (fun c21=>?_)
   .exact w _ [(10000,10000)] _ Df (hle:=klR [(0,.eq (pI .i64 12) (pI .i64 t1))] (al1 (by simp only[q,c21,Leaf.ok,pm,Bq,Cj]) al0))
   exact w _ [(10000,10000)] _ Df (hle:=klR [(0,.eq (pI .i64 0) (pI .i64 t1))] (al1 (by simp only[q,c21,Leaf.ok,pm,Bq,Cj]) al0))
  subst q;refine kB hS (A5 hS) Df Df 6 (.n (.a (((if (decide (0<(wrap .i64 ((wrap .i64 (c.tmod 4))-2)))) then 12 else 0):Int)==0)) (.a (l.1.Langs != (wrap .i64 (32+(wrap .i64 ((wrap .i64 (c.tmod 4))-2))))))) ?_;apply kI hS h<;>intro h
  .cases h;exact kR hS
  refine Ef hS Df (A5 hS) h 0 (fun z5=>⟨[(4,pB z5)],[]⟩) (fun M6 k5 z h=>?_) (fun z5 h=>?_)
  .refine kG hS h (fun h=>?_) (fun h=>?_)
   .refine kC hS h (F7 hS hL) (fun a4 h=>?_);exact z _ [] _ a4 Df h
   exact z _ [] _ false Df h
  cases h;exact kR hS
 apply kI hS h<;>intro h
 .refine G9 hS Df [1] ?_;obtain⟨a5,e15,h⟩:=B8 h;refine V7 Df (BH hS hL e15) ?_;obtain⟨c27,h⟩:=E8 h;obtain⟨b1,e16,h⟩:=B8 h;refine Sy [] c27 (FunO.le hS (args:=[(.p (.agg (B1 a5))),.p (.sl false 1 (wrap .i64 (256+(wrap .i64 ((wrap .i64 (c.tmod 4))-2)))).toNat (fun _=>[G1]))]) (by exact⟨.inl rfl,⟨SB rfl (fun _ _=>Ah0),trivial⟩⟩) (BI hS hL e16)) ?_;refine O0 Df ?_;apply kI hS h<;>intro h
  .refine Ef hS Df (A5 hS) h 0 (fun z6=>⟨[(4,pB z6)],[]⟩) (fun M7 k6 a0 h=>?_) (fun z6 h=>?_)
   .refine kG hS h (fun h=>?_) (fun h=>?_)
    .refine kC hS h (F7 hS hL) (fun a6 h=>?_);exact a0 _ [] _ a6 Df h
    exact a0 _ [] _ false Df h
   cases h;exact kR hS
  refine Ef hS Df (A5 hS) h 0 (fun z7=>⟨[(4,pB z7)],[]⟩) (fun M8 k7 a1 h=>?_) (fun z7 h=>?_)
  .refine kG hS h (fun h=>?_) (fun h=>?_)
   .refine kC hS h (F7 hS hL) (fun a7 h=>?_);exact a1 _ [] _ a7 Df h
   exact a1 _ [] _ false Df h
  cases h;exact kR hS
 refine kC hS h (Dh hS hL) (fun a8 h=>?_);refine J3 hS Df 22 11000 (B1 a8) ?_;refine QE hS Df 12000 [pI .u32 2,pI .u32 5] ?_;refine QE hS Df 13000 [pI .u32 5,pI .u32 2] ?_;refine G9 hS Df [0,1,2,7,8] ?_;refine W9 (And.intro (And.intro (by decide:(3:Nat)<=3) (by decide:(2:Nat)<=2)) (by decide:(2:Nat)<=2)) (x:=.sl true 2 2 (D3 [pI .u32 0,pI .u32 0] [(0,A1 (⟨2,5⟩:Eg)),(1,A1 (⟨5,2⟩:Eg))])) ?_;refine W9 Df (x:=.sl true 1 1 (D3 [G1] [(0,[.sl true 2 2 (D3 [pI .u32 0,pI .u32 0] [(0,A1 (⟨2,5⟩:Eg)),(1,A1 (⟨5,2⟩:Eg))])])])) ?_;obtain⟨b2,e22,h⟩:=B8 h;refine V7 Df (FunO.le hS (args:=[.p (.sl true 1 1 (D3 [G1] [(0,[.sl true 2 2 (D3 [pI .u32 0,pI .u32 0] [(0,A1 (⟨2,5⟩:Eg)),(1,A1 (⟨5,2⟩:Eg))])])])),pN (wrap .i64 (32+(wrap .i64 ((wrap .i64 (c.tmod 4))-2))))]) (by exact⟨SB rfl (fun i j=>match i,j with|0,_=>AJ2 rfl (fun i j=>match i,j with|0,_=>rfl|1,_=>rfl|_+2,j=>Bc j (by omega))|_+1,j=>Bc j (by omega)),⟨.inl rfl,trivial⟩⟩) (S2 hS hL e22)) ?_;obtain⟨f,e23,h⟩:=B8 h;refine V7 Df (BI hS hL e23) ?_;refine O0 Df ?_;refine J3 hS Df 36 14000 [pI .i64 f.1.Langs,vSl 1 (cI .u64) f.1.Has] ?_;obtain⟨t2,r⟩:∃x:Int,x=((if (decide (0<(wrap .i64 ((wrap .i64 (c.tmod 4))-2)))) then 12 else 0):Int):=⟨_,rfl⟩;refine LH hS Df (A5 hS) 0 ⟨[(13,.p (.ptr [pI .i64 f.1.Langs,vSl 1 (cI .u64) f.1.Has])),(8,pN t2),(7,pN f.2),(5,pN (wrap .i64 ((wrap .i64 (c.tmod 4))-2)))],[]⟩ (fun M9 a2=>?_) ?_
 .refine D9 hS Df (b:=decide (0<(wrap .i64 ((wrap .i64 (c.tmod 4))-2)))) (fun c36=>?_) (fun c36=>?_)
  .exact a2 _ [] _ Df (hle:=klR [(1,.eq (pI .i64 12) (pI .i64 t2))] (al1 (by simp only[r,c36,Leaf.ok,pm,Bq,Cj]) al0))
  exact a2 _ [] _ Df (hle:=klR [(1,.eq (pI .i64 0) (pI .i64 t2))] (al1 (by simp only[r,c36,Leaf.ok,pm,Bq,Cj]) al0))
 subst r;refine kB hS (A5 hS) Df Df 23 (.o (.n (.a (((if (decide (0<(wrap .i64 ((wrap .i64 (c.tmod 4))-2)))) then 12 else 0):Int)==0)) (.a ((f.1.Has.n:Int) != (wrap .i64 (64+(wrap .i64 (2*(wrap .i64 ((wrap .i64 (c.tmod 4))-2))))))))) (.n (.a (((if (decide (0<(wrap .i64 ((wrap .i64 (c.tmod 4))-2)))) then 12 else 0):Int) != 0)) (.o (.a (f.1.Langs != 0)) (.a ((f.1.Has.n:Int) != 0))))) ?_;apply kI hS h<;>intro h
 .cases h;exact kR hS
 refine Ef hS Df (A5 hS) h 0 (fun z8=>⟨[(4,pB z8)],[]⟩) (fun M10 k8 m h=>?_) (fun z8 h=>?_)
 .refine kG hS h (fun h=>?_) (fun h=>?_)
  .refine kC hS h (F7 hS hL) (fun a9 h=>?_);exact m _ [] _ a9 Df h
  exact m _ [] _ false Df h
 cases h;exact kR hS
def Al (N:Nat)(p_x:HY):Option Bool:= (V8 N p_x).bind fun y1=>lt (fun (z1:Bool)=>if z1 then (D0 N ).bind fun y4=>some y4 else (K6 N (Sl.of [-1]:Sl Int) (y1.1.Laws.n:Int)).bind fun y5=>if ((0:Int)<=(y1.1.On.n:Int)/\(y1.1.On.n:Int)<=(y1.1.On.n:Int)/\(y1.1.On.n:Int)*24<=140737488355328/\(y1.1.On.n:Int)<=140737488355328)then Ag7 N (fun q (x5:Sl Int) (x6:Sl (Sl Int)) (x7:Int)=>if (decide (x7<(y1.1.On.n:Int))) then if ((0:Int)<=x7/\x7<(y1.1.On.n:Int))then Ag7 N (fun j (f:Sl Int) (c:Sl (Sl Int)) (a:Int)=>if (decide (a<((y1.1.On.g x7.toNat).n:Int))) then if ((0:Int)<=a/\a<((y1.1.On.g x7.toNat).n:Int))then if x7.toNat<c.n then if (((0:Int)<=((y1.1.On.g x7.toNat).g a.toNat)/\((y1.1.On.g x7.toNat).g a.toNat)<(f.n:Int))/\((y1.1.On.g x7.toNat).g a.toNat).toNat<f.n)then if (decide ((f.g ((y1.1.On.g x7.toNat).g a.toNat).toNat)<0)) then if ((((((0:Int)<=((y1.1.On.g x7.toNat).g a.toNat)/\((y1.1.On.g x7.toNat).g a.toNat)<(f.n:Int))/\((y1.1.On.g x7.toNat).g a.toNat).toNat<f.n)/\((0:Int)<=x7/\x7<(c.n:Int)))/\(((c.g x7.toNat).n+(Sl.of [(y1.1.On.g x7.toNat).g a.toNat]:Sl Int).n)*8<=140737488355328/\(c.g x7.toNat).n+(Sl.of [(y1.1.On.g x7.toNat).g a.toNat]:Sl Int).n<=140737488355328))/\((0:Int)<=x7/\x7<(c.n:Int)))then j (f.upd ((y1.1.On.g x7.toNat).g a.toNat).toNat x7) (c.upd x7.toNat ((c.g x7.toNat).push ((y1.1.On.g x7.toNat).g a.toNat))) (wrap .i64 (a+1)) else none else j f (c.upd x7.toNat (c.g x7.toNat)) (wrap .i64 (a+1)) else none else none else none else q f c (wrap .i64 (x7+1))) x5 x6 0 else none else (U7 N (⟨y1.1.Tree,y1.1.Laws,x6⟩:A9)).bind fun y6=>(Am N y1.1.Tree).bind fun y7=>if (y7.2 != 0) then some false else if (decide (32<(y7.1.n:Int))) then lt (fun (z2:Bool)=>some z2) fun k2=>if (y6.2==12) then (D0 N ).bind fun y9=>k2 y9 else k2 false else lt (fun (z3:Bool)=>if z3 then some false else (G6 N y6.1).bind fun s=>if ((s.2 != 0)||((s.1.n:Int) != 0)) then some false else Y1 N (fun m (b:Int)=>if (decide (b<(x5.n:Int))) then if (((0:Int)<=b/\b<(x5.n:Int))/\b.toNat<x5.n)then BC N (fun i (r:Int) (d:Int)=>if (decide (d<(y7.1.n:Int))) then if (((0:Int)<=d/\d<(y7.1.n:Int))/\d.toNat<y7.1.n)then Y1 N (fun o (l:Int)=>if ((decide (0<=(x5.g b.toNat)))&&(decide ((x5.g b.toNat)<l))) then if ((0:Int)<=l/\l<(y1.1.Tree.n:Int))then o (y1.1.Tree.g l.toNat).Parent else none else if ((decide (0<=(x5.g b.toNat)))&&(l==(x5.g b.toNat))) then if (0:Int)<=d then i (E3 .or .u64 r (shI .shl .u64 1 d)) (wrap .i64 (d+1)) else none else i r (wrap .i64 (d+1))) (y7.1.g d.toNat) else none else if ((0:Int)<=b/\b<(y6.1.Has.n:Int))then if ((y6.1.Has.g b.toNat) != r) then some false else m (wrap .i64 (b+1)) else none) 0 0 else none else (D0 N ).bind fun t=>some t) 0) fun k3=>if (y6.2 != 0) then k3 true else (F2 N y6.1).bind fun u=>if (u != 0) then k3 true else if (y6.1.Langs != (y7.1.n:Int)) then k3 true else k3 ((y6.1.Has.n:Int) != (y1.1.Laws.n:Int))) y5 (Sl.rep (y1.1.On.n:Int).toNat (Sl.nil:Sl Int):Sl (Sl Int)) 0 else none) fun k1=>if (!y1.2) then k1 true else (Dy N y1.1 (Sl.nil:Sl (Sl Eg))).bind fun y3=>k1 (!y3)
theorem Kj {N:Nat}{p_x:HY}{y:Bool}(h:Al N p_x=some y) :FunO S BX [.p (.agg (Dx p_x))] [] (pB y) ([]) []:=by
 unfold Al at h;refine A6 hS Fa ?_;refine kC hS h (LJ hS hL) (fun y1 h=>?_);refine Ef hS Df (A5 hS) h 0 (fun z1=>⟨[(34,pB z1),(3,.reg 4000 0)],[(4000,.cells ((B1 y1.1).map .p))]⟩) (fun M1 k1 a0 h=>?_) (fun z1 h=>?_)
 .refine kG hS h (fun h=>?_) (fun h=>?_)
  .exact a0 _ [(4000,4000)] _ true Df h
  obtain⟨y3,e3,h⟩:=B8 h;refine C0 hS [] Df (FunO.le hS (args:=[(.p (.agg (B1 y1.1))),.p G1]) (by exact⟨.inl rfl,⟨AC4,trivial⟩⟩) (UM hS hL e3)) ?_;exact a0 _ [(4000,4000)] _ (!y3) Df h
 apply kI hS h<;>intro h
 .refine kC hS h (F7 hS hL) (fun y4 h=>?_);cases h;exact kR hS
 refine DB hS (rfl:true=true) ⟨[(39,pN (y1.1.Laws.n:Int)),(36,.vec 37000),(3,.reg 4000 0)],[(37000,.vec D4 1 (Sl.of [-1]:Sl Int).n (fun i=>cI .i64 ((Sl.of [-1]:Sl Int).g i)) false),(4000,.cells ((B1 y1.1).map .p))]⟩ (ids:=[(4000,4000),(37000,37000)]) ?_ (hle:=klR [(1,.fn 1 (Sl.of [-1]:Sl Int).n (D3 [pI .i64 0] [(0,cI .i64 (-1))]) (fun i=>cI .i64 ((Sl.of [-1]:Sl Int).g i)))] (al1 ⟨rfl,(fun i hi=>match i,hi with|0,_=>rfl|_+1,hi=>Bc hi (by omega))⟩ al0));refine kC hS h (Ee hS hL) (fun y5 h=>?_);obtain⟨c5,h⟩:=E8 h;refine Jf hS c5 45 (.fam 45000 46901 fun i=>KV D4 1 (cI .i64) ((Sl.rep (y1.1.On.n:Int).toNat (Sl.nil:Sl Int):Sl (Sl Int)).g i)) (⟨by decide,fun i _=>rfl⟩:1000<=46901/\∀i,i<(Sl.rep (y1.1.On.n:Int).toNat (Sl.nil:Sl Int):Sl (Sl Int)).n->Wi [G1] (KV D4 1 (cI .i64) ((Sl.rep (y1.1.On.n:Int).toNat (Sl.nil:Sl Int):Sl (Sl Int)).g i))) ?_;refine KU hS Df h (fun x5 x6 x7=>⟨[(48,pN x7),(47,pN (y1.1.On.n:Int)),(46,.p (vSl 1 (cL 1 (cI .i64)) y1.1.On)),(6,.vec 45000),(5,.vec 41000),(3,.reg 4000 0)],[(45000,.fam X5 x6.n 7501 none),(41000,.vec D4 1 x5.n (fun i=>cI .i64 (x5.g i)) false),(7501,.rows x6.n (fun i=>KV D4 1 (cI .i64) (x6.g i))),(4000,.cells ((B1 y1.1).map .p))]⟩) (ids:=[(4000,4000),(7501,46901),(41000,41000),(45000,45000)]) (fun _ _ _ _ _ self3 x5 x6 x7 hb4 h=>?_);apply kI hS h<;>intro h
 .obtain⟨c47,h⟩:=E8 h;refine KU hS c47 h (fun j d f=>⟨[(55,pN f),(54,pN ((y1.1.On.g x7.toNat).n:Int)),(53,.p (vSl 1 (cI .i64) (y1.1.On.g x7.toNat))),(48,pN x7),(47,pN (y1.1.On.n:Int)),(46,.p (vSl 1 (cL 1 (cI .i64)) y1.1.On)),(7,pN x7),(6,.vec 45000),(5,.vec 41000),(3,.reg 4000 0)],[(45000,.fam X5 d.n 7500 none),(41000,.vec D4 1 j.n (fun i=>cI .i64 (j.g i)) false),(7500,.rows d.n (fun i=>KV D4 1 (cI .i64) (d.g i))),(4000,.cells ((B1 y1.1).map .p))]⟩) (ids:=[(4000,4000),(7500,7501),(41000,41000),(45000,45000)]) (fun _ _ _ _ _ self4 j d f a1 h=>?_);apply kI hS h<;>intro h
  .obtain⟨c61,h⟩:=E8 h;obtain⟨c62,h⟩:=E8 h;refine Jf hS c61 59 (.take 45000 x7.toNat 60801) (⟨⟨by decide,rfl⟩,c62⟩:(1000<=60801/\d.n=d.n)/\x7.toNat<d.n) ?_;obtain⟨c63,h⟩:=E8 h;refine D9 hS c63 (b:=decide ((j.g ((y1.1.On.g x7.toNat).g f.toNat).toNat)<0)) (fun c64=>?_) (fun c64=>?_)
   .replace h:=itT c64 h;obtain⟨c65,h⟩:=E8 h;refine I7 hS (And.intro (And.intro (And.intro (And.intro (And.intro (And.intro (And.intro c65.1.1.1.1 (And.intro (rfl:(1:Nat)=1) (And.intro c65.1.1.1.2 (by decide:(1:Nat)<=1)))) c65.1.1.2) (And.intro c62 (rfl:x7.toNat=x7.toNat))) (rfl:true=true)) c65.1.2) c65.2) (And.intro c62 (rfl:x7.toNat=x7.toNat))) 78 ⟨[(55,pN f),(54,pN ((y1.1.On.g x7.toNat).n:Int)),(53,.p (vSl 1 (cI .i64) (y1.1.On.g x7.toNat))),(48,pN x7),(47,pN (y1.1.On.n:Int)),(46,.p (vSl 1 (cL 1 (cI .i64)) y1.1.On)),(7,pN x7),(6,.vec 45000),(5,.vec 41000),(3,.reg 4000 0)],[(77000,.vec D4 1 ((d.g x7.toNat).push ((y1.1.On.g x7.toNat).g f.toNat)).n (fun i=>cI .i64 (((d.g x7.toNat).push ((y1.1.On.g x7.toNat).g f.toNat)).g i)) false),(45000,.fam X5 d.n 7500 (some (x7.toNat,.vec 77000))),(41000,.vec D4 1 (j.upd ((y1.1.On.g x7.toNat).g f.toNat).toNat x7).n (fun i=>cI .i64 ((j.upd ((y1.1.On.g x7.toNat).g f.toNat).toNat x7).g i)) false),(7500,.rows d.n (fun l=>if l=x7.toNat then .dead else KV D4 1 (cI .i64) (d.g l))),(4000,.cells ((B1 y1.1).map .p))]⟩ (ids:=[(4000,4000),(7500,7500),(41000,41000),(45000,45000),(77000,77000)]) ?_ (hle:=klR [(7,.fn ((d.g x7.toNat).n+1) ((d.g x7.toNat).push ((y1.1.On.g x7.toNat).g f.toNat)).n (AP (d.g x7.toNat).n (fun i=>cI .i64 ((d.g x7.toNat).g i)) (D3 [pI .i64 0] [(0,cI .i64 ((y1.1.On.g x7.toNat).g f.toNat))])) (fun i=>cI .i64 (((d.g x7.toNat).push ((y1.1.On.g x7.toNat).g f.toNat)).g i))),(10,.fn j.n (j.upd ((y1.1.On.g x7.toNat).g f.toNat).toNat x7).n (fun l=>if l=((y1.1.On.g x7.toNat).g f.toNat).toNat then splice ((fun i=>cI .i64 (j.g i)) l) 0 [pI .i64 x7]else (fun i=>cI .i64 (j.g i)) l) (fun i=>cI .i64 ((j.upd ((y1.1.On.g x7.toNat).g f.toNat).toNat x7).g i)))] (al1 ⟨rfl,LI (c:=cI .i64) (v:=d.g x7.toNat) (x:=(y1.1.On.g x7.toNat).g f.toNat) (z:=[(pI .i64 0)]) same rfl rfl⟩ (al1 ⟨rfl,AB3 (c:=cI .i64) (v:=j) (x:=x7) same (fun _=>by first|rfl|(dsimp only;split<;>rfl))⟩ al0)));refine Jf hS Df 78 (.put 45000 79911) (⟨⟨by decide,rfl⟩,c62⟩:(1000<=79911/\d.n=d.n)/\x7.toNat<d.n) ?_;exact a1 _ [(4000,4000),(7500,79911),(41000,41000),(45000,45000)] _ (j.upd ((y1.1.On.g x7.toNat).g f.toNat).toNat x7) (d.upd x7.toNat ((d.g x7.toNat).push ((y1.1.On.g x7.toNat).g f.toNat))) (wrap .i64 (f+1)) Df h (hle:=klR [(10,.ob d.n (fun q=>if q=x7.toNat then KV D4 1 (cI .i64) ((d.g x7.toNat).push ((y1.1.On.g x7.toNat).g f.toNat))else if q=x7.toNat then .dead else KV D4 1 (cI .i64) (d.g q)) (fun i=>KV D4 1 (cI .i64) ((d.upd x7.toNat ((d.g x7.toNat).push ((y1.1.On.g x7.toNat).g f.toNat))).g i)))] (al1 Au4 al0))
   replace h:=itF c64 h;refine Jf hS Df 78 (.put 45000 79911) (⟨⟨by decide,rfl⟩,c62⟩:(1000<=79911/\d.n=d.n)/\x7.toNat<d.n) ?_;exact a1 _ [(4000,4000),(7500,79911),(41000,41000),(45000,45000)] _ j (d.upd x7.toNat (d.g x7.toNat)) (wrap .i64 (f+1)) Df h (hle:=klR [(10,.ob d.n (fun q=>if q=x7.toNat then KV D4 1 (cI .i64) (d.g x7.toNat)else if q=x7.toNat then .dead else KV D4 1 (cI .i64) (d.g q)) (fun i=>KV D4 1 (cI .i64) ((d.upd x7.toNat (d.g x7.toNat)).g i)))] (al1 Au4 al0))
  exact hb4 _ [(4000,4000),(7501,7500),(41000,41000),(45000,45000)] _ j d (wrap .i64 (x7+1)) Df h
 refine Jf hS Df 80 (.pub 45000) (⟨rfl,fun i _=>rfl⟩:x6.n=x6.n/\∀i,i<x6.n->(XV (KV D4 1 (cI .i64) (x6.g i))).isSome=true) ?_;refine I7 hS Df 83 ⟨[(5,.vec 41000),(3,.reg 4000 0)],[(41000,.vec D4 1 x5.n (fun i=>cI .i64 (x5.g i)) false),(4000,.cells [.p (vSl 2 D6 y1.1.Tree),.p (vSl 18 B5 y1.1.Laws),.p (vSl 1 (cL 1 (cI .i64)) x6)])]⟩ (ids:=[(4000,4000),(41000,41000)]) ?_ (hle:=klR [(3,.fn x6.n x6.n (fun i=>[(XV (KV D4 1 (cI .i64) (x6.g i))).getD default]) (fun i=>cL 1 (cI .i64) (x6.g i)))] (al1 ⟨rfl,fun _ _=>rfl⟩ al0));refine kC hS h (Ei hS hL) (fun y6 h=>?_);refine kC hS h (Jg hS hL) (fun y7 h=>?_);apply kI hS h<;>intro h
 .cases h;exact kR hS
 apply kI hS h<;>intro h
 .refine Ef hS Df (A5 hS) h 0 (fun z2=>⟨[(2,pB z2)],[]⟩) (fun M2 k2 a2 h=>?_) (fun z2 h=>?_)
  .refine kG hS h (fun h=>?_) (fun h=>?_)
   .refine kC hS h (F7 hS hL) (fun y9 h=>?_);exact a2 _ [] _ y9 Df h
   exact a2 _ [] _ false Df h
  cases h;exact kR hS
 refine Ef hS Df (A5 hS) h 0 (fun z3=>⟨[(125,pB z3),(13,.vec 91000),(11,.reg 12000 0),(5,.vec 41000),(3,.reg 4000 0)],[(91000,.vec D4 1 y7.1.n (fun i=>cI .i64 (y7.1.g i)) true),(41000,.vec D4 1 x5.n (fun i=>cI .i64 (x5.g i)) false),(12000,.cells [pN y6.1.Langs,.p (vSl 1 (cI .u64) y6.1.Has)]),(4000,.cells [.p (vSl 2 D6 y1.1.Tree),.p (vSl 18 B5 y1.1.Laws),.p (vSl 1 (cL 1 (cI .i64)) x6)])]⟩) (fun M3 k3 u h=>?_) (fun z3 h=>?_)
 .refine kG hS h (fun h=>?_) (fun h=>?_)
  .exact u _ [(4000,4000),(12000,12000),(41000,41000),(91000,91000)] _ true Df h
  refine kC hS h (P9 hS hL) (fun y11 h=>?_);refine kG hS h (fun h=>?_) (fun h=>?_)
  .exact u _ [(4000,4000),(12000,12000),(41000,41000),(91000,91000)] _ true Df h
  refine kG hS h (fun h=>?_) (fun h=>?_)
  .exact u _ [(4000,4000),(12000,12000),(41000,41000),(91000,91000)] _ true Df h
  exact u _ [(4000,4000),(12000,12000),(41000,41000),(91000,91000)] _ ((y6.1.Has.n:Int) != (y1.1.Laws.n:Int)) Df h
 apply kI hS h<;>intro h
 .cases h;exact kR hS
 refine kC hS h (Cd hS hL) (fun a3 h=>?_);refine kB hS (A5 hS) Df Df 4 (.o (.a (a3.2 != 0)) (.a ((a3.1.n:Int) != 0))) ?_;apply kI hS h<;>intro h
 .cases h;exact kR hS
 refine N4 hS Df h (fun m=>⟨[(140,pN m),(139,pN (x5.n:Int)),(138,.vec 41000),(13,.vec 91000),(11,.reg 12000 0),(3,.reg 4000 0)],[(91000,.vec D4 1 y7.1.n (fun i=>cI .i64 (y7.1.g i)) true),(41000,.vec D4 1 x5.n (fun i=>cI .i64 (x5.g i)) false),(12000,.cells [pN y6.1.Langs,.p (vSl 1 (cI .u64) y6.1.Has)]),(4000,.cells [.p (vSl 2 D6 y1.1.Tree),.p (vSl 18 B5 y1.1.Laws),.p (vSl 1 (cL 1 (cI .i64)) x6)])]⟩) (ids:=[(4000,4000),(12000,12000),(41000,41000),(91000,91000)]) (fun _ _ _ _ _ a6 m a4 h=>?_);apply kI hS h<;>intro h
 .obtain⟨c133,h⟩:=E8 h;refine I8 hS c133 h (fun s r=>⟨[(147,pN r),(146,pN (y7.1.n:Int)),(145,.vec 91000),(140,pN m),(139,pN (x5.n:Int)),(138,.vec 41000),(19,.p (pI .u64 s)),(18,pN (x5.g m.toNat)),(17,pN m),(13,.vec 91000),(11,.reg 12000 0),(3,.reg 4000 0)],[(91000,.vec D4 1 y7.1.n (fun i=>cI .i64 (y7.1.g i)) true),(41000,.vec D4 1 x5.n (fun i=>cI .i64 (x5.g i)) false),(12000,.cells [pN y6.1.Langs,.p (vSl 1 (cI .u64) y6.1.Has)]),(4000,.cells [.p (vSl 2 D6 y1.1.Tree),.p (vSl 18 B5 y1.1.Laws),.p (vSl 1 (cL 1 (cI .i64)) x6)])]⟩) (ids:=[(4000,4000),(12000,12000),(41000,41000),(91000,91000)]) (fun _ _ _ _ _ a7 s r w h=>?_);apply kI hS h<;>intro h
  .obtain⟨c149,h⟩:=E8 h;refine N4 hS c149 h (fun t=>⟨[(147,pN r),(146,pN (y7.1.n:Int)),(145,.vec 91000),(140,pN m),(139,pN (x5.n:Int)),(138,.vec 41000),(22,pN t),(20,pN r),(19,.p (pI .u64 s)),(18,pN (x5.g m.toNat)),(17,pN m),(13,.vec 91000),(11,.reg 12000 0),(3,.reg 4000 0)],[(91000,.vec D4 1 y7.1.n (fun i=>cI .i64 (y7.1.g i)) true),(41000,.vec D4 1 x5.n (fun i=>cI .i64 (x5.g i)) false),(12000,.cells [pN y6.1.Langs,.p (vSl 1 (cI .u64) y6.1.Has)]),(4000,.cells [.p (vSl 2 D6 y1.1.Tree),.p (vSl 18 B5 y1.1.Laws),.p (vSl 1 (cL 1 (cI .i64)) x6)])]⟩) (ids:=[(4000,4000),(12000,12000),(41000,41000),(91000,91000)]) (fun _ _ _ _ _ a8 t a5 h=>?_);refine kB hS (A5 hS) Df Df 4 (.n (.a (decide (0<=(x5.g m.toNat)))) (.a (decide ((x5.g m.toNat)<t)))) ?_;apply kI hS h<;>intro h
   .obtain⟨c153,h⟩:=E8 h;exact a5 _ [(4000,4000),(12000,12000),(41000,41000),(91000,91000)] _ (y1.1.Tree.g t.toNat).Parent c153 h
   refine kB hS (A5 hS) Df Df 4 (.n (.a (decide (0<=(x5.g m.toNat)))) (.a (t==(x5.g m.toNat)))) ?_;apply kI hS h<;>intro h
   .obtain⟨c155,h⟩:=E8 h;exact w _ [(4000,4000),(12000,12000),(41000,41000),(91000,91000)] _ (E3 .or .u64 s (shI .shl .u64 1 r)) (wrap .i64 (r+1)) c155 h
   exact w _ [(4000,4000),(12000,12000),(41000,41000),(91000,91000)] _ s (wrap .i64 (r+1)) Df h
  obtain⟨c156,h⟩:=E8 h;refine D9 hS c156 (b:=(y6.1.Has.g m.toNat) != s) (fun c157=>?_) (fun c157=>?_)
  .replace h:=itT c157 h;cases h;exact kR hS
  replace h:=itF c157 h;exact a4 _ [(4000,4000),(12000,12000),(41000,41000),(91000,91000)] _ (wrap .i64 (m+1)) Df h
 refine kC hS h (F7 hS hL) (fun y13 h=>?_);cases h;exact kR hS
end Go.AM
namespace Go.AM
set_option maxRecDepth 1000000
def LK:D0 4194304=some true:=by decide +kernel
end Go.AM
namespace Go.AM
open IntKind (wrap)
open Go.Proofs
def FI {A R:Type}{body:(A->Option R)->A->Option R}(I:Nat->A->Prop)(n:Nat)(I2:R->Prop)
 (b:∀self i a,i<=n->I i a->(i<n->∀a',I (i+1) a' -> ∃r,self a' = some r/\I2 r)->∃r,body self a=some r/\I2 r) :
 ∀(N i:Nat) (a:A),i<=n->I i a->n-i<N->∃r,Y1 N body a=some r/\I2 r
 |0,_,_,_,_,h=>by omega
 |N+1,i,a,hi,hI,h=>by rw[Q9];exact b _ i a hi hI fun c a' d=>FI I n I2 b N (i+1) a' c d (by omega)
def F8 {A R:Type}{body:(A->Option R)->A->Option R}(I:Nat->A->Prop)(n:Nat)(I2:R->Prop){N:Nat}(c:n<N){a:A}(d:I 0 a)
 (b:∀self i a,i<=n->I i a->(i<n->∀a',I (i+1) a' -> ∃r,self a' = some r/\I2 r)->∃r,body self a=some r/\I2 r):∃r,Y1 N body a=some r/\I2 r:=
 FI I n I2 b N 0 a (AT8 _) d c
def D8 {A B R:Type}{body:(A->B->Option R)->A->B->Option R}(I:Nat->A->B->Prop)(n:Nat)(I2:R->Prop){N:Nat}(g:n<N){a:A}{b:B}(j:I 0 a b)
 (d:∀c i a b,i<=n->I i a b->(i<n->∀a' b',I (i+1) a' b' -> ∃r,c a' b' = some r/\I2 r)->∃r,body c a b=some r/\I2 r):∃r,BC N body a b=some r/\I2 r:=
 FI (fun i x=>I i x.1 x.2) n I2 (fun c i x l m h=>d (fun a b=>c (a,b)) i x.1 x.2 l m fun hl a' b' f=>h hl (a',b') f) N 0 (a,b) (AT8 _) j g
def Au5 {A B C R:Type}{body:(A->B->C->Option R)->A->B->C->Option R}(I:Nat->A->B->C->Prop)(n:Nat)(I2:R->Prop){N:Nat}(j:n<N){a:A}{b:B}{c:C}(l:I 0 a b c)
 (f:∀d i a b c,i<=n->I i a b c->(i<n->∀a' b' c',I (i+1) a' b' c' -> ∃r,d a' b' c' = some r/\I2 r)->∃r,body d a b c=some r/\I2 r):∃r,Ag7 N body a b c=some r/\I2 r:=
 FI (fun i x=>I i x.1 x.2.1 x.2.2) n I2 (fun d i x m o h=>f (fun a b c=>d (a,b,c)) i x.1 x.2.1 x.2.2 m o fun hl a' b' c' g=>h hl (a',b',c') g) N 0 (a,b,c) (AT8 _) l j
def A7 {X R:Type}{Q:R->Prop}{o:Option X}{f:X->Option R}{x:X}(h:o=some x)(a:∃r,f x=some r/\Q r):∃r,o.bind f=some r/\Q r:=by subst h;exact a
def P0 {R A:Type}{Q:R->Prop}{k:A->Option R}{f:(A->Option R)->Option R}(h:∃r,f k=some r/\Q r):∃r,lt k f=some r/\Q r:=h
def A0 {R:Type}{Q:R->Prop}{p:Prop}[Decidable p]{a b:Option R}(h:p)(c:∃r,a=some r/\Q r):∃r,(if p then a else b)=some r/\Q r:=by rw[Az h];exact c
def A2 {R:Type}{Q:R->Prop}{p:Prop}[Decidable p]{a b:Option R}(h:¬p)(c:∃r,b=some r/\Q r):∃r,(if p then a else b)=some r/\Q r:=by rw[Bb h];exact c
def F9 {n:Int}(h : -9223372036854775808<=n)(h' : n<=9223372036854775807):IntKind.i64.wrap n=n:=by
 by_cases a:0<=n
 .have h1:n % (2 ^ 64:Int)=n:=AS0 a (by omega);unfold wrap;simp only[IntKind.bits,IntKind.signed,h1];rw[Bb];simp;omega
 have h1:n % (2 ^ 64:Int)=n+2 ^ 64:=by rw[<- Bk3];exact AS0 (by omega) (by omega)
 unfold wrap;simp only[IntKind.bits,IntKind.signed,h1];rw[Az]
 .omega
 simp;omega
def B0 {i:Nat}(h:i<1000000000000000000):IntKind.i64.wrap ((i:Int)+1)=((i+1:Nat):Int):=by rw[F9 (by omega) (by omega)];rfl
def Aa{i:Nat}(h:i<1000000000000000000:=by omega):IntKind.i64.wrap ((i:Int)+1)=((i+1:Nat):Int):=B0 h
def ME {i:Nat}(a:1<=i)(h:i<1000000000000000000):IntKind.i64.wrap ((i:Int)-1)=((i-1:Nat):Int):=by rw[F9 (by omega) (by omega)];omega
def AC5 {i j:Nat}(h:i+j<1000000000000000000):IntKind.i64.wrap ((i:Int)+(j:Int))=((i+j:Nat):Int):=by rw[F9 (by omega) (by omega)];rfl
end Go.AM
namespace Go.AM
variable {N:Nat}
open IntKind (wrap)
open Go.Proofs
def FJ {α : Type}(s:Sl α)(a : α):(s.push a).toList=s.toList++[a]:=by
 unfold Sl.toList;rw[AN5,AR5];congr 1
 .exact AN1 fun i b=>by rw[AL7]at b;show (if i<s.n then s.g i else a)=s.g i;rw[Az b]
 show [if s.n<s.n then s.g s.n else a]=[a];rw[Ay]
def GW {α : Type}(s:Sl α):s.toList.length=s.n:=by simp[Sl.toList]
def Jh (t:A3):Prop:=t.Has.n<=100/\∀i,i<t.Has.n->∃x:BitVec 64,t.Has.g i=U x
def I3 (t:A3)(i:Nat):BitVec 64:=BitVec.ofNat 64 (t.Has.g i).toNat
def II {t:A3}(h:Jh t){i:Nat}(a:i<t.Has.n):t.Has.g i=U (I3 t i):=by obtain⟨x,e⟩:=h.2 i a;rw[I3,e];show U x=U (BitVec.ofNat 64 (x.toNat:Int).toNat);rw[AK2];simp
def Fe (L:Nat):BitVec 64:=BitVec.ofNat 64 (2 ^ L-1)
def OG {L k:Nat}(hk:k<64):(Fe L).getLsbD k=decide (k<L):=by unfold Fe;rw[Bi5];simp[hk,Bc3]
def OH {t:A3}{L:Nat}(hL:t.Langs=L)(h:L<=32):G7 N t=some (U (Fe L)):=by
 unfold G7;rw[hL,Aw,Mz L (by omega)];have a:2 ^ L<=2 ^ 32:=AU5 (by decide) h;have b:0<2 ^ L:=Nat.pow_pos (by decide);have h1:(1#64 <<< L).toNat=2 ^ L:=by rw[AW3,Bb6];simp only[AT3];omega
 have e:U (1#64 <<< L)-1=((2 ^ L-1:Nat):Int):=by show (((1#64 <<< L).toNat:Nat):Int)-1=_;rw[h1];omega
 rw[e,Y2 (by omega)];show some ((2 ^ L-1:Nat):Int)=some (((BitVec.ofNat 64 (2 ^ L-1)).toNat:Nat):Int);rw[AT3,AQ9 (by omega)]
def OI {s:Sl Int}{f:Int->Option Bool}{p:Nat->Bool}(hn:s.n<N)(hb:s.n<1000000)(m:∀i,i<s.n->f (s.g i)=some (p i)) :∃r,Y1 N (fun b (x1:Int)=>
  if (decide (x1<(s.n:Int))) then
   if ((0:Int)<=x1/\x1<(s.n:Int))then
    (f (s.g x1.toNat)).bind fun y3=>
    if y3 then some x1 else b (wrap .i64 (x1+1))
   else none
  else some (-1)) 0=some r/\(decide (0<=r)=(List.range s.n).any p):=by
 refine F8 (fun i x=>x=(i:Int)/\∀j,j<i->p j=false) s.n _ hn ⟨rfl,fun j d=>Bc d (by omega)⟩ ?_;rintro l i x o ⟨rfl,hp⟩ hs;by_cases c:i<s.n
 .refine A0 (by simp;omega) (A0 (by omega) ?_);rw[AK2];refine A7 (m i c) ?_;by_cases a:p i=true
  .refine A0 a ⟨_,rfl,?_⟩;rw[decide_eq_true (by omega),eq_comm,AR7];exact⟨i,AL7.2 c,a⟩
  refine A2 a (hs c _ ⟨Aa,fun j d=>?_⟩);by_cases e:j=i
  .subst e;simpa using a
  exact hp j (by omega)
 refine A2 (by simp;omega) ⟨_,rfl,?_⟩;rw[decide_eq_false (by decide),eq_comm,AV7];intro j d;rw[AL7]at d;simp[hp j (by omega)]
def HZ {s:Sl Int}{f:Int->Option Bool}{p:Nat->Bool}(hn:s.n<N)(hb:s.n<1000000)(a:∀i,i<s.n->f (s.g i)=some (p i)) :B4 N s f=some ((List.range s.n).any p):=by obtain⟨r,h1,b⟩:=OI hn hb a;unfold B4 E1;rw[h1];show some (decide (0<=r))=_;rw[b]
def Di (p:Nat->Bool)(n:Nat):List Int:=((List.range n).filter p).map fun (i:Nat)=>(i:Int)
def QF (p:Nat->Bool)(n:Nat):Di p (n+1)=Di p n++if p n then [(n:Int)]else []:=by
 unfold Di;rw[AN5,AY8,AR5];congr 1;by_cases h:p n=true
 .simp[h]
 simp[h]
def KW (p:Nat->Bool):∀n,(Di p n).length<=n
 |0=>by simp[Di]
 |n+1=>by rw[QF,AL4];have:=KW p n;split<;>simp<;>omega
def Gw {t:A3}{q:Int->Option Bool}{p:Nat->Bool}(hb:t.Has.n<1000000)(b:∀i,i<t.Has.n->q (t.Has.g i)=some (p i)) :∀(k i:Nat),i+k=t.Has.n->∀N,k<N->Y1 N (fun a (x1:Int)=>
  if (decide (x1<(t.Has.n:Int))) then
   if ((0:Int)<=x1/\x1<(t.Has.n:Int))then
    (q (t.Has.g x1.toNat)).bind fun y3=>
    if y3 then GM x1 (a (wrap .i64 (x1+1)))else a (wrap .i64 (x1+1))
   else none
  else some []) (i:Int)=some (((List.range' i k).filter p).map fun (i:Nat)=>(i:Int))
 |0,i,hi,N+1,_=>by rw[Q9,Bb (by simp;omega)];rfl
 |k+1,i,hi,N+1,hN=>by
  rw[Q9,Az (by simp;omega),Aw,AK2,b i (by omega)];show (if p i then _ else _)=_;rw[Aa,Gw hb b k (i+1) (by omega) N (by omega),Bf9];by_cases h:p i=true
  .rw[Az h,Be7 h];rfl
  rw[Bb h,Be9 h]
def MF {t:A3}{q:Int->Option Bool}{p:Nat->Bool}(hn:t.Has.n<N)(hb:t.Has.n<1000000)(a:∀i,i<t.Has.n->q (t.Has.g i)=some (p i)) :C8 N t q=some (Di p t.Has.n):=by
 have:=Gw hb a t.Has.n 0 (by omega) N hn
 rw[<- Bb9]at this;exact this
end Go.AM
namespace Go.AM
open Go.Proofs
def Ff (x:BitVec 64):Nat->Nat
 |0=>0
 |L+1=>Ff x L+if x.getLsbD L then 1 else 0
def MG {x:BitVec 64}:∀{L:Nat},Ff x L=0 ↔ ∀k,k<L->x.getLsbD k=false
 |0=>⟨fun _ k hk=>Bc hk (by omega),fun _=>rfl⟩
 |L+1=>by
  simp only[Ff];constructor
  .intro h k hk;by_cases e:k=L
   .subst e;cases hb:x.getLsbD k with
    |true=>simp[hb]at h
    |false=>rfl
   have h1:Ff x L=0:=by omega
   exact MG.1 h1 k (by omega)
  intro h;rw[MG.2 fun k hk=>h k (by omega),h L (by omega)];rfl
def KX {x:BitVec 64}:U x=0↔x=0#64:=⟨fun h=>AP3 (by have:(x.toNat:Int)=0:=h;simp;omega),fun h=>by subst h;rfl⟩
def DC {x:BitVec 64}:x=0#64 ↔ ∀k,k<64->x.getLsbD k=false:=
 ⟨fun h k _=>by subst h;simp,fun h=>OE fun b hb=>by rw[h b hb];simp⟩
def Fg (L:Nat)(x:BitVec 64):Prop:=∀k,L<=k->k<64->x.getLsbD k=false
def Zr {L:Nat}{x:BitVec 64}(hs:Fg L x)(hL:L<=64):x=0#64↔Ff x L=0:=by rw[DC,MG];exact⟨fun h k hk=>h k (by omega),fun h k hk=>by by_cases h1:k<L;exact h k h1;exact hs k (by omega) hk⟩
def Q7 (f:Nat->Bool)(L:Nat):Bool:=(List.range L).any f
def GX {L:Nat}{x:BitVec 64}(hs:Fg L x)(hL:L<=64):(U x==0) = !Q7 x.getLsbD L:=by
 rw[AM9,beq_iff_eq,KX,AL6,DC,Q7,AV7];exact⟨fun h k hk=>by rw[h k (by have:=AL7.1 hk;omega)];simp,fun h k hk=>by
  by_cases h1:k<L
  .simpa using h k (AL7.2 h1)
  exact hs k (by omega) hk⟩
def An (L:Nat)(x y:BitVec 64):Bool:=((!Q7 (fun k=>x.getLsbD k&&y.getLsbD k) L)||(!Q7 (fun k=>x.getLsbD k && !y.getLsbD k) L))||(!Q7 (fun k=>(!x.getLsbD k)&&y.getLsbD k) L)
def CN {f g:Nat->Bool}{L:Nat}(h:∀k,k<L->f k=g k):Q7 f L=Q7 g L:=by unfold Q7;rw[AM9,AR7,AR7];exact⟨fun⟨k,h1,a⟩=>⟨k,h1,by rw[<- h k (AL7.1 h1)];exact a⟩,fun⟨k,h1,a⟩=>⟨k,h1,by rw[h k (AL7.1 h1)];exact a⟩⟩
def QG {N L:Nat}{x y:BitVec 64}(hx:Fg L x)(hy:Fg L y)(hL:L<=64):V4 N (U x) (U y)=some (An L x y):=by
 unfold V4 An;rw[UE,EA,EA,GX (L:=L) (fun k h1 a=>by simp[hx k h1 a]) hL,GX (L:=L) (fun k h1 a=>by simp[hx k h1 a]) hL,GX (L:=L) (fun k h1 a=>by simp[hy k h1 a]) hL];rw[CN (f:=(x &&& y).getLsbD) (g:=fun k=>x.getLsbD k&&y.getLsbD k) fun k _=>by simp,
  CN (f:=(x &&& ~~~ y).getLsbD) (g:=fun k=>x.getLsbD k && !y.getLsbD k) fun k hk=>by simp[show k<64 by omega],
  CN (f:=(y &&& ~~~ x).getLsbD) (g:=fun k=>(!x.getLsbD k)&&y.getLsbD k) fun k hk=>by simp[show k<64 by omega,AZ0]]
end Go.AM
namespace Go.AM
open Go.Proofs
def MH (t:A3)(L:Nat):Prop:=t.Langs=L/\L<=32/\t.Has.n<=64/\∀i,i<t.Has.n->Fg L (I3 t i)
end Go.AM
namespace Go.AM
open Go.Proofs
def W7 (H0:Nat->Nat->Bool)(i m:Nat):List C4:=((List.range m).filter fun j=>decide (i<j)&&H0 i j).map fun (j:Nat)=>⟨(i:Int),(j:Int)⟩
def GY (H0:Nat->Nat->Bool)(i m:Nat):W7 H0 i (m+1)=W7 H0 i m++if (decide (i<m)&&H0 i m) then [⟨(i:Int),(m:Int)⟩]else []:=by
 unfold W7;rw[AN5,AY8,AR5];congr 1;by_cases h:(decide (i<m)&&H0 i m)=true
 .simp only[AS6,Bc5,h,Bq,AM0,AS9]
 rw[AT9]at h;simp only[AS6,Bc5,h,AK8,Cj,AS9]
def Id (H0:Nat->Nat->Bool)(i:Nat):∀m,(W7 H0 i m).length<=m
 |0=>by simp[W7]
 |m+1=>by rw[GY,AL4];have:=Id H0 i m;split<;>simp<;>omega
def QH (H0:Nat->Nat->Bool)(i m:Nat):((Di (H0 i) m).filter fun x=>decide ((i:Int)<x)).map (fun x=>(⟨(i:Int),x⟩:C4))=W7 H0 i m:=by unfold Di W7;rw[List.filter_map,AS7,Bk5];congr 1;refine List.filter_congr fun j a=>?_;show (decide ((i:Int)<(j:Int))&&H0 i j)=_;congr 1;rw[AM9];simp
def Y8 (H0:Nat->Nat->Bool)(n:Nat):Nat->List C4
 |0=>[]
 |i+1=>Y8 H0 n i++W7 H0 i n
def Ie (H0:Nat->Nat->Bool)(n:Nat):∀i,(Y8 H0 n i).length<=i*n
 |0=>by simp[Y8]
 |i+1=>by
  rw[Y8,AL4,AY7]
  have:=Ie H0 n i;have:=Id H0 i n;omega
def DD:∀(M:List Int) (i:Nat) (z:Sl C4) (k:Sl C4->Option (Sl C4×Int)) (Q:Sl C4×Int->Prop),z.n+M.length<1000000 ->
 (∀z' : Sl C4,z'.toList=z.toList++((M.filter fun x=>decide ((i:Int)<x)).map fun x=>(⟨(i:Int),x⟩:C4))->∃r,k z' = some r/\Q r) ->
 ∃r,X0 M (fun a (x7:Int) (z3:Sl C4)=>
  if (decide ((i:Int)<x7)) then
   if ((z3.n+(Sl.of [(⟨(i:Int),x7⟩:C4)]:Sl C4).n)*16<=140737488355328/\z3.n+(Sl.of [(⟨(i:Int),x7⟩:C4)]:Sl C4).n<=140737488355328)then
    a (z3.push (⟨(i:Int),x7⟩:C4))
   else none
  else a z3) k z=some r/\Q r
 |[],i,z,k,Q,_,hk=>hk z (by simp)
 |x::M,i,z,k,Q,hl,hk=>by
  simp only[AN3]at hl;by_cases hx:(decide ((i:Int)<x))=true
  .show ∃r,(if (decide ((i:Int)<x)) then _ else _)=some r/\Q r;refine A0 hx (A0 (by show (z.n+1)*16<=_/\z.n+1<=_;omega) (DD M i (z.push ⟨i,x⟩) k Q (by show z.n+1+_<_;omega) fun z' b=>hk z' ?_));rw[b,FJ];simp only[AS6,hx,Bq,AM0,AR0,AN4,AW7]
  show ∃r,(if (decide ((i:Int)<x)) then _ else _)=some r/\Q r;refine A2 hx (DD M i z k Q (by omega) fun z' b=>hk z' ?_);rw[AT9]at hx;rw[b];simp only[AS6,hx,AK8,Cj]
end Go.AM
namespace Go.AM
open Go.Proofs
def Ig {N L:Nat}{t:A3}(f:1000<=N)(h:Jh t)(d:MH t L):F2 N t=some 0:=by
 obtain⟨hL,b,hn,hs⟩:=d;have h1:B4 N t.Has (fun (u1:Int)=>R0 N u1 t)=some ((List.range t.Has.n).any fun i=>U (I3 t i &&& ~~~ Fe L) != 0):=
  HZ (by omega) (by omega) fun i c=>by unfold R0;rw[OH hL b,II h c];show some _=_;rw[EA]
 have a:((List.range t.Has.n).any fun i=>U (I3 t i &&& ~~~ Fe L) != 0)=false:=by
  rw[AV7];intro i c
  have:=hs i (AL7.1 c)
  rw[bne_iff_ne,Ne,KX,DC,Bb2];intro k a;rw[AO7,AZ2,OG a];by_cases h1:k<L
  .simp[h1]
  simp[this k (by omega) a]
 unfold F2;rw[Bb (by simp;omega),Bb (by simp;omega),h1,a];rfl
end Go.AM
namespace Go.AM
open Go.Proofs
def Ag8 {f:Nat->Bool}{L:Nat}:Q7 f L=true ↔ ∃k,k<L/\f k=true:=by unfold Q7;rw[AR7];simp only[AL7]
end Go.AM
namespace Go.AM
variable {N:Nat}
open Go.Proofs
def okS (s:Eg):Prop:=∃p m:BitVec 32,s=sOf p m
def eq0 (x:BitVec 32):((x.toNat:Int)==0)=decide (x=0#32):=by
 rw[AM9];simp only[beq_iff_eq,De];constructor
 .intro h;apply AP3;show x.toNat=0;omega
 rintro rfl;rfl
def z32 (x:BitVec 32):x=0#32 ↔ ∀i,i<32->x.getLsbD i=false:=by
 constructor
 .rintro rfl i a;simp
 intro h;apply AP7;intro i a;rw[h i a];simp
def AC6 (x:BitVec 32)(i:Nat):(E3 .and .u32 (shI .shr .u32 (x.toNat:Int) (i:Int)) 1==1)=x.getLsbD i:=by
 rw[Aq7,show (1:Int)=((1#32).toNat:Int) from rfl,Mn];have h:(x >>> i &&& 1#32)=(BitVec.ofBool (x.getLsbD i)).setWidth 32:=by
  apply AP7;intro j b;simp only[AO7,Bd3,Bf1,Bh2];by_cases a:j=0
  .subst a;simp
  have:(1#32).getLsbD j=false:=by rw[Bd8];simp[a]
  simp[this,a]
 rw[h];cases x.getLsbD i<;>rfl
def MI (x:BitVec 32):x.toNat<16777216 ↔ ∀i,24<=i->i<32->x.getLsbD i=false:=by
 constructor
 .intro h i a b;exact Bg8 (AM6 h (AU5 (n:=2) (i:=24) (by omega) a))
 intro h;refine Nat.lt_pow_two_of_testBit (n:=24) _ fun i a=>?_;by_cases c:i<32
 .exact h i a c
 exact Bg8 (AM6 x.isLt (AU5 (by omega) (by omega)))
def Wj (p m:BitVec 32):vB p m=true ↔ ∀i,i<32->¬(p.getLsbD i=true/\m.getLsbD i=true)/\(24<=i->p.getLsbD i=false/\m.getLsbD i=false):=by rw[vB,De];exact⟨fun h i a=>h ⟨i,a⟩,fun h i=>h i.1 i.2⟩
def Wk (p m:BitVec 32):p &&& m=0#32 ↔ ∀i,i<32->¬(p.getLsbD i=true/\m.getLsbD i=true):=by rw[z32];refine forall_congr' fun i=>forall_congr' fun a=>?_;rw[AO7,Bh4];cases p.getLsbD i<;>cases m.getLsbD i<;>simp
def AC7 (p m:BitVec 32):vB p m=true↔p &&& m=0#32/\(p ||| m).toNat<16777216:=by
 rw[Wj,Wk,MI];constructor
 .intro h;refine⟨fun i a=>(h i a).1,fun i h1 b=>?_⟩
  have:=(h i b).2 h1
  rw[AU7,this.1,this.2];rfl
 rintro⟨h1,b⟩ i a;refine⟨h1 i a,fun c=>?_⟩
 have:=b i c a
 rw[AU7,AV4]at this;exact this
def AC8 (p m:BitVec 32):vB p m=true↔p &&& m=0#32/\p.toNat<16777216/\m.toNat<16777216:=by rw[Wj,Wk,MI,MI];exact⟨fun h=>⟨fun i a=>(h i a).1,fun i h1 b=>((h i b).2 h1).1,fun i h1 b=>((h i b).2 h1).2⟩,fun⟨h1,b,d⟩ i a=>⟨h1 i a,fun c=>⟨b i c a,d i c a⟩⟩⟩
def SD (p m:BitVec 32):H7 N (sOf p m)=some (vB p m):=by unfold H7;rw[Mn,Zm,eq0];congr 1;rw[AM9,AC7];simp only[AK5,De];exact⟨fun h=>⟨h.1,by have:=h.2;omega⟩,fun h=>⟨h.1,by have:=h.2;omega⟩⟩
def shr24 (x:BitVec 32):(shI .shr .u32 (x.toNat:Int) 24==0)=decide (x.toNat<16777216):=by
 rw[show (24:Int)=((24:Nat):Int) from rfl,Aq7,AM9];simp only[beq_iff_eq,De,AY5,AX9]
 have:=Nat.div_eq_zero_iff (a:=x.toNat) (b:=2 ^ 24)
 omega
def Zs (p m:BitVec 32):Cx N (sOf p m)=some (vB p m):=by unfold Cx;rw[Mn,Zm,eq0,shr24];congr 1;rw[AM9,AC7];simp only[AK5,De]
def Zt (p m:BitVec 32):Q1 N (sOf p m)=some (vB p m):=Zs (N:=N) p m
def XW (p m:BitVec 32):Y4 N (sOf p m)=some (vB p m):=by unfold Y4;rw[Mn,eq0];congr 1;rw[AM9,AC8];simp only[AK5,De];exact⟨fun h=>⟨h.1.1,by have:=h.1.2;omega,by have:=h.2;omega⟩,fun h=>⟨⟨h.1,by have:=h.2.1;omega⟩,by have:=h.2.2;omega⟩⟩
def PG (p m:BitVec 32)(n:1000<=N):Y3 N (sOf p m)=some (vB p m):=by
 suffices h:∃r,Y3 N (sOf p m)=some r/\r=vB p m by obtain⟨r,h,rfl⟩:=h;exact h
 unfold Y3;refine F8 (fun i x1=>x1=(i:Int)/\∀j,j<i->¬(p.getLsbD j=true/\m.getLsbD j=true)/\(24<=j->p.getLsbD j=false/\m.getLsbD j=false)) 32 _ (by omega) ⟨rfl,fun j d=>Bc d (by omega)⟩ ?_;rintro g i x1 o ⟨rfl,h1⟩ hs;by_cases hl:i<32
 .refine A0 (by simp;omega) (A0 (by omega) ?_);simp only[AC6];have e24:decide ((24:Int)<=(i:Int))=decide (24<=i):=decide_eq_decide.2 (by omega);rw[e24];by_cases hb:¬(p.getLsbD i=true/\m.getLsbD i=true)/\(24<=i->p.getLsbD i=false/\m.getLsbD i=false)
  .refine A2 ?_ (hs hl _ ⟨Aa,fun j d=>?_⟩)
   .intro h;obtain⟨l,f⟩:=hb;revert h l f;by_cases c:24<=i
    .intro h l f;obtain⟨a,b⟩:=f c;simp[a,b]at h
    cases p.getLsbD i<;>cases m.getLsbD i<;>simp[c]
   by_cases e:j=i
   .subst e;exact hb
   exact h1 j (by omega)
  refine A0 ?_ ⟨false,rfl,?_⟩
  .revert hb;by_cases c:24<=i
   .cases p.getLsbD i<;>cases m.getLsbD i<;>simp[c]
   cases p.getLsbD i<;>cases m.getLsbD i<;>simp[c]
  symm;rw[<- AT9,Wj];exact fun h=>hb (h i hl)
 refine A2 (by simp;omega) ⟨true,rfl,?_⟩;symm;rw[Wj];exact fun j d=>h1 j (by omega)
end Go.AM
namespace Go.AM
open Go.Proofs
def Ah1 {s:Eg}{p m:BitVec 32}(h:s=sOf p m):vS s↔vB p m=true:=by
 constructor
 .rintro⟨q,r,e,a⟩;rw[h]at e;have e1:(p.toNat:Int)=q.toNat:=congrArg Eg.Plus e;have e2:(m.toNat:Int)=r.toNat:=congrArg Eg.Minus e;rw[AP3 (show p.toNat=q.toNat by omega),AP3 (show m.toNat=r.toNat by omega)];exact a
 exact fun a=>⟨p,m,h,a⟩
def okPS:Pat->Prop
 |.nil=>True
 |.mk _ is _ _ _ n g=>okS is/\∀i,i<n->okPS (g i)
def okPS.is {p:Pat}(h:okPS p):okS p.Is:=by
 cases p with
 |nil=>exact⟨0#32,0#32,rfl⟩
 |mk _ is _ _ _ n g=>exact h.1
def okPS.L {p:Pat}(h:okPS p){i:Nat}(a:i<p.L.n):okPS (p.L.g i):=by
 cases p with
 |nil=>exact Bc a (by show ¬i<0;omega)
 |mk _ is _ _ _ n g=>exact h.2 i a
def Zu:∀k,chk k []
 |0=>rfl
 |_+1=>trivial
def UO:∀(k:Nat) (l:List Pat),chk k l->l.length<=k
 |0,l,h=>by rw[show l=[] from h];exact AK6 _
 |k+1,[],_=>AT8 _
 |k+1,p::l,⟨_,h⟩=>by
  have:=UO k _ h
  rw[AL4]at this;simp only[AN3];omega
def HP {α : Type}(s:Sl α):s.toList.length=s.n:=by simp[Sl.toList]
def Ah2 {N:Nat}{p:Pat}(hp:okS p.Is):∃e,Fb N p=some e/\(e=0↔OJ p):=by
 obtain⟨a,b,f⟩:=hp;have i:=Ah1 f;unfold Fb OJ;by_cases h1:0<=p.Kind/\p.Kind<=6
 case neg=>exact A0 (by simp;omega) ⟨2,rfl,by simp;omega⟩
 refine A2 (by simp;omega) ?_;have e0:((p.Is.Plus==0)&&(p.Is.Minus==0))=decide (p.Is.Plus=0/\p.Is.Minus=0):=by rw[AM9];simp
 rw[e0];by_cases c:p.Kind≠1->(p.Is.Plus=0/\p.Is.Minus=0)/\p.Not=false
 case neg=>
  refine A0 ?_ ⟨2,rfl,by simp[c]⟩;simp only[AK5,AN7,bne_iff_ne,ne_eq,AT9,decide_eq_false_iff_not];rw[Classical.not_imp]at c;refine⟨c.1,?_⟩;by_cases h:p.Is.Plus=0/\p.Is.Minus=0
  .right
   cases hn:p.Not
   .exact Bc ⟨h,hn⟩ c.2
   rfl
  exact .inl h
 refine A2 ?_ (P0 ?_)
 .simp only[AK5,AN7,bne_iff_ne,ne_eq,AT9,decide_eq_false_iff_not];rintro⟨g1,g2⟩;obtain⟨g3,g4⟩:=c g1;rcases g2 with g2|g2
  .exact g2 g3
  rw[g4]at g2;cases g2
 have rest:(p.Kind≠3->p.Kind≠4->p.Kind≠5->p.L.n=0)->∃e,(if ((p.Kind != 5)&&((p.Min != 0)||(p.Max != 0))) then some (2:Int)else
  lt (fun (z2:Bool)=>if z2 then some 2 else (Y4 N p.Is).bind fun y1=>if (!y1) then some 14 else some 0) fun k2=>
   if (p.Kind==5) then if (((p.L.n:Nat):Int) != 1) then k2 true else if (decide (p.Min<0)) then k2 true else if (decide (32<p.Min)) then k2 true else
    if (p.Max != (-1)) then if (decide (p.Max<p.Min)) then k2 true else k2 (decide (32<p.Max))else k2 false else k2 false)=some e /\
  (e=0↔(0<=p.Kind/\p.Kind<=6)/\(p.Kind≠1->(p.Is.Plus=0/\p.Is.Minus=0)/\p.Not=false)/\(p.Kind≠3->p.Kind≠4->p.Kind≠5->p.L.n=0)/\(p.Kind≠5->p.Min=0/\p.Max=0) /\
   (p.Kind=5->p.L.n=1/\0<=p.Min/\p.Min<=32/\(p.Max = -1 \/ (p.Min<=p.Max/\p.Max<=32)))/\vS p.Is):=by
  intro j;by_cases d:p.Kind≠5->p.Min=0/\p.Max=0
  case neg=>refine A0 ?_ ⟨2,rfl,by simp[d]⟩;rw[Classical.not_imp]at d;simp only[AK5,AN7,bne_iff_ne,ne_eq];omega
  refine A2 ?_ (P0 ?_)
  .simp only[AK5,AN7,bne_iff_ne,ne_eq];rintro⟨g1,g2⟩
   have:=d g1
   omega
  have last:(p.Kind=5->p.L.n=1/\0<=p.Min/\p.Min<=32/\(p.Max = -1 \/ (p.Min<=p.Max/\p.Max<=32)))->∃e,(if false then some (2:Int)else (Y4 N p.Is).bind fun y1=>if (!y1) then some 14 else some 0)=some e /\
   (e=0↔(0<=p.Kind/\p.Kind<=6)/\(p.Kind≠1->(p.Is.Plus=0/\p.Is.Minus=0)/\p.Not=false)/\(p.Kind≠3->p.Kind≠4->p.Kind≠5->p.L.n=0)/\(p.Kind≠5->p.Min=0/\p.Max=0) /\
    (p.Kind=5->p.L.n=1/\0<=p.Min/\p.Min<=32/\(p.Max = -1 \/ (p.Min<=p.Max/\p.Max<=32)))/\vS p.Is):=by
   intro g;refine A2 (by simp) ?_;rw[i,f,XW];refine A7 rfl ?_;cases l:vB a b
   .exact A0 rfl ⟨14,rfl,by simp⟩
   exact A2 (by simp) ⟨0,rfl,by rw[<- f];exact⟨fun _=>⟨h1,c,j,d,g,rfl⟩,fun _=>rfl⟩⟩
  have bad:¬(p.Kind=5->p.L.n=1/\0<=p.Min/\p.Min<=32/\(p.Max = -1 \/ (p.Min<=p.Max/\p.Max<=32)))->∃e,(if true then some (2:Int)else (Y4 N p.Is).bind fun y1=>if (!y1) then some 14 else some 0)=some e /\
   (e=0↔(0<=p.Kind/\p.Kind<=6)/\(p.Kind≠1->(p.Is.Plus=0/\p.Is.Minus=0)/\p.Not=false)/\(p.Kind≠3->p.Kind≠4->p.Kind≠5->p.L.n=0)/\(p.Kind≠5->p.Min=0/\p.Max=0) /\
    (p.Kind=5->p.L.n=1/\0<=p.Min/\p.Min<=32/\(p.Max = -1 \/ (p.Min<=p.Max/\p.Max<=32)))/\vS p.Is):=fun g=>A0 rfl ⟨2,rfl,⟨fun h=>Bc h (by decide),fun h=>Bc h.2.2.2.2.1 g⟩⟩
  by_cases k5:p.Kind=5
  .refine A0 (by simp[k5]) ?_;by_cases g1:p.L.n=1
   case neg=>exact A0 (by simp;omega) (bad fun h=>g1 (h k5).1)
   refine A2 (by simp;omega) ?_;by_cases g2:p.Min<0
   .exact A0 (by simpa using g2) (bad fun h=>by have:=h k5;omega)
   refine A2 (by simpa using g2) ?_;by_cases g3:32<p.Min
   .exact A0 (by simpa using g3) (bad fun h=>by have:=h k5;omega)
   refine A2 (by simpa using g3) ?_;by_cases g4:p.Max = -1
   .exact A2 (by simp[g4]) (last fun _=>⟨g1,by omega,by omega,.inl g4⟩)
   refine A0 (by simp[g4]) ?_;by_cases g5:p.Max<p.Min
   .exact A0 (by simpa using g5) (bad fun h=>by have:=h k5;omega)
   refine A2 (by simpa using g5) ?_;by_cases g6:32<p.Max
   .rw[decide_eq_true g6];exact bad fun h=>by have:=h k5;omega
   rw[decide_eq_false g6];exact last fun _=>⟨g1,by omega,by omega,.inr ⟨by omega,by omega⟩⟩
  exact A2 (by simp[k5]) (last fun h=>Bc h k5)
 by_cases k3:p.Kind=3
 .exact A2 (by simp[k3]) (A2 (by simp) (rest fun h=>Bc k3 h))
 refine A0 (by simp[k3]) ?_;by_cases k4:p.Kind=4
 .exact A2 (by simp[k4]) (A2 (by simp) (rest fun _ h=>Bc k4 h))
 refine A0 (by simp[k4]) ?_;by_cases k5:p.Kind=5
 .exact A2 (by simp[k5]) (A2 (by simp) (rest fun _ _ h=>Bc k5 h))
 refine A0 (by simp[k5]) ?_;by_cases hn:p.L.n=0
 .exact A2 (by simp;omega) (rest fun _ _ _=>hn)
 exact A0 (by simp;omega) ⟨2,rfl,⟨fun h=>Bc h (by decide),fun h=>Bc (h.2.2.1 k3 k4 k5) hn⟩⟩
def IJ {α : Type}(s:Sl α){i:Nat}(h:i<s.n):s.toList.drop i=s.g i::s.toList.drop (i+1):=by
 have hl:i<s.toList.length:=by rw[HP];exact h
 rw[AY1 hl];simp[Sl.toList]
def GZ {α : Type}(s:Sl α):s.toList.drop s.n=[]:=AR4 (by rw[HP];exact AK6 _)
def Zv {N:Nat}(o:1000<=N):∀(d:Nat),d<=40->∀(p:Pat),okPS p->∀M,N+d+1<=M->∃r,Dt M p ((40-d:Nat):Int)=some r /\
 ∃k:Nat,r.1=(k:Int)/\40-d<=k/\k<=40/\(r.2=0->40-d<k/\∀l,chk d (p::l)↔chk (40-k) l)/\(r.2≠0->∀l,¬chk d (p::l))
 |d,hd,p,hp,0,hM=>by omega
 |0,hd,p,hp,M+1,hM=>by show ∃r,Y6 (Dt M) M p _=some r/\_;unfold Y6;exact A0 (by simp) ⟨_,rfl,40,rfl,by omega,by omega,fun h=>Bc h (by decide),fun _ l h=>by cases h⟩
 |d+1,hd,p,hp,M+1,hM=>by
  show ∃r,Y6 (Dt M) M p _=some r/\_;unfold Y6;refine A2 (by simp;omega) ?_;obtain⟨e,q,hn⟩:=Ah2 (N:=M) hp.is;refine A7 q ?_;by_cases c:e=0
  case neg=>exact A0 (by simp[c]) ⟨_,rfl,40-(d+1),rfl,AK6 _,by omega,fun h=>Bc h c,fun _ l h=>c (hn.2 h.1)⟩
  refine A2 (by simp[c]) ?_;have a:=hn.1 c;rw[Aa];refine D8 (fun i x1 x2=>x2=(i:Int)/\∃k:Nat,x1=(k:Int)/\40-(d+1)+1+i<=k/\k<=40/\i<=p.L.n/\∀l,chk (d+1) (p::l)↔chk (40-k) (p.L.toList.drop i++l)) 41 _ (by omega)
   ⟨rfl,40-(d+1)+1,rfl,by omega,by omega,by omega,fun l=>by rw[show 40-(40-(d+1)+1)=d by omega];exact⟨fun h=>h.2,fun h=>⟨a,h⟩⟩⟩ ?_
  rintro j i x1 x2 t ⟨rfl,k,rfl,h1,s,u,f⟩ hs;by_cases hl:i<p.L.n
  .refine A0 (by simp;omega) (A0 (by omega) ?_);obtain⟨r,m,k',r1,r2,r3,r4,r5⟩:=Zv o (40-k) (by omega) (p.L.g i) (hp.L hl) M (by omega);rw[show ((40-(40-k):Nat):Int)=(k:Int) by omega]at m;refine A7 (by rw[AK2];exact m) ?_;by_cases b:r.2=0
   .refine A2 (by simp[b]) (hs (by omega) _ _ ⟨Aa,k',r1,by have:=(r4 b).1;omega,r3,by omega,fun l=>?_⟩);rw[f,IJ _ hl,AN4];exact (r4 b).2 _
   refine A0 (by simp[b]) ⟨_,rfl,k',r1,by omega,r3,fun h=>Bc h b,fun _ l hc=>?_⟩;rw[f,IJ _ hl,AN4]at hc;exact r5 b _ hc
  obtain rfl:i=p.L.n:=by omega
  refine A2 (by simp) ⟨_,rfl,k,rfl,by omega,s,fun _=>⟨by omega,fun l=>?_⟩,fun h=>Bc rfl h⟩;rw[f,GZ];rfl
def SE {N:Nat}(f:2000<=N){p:Pat}(hp:okPS p):∃e,BZ N p=some e/\(e=0↔chk 40 [p]):=by
 obtain⟨r,b,k,h1,g,i,c,d⟩:=Zv (N:=1500) (by omega) 40 (AK6 _) p hp N (by omega);unfold BZ;refine A7 b ⟨_,rfl,fun h=>?_,fun h=>?_⟩
 .exact ((c h).2 []).2 (Zu _)
 by_cases a:r.2=0
 .exact a
 exact Bc h (d a [])
end Go.AM
namespace Go.AM
open Go.Proofs
def AC9 {T A R:Type}{body:(A->Option R)->T->A->Option R}{k:A->Option R}{I2:R->Prop}(J:List T->A->Prop)(c:∀a,J [] a->∃r,k a=some r/\I2 r)
 (b:∀t L a self,J (t::L) a->(∀a',J L a' -> ∃r,self a' = some r/\I2 r)->∃r,body self t a=some r/\I2 r):∀(L:List T) (a:A),J L a->∃r,X0 L body k a=some r/\I2 r
 |[],a,h=>c a h
 |t::L,a,h=>b t L a _ h fun a' h'=>AC9 J c b L a' h'
end Go.AM
namespace Go.AM
variable {N:Nat}
open IntKind (wrap)
open Go.Proofs
def XX {p:Pat}(hp:okS p.Is):∃e,AR N p=some e/\(e=0↔OJ p):=by
 obtain⟨a,b,i⟩:=hp;have m:=Ah1 i;have V:Q1 N p.Is=some (vB a b):=by rw[i];exact Zt a b
 have e0:((p.Is.Plus==0)&&(p.Is.Minus==0))=decide (p.Is.Plus=0/\p.Is.Minus=0):=by rw[AM9];simp
 have fin:(OJ p↔vS p.Is)->∃e,((Q1 N p.Is).bind fun y1=>if (!y1) then some (14:Int)else some 0)=some e/\(e=0↔OJ p):=by
  intro c;rw[V];refine A7 rfl ?_;rw[c,m];cases vB a b
  .exact A0 rfl ⟨14,rfl,by simp⟩
  exact A2 (by simp) ⟨0,rfl,by simp⟩
 have bad:∀{x:Int},x≠0->¬OJ p->∃e,some x=some e/\(e=0↔OJ p):=fun hx h=>⟨_,rfl,fun d=>Bc d hx,fun d=>Bc d h⟩;unfold AR;by_cases hk:p.Kind=0 \/ p.Kind=2 \/ p.Kind=6
 .refine A0 (by rcases hk with h|h|h<;>simp[h]) (P0 ?_);rw[e0];by_cases g1:p.Is.Plus=0/\p.Is.Minus=0
  case neg=>exact A0 (by simp[g1]) (A0 rfl (bad (by decide) fun h=>g1 (h.2.1 (by omega)).1))
  refine A2 (by simp[g1]) ?_;by_cases g2:p.Not=true
  .exact A0 g2 (A0 rfl (bad (by decide) fun h=>by have:=(h.2.1 (by omega)).2;rw[g2]at this;cases this))
  refine A2 g2 ?_;by_cases g3:p.Min=0
  case neg=>exact A0 (by simp[g3]) (A0 rfl (bad (by decide) fun h=>g3 (h.2.2.2.1 (by omega)).1))
  refine A2 (by simp[g3]) ?_;by_cases g4:p.Max=0
  case neg=>exact A0 (by simp[g4]) (A0 rfl (bad (by decide) fun h=>g4 (h.2.2.2.1 (by omega)).2))
  refine A2 (by simp[g4]) ?_;by_cases g5:p.L.n=0
  case neg=>exact A0 (by simp;omega) (bad (by decide) fun h=>g5 (h.2.2.1 (by omega) (by omega) (by omega)))
  refine A2 (by simp;omega) (fin ?_);exact⟨fun h=>h.2.2.2.2.2,fun h=>⟨by omega,fun _=>⟨g1,by simpa using g2⟩,fun _ _ _=>g5,fun _=>⟨g3,g4⟩,fun f=>by omega,h⟩⟩
 refine A2 (by simp only[not_or]at hk;simp[hk]) ?_;by_cases k1:p.Kind=1
 .refine A0 (by simp[k1]) (P0 ?_);refine A2 (by simp) ?_;by_cases g3:p.Min=0
  case neg=>exact A0 (by simp[g3]) (A0 rfl (bad (by decide) fun h=>g3 (h.2.2.2.1 (by omega)).1))
  refine A2 (by simp[g3]) ?_;by_cases g4:p.Max=0
  case neg=>exact A0 (by simp[g4]) (A0 rfl (bad (by decide) fun h=>g4 (h.2.2.2.1 (by omega)).2))
  refine A2 (by simp[g4]) ?_;by_cases g5:p.L.n=0
  case neg=>exact A0 (by simp;omega) (bad (by decide) fun h=>g5 (h.2.2.1 (by omega) (by omega) (by omega)))
  refine A2 (by simp;omega) (fin ?_);exact⟨fun h=>h.2.2.2.2.2,fun h=>⟨by omega,fun h1=>Bc k1 h1,fun _ _ _=>g5,fun _=>⟨g3,g4⟩,fun f=>by omega,h⟩⟩
 refine A2 (by simp[k1]) (P0 ?_);rw[e0];have tail:∀(x y:Int),(OJ p↔(p.Is.Plus=0/\p.Is.Minus=0)/\p.Not=false/\x=0/\y=0/\vS p.Is)->∃e,(if (((((decide (p.Is.Plus=0/\p.Is.Minus=0) != true)||p.Not)||(x != 0))||(y != 0))||(decide (0<0))) then some (2:Int)else
  (Q1 N p.Is).bind fun y3=>if (!y3) then some 14 else some 0)=some e/\(e=0↔OJ p):=by
  intro x y c;by_cases g:(p.Is.Plus=0/\p.Is.Minus=0)/\p.Not=false/\x=0/\y=0
  .obtain⟨g1,g2,g3,g4⟩:=g;exact A2 (by simp[g1,g2,g3,g4]) (fin (c.trans ⟨fun h=>h.2.2.2.2,fun h=>⟨g1,g2,g3,g4,h⟩⟩))
  refine A0 ?_ (bad (by decide) fun h=>g ⟨(c.1 h).1,(c.1 h).2.1,(c.1 h).2.2.1,(c.1 h).2.2.2.1⟩);simp only[AN7,bne_iff_ne,ne_eq,De];by_cases g1:p.Is.Plus=0/\p.Is.Minus=0
  .by_cases g2:p.Not=true
   .simp[g2]
   by_cases g3:x=0
   .have:¬y=0:=fun g4=>g ⟨g1,by simpa using g2,g3,g4⟩
    simp[this]
   simp[g3]
  simp[g1]
 by_cases k34:p.Kind=3 \/ p.Kind=4
 .refine A0 (by rcases k34 with h|h<;>simp[h]) (tail _ _ ?_);constructor
  .exact fun h=>⟨(h.2.1 k1).1,(h.2.1 k1).2,(h.2.2.2.1 (by omega)).1,(h.2.2.2.1 (by omega)).2,h.2.2.2.2.2⟩
  rintro⟨h1,d,j,l,f⟩;exact⟨by omega,fun _=>⟨h1,d⟩,fun h h'=>by omega,fun _=>⟨j,l⟩,fun h=>by omega,f⟩
 refine A2 (by simp only[not_or]at k34;simp[k34]) ?_;by_cases k5:p.Kind=5
 .refine A0 (by simp[k5]) ?_;by_cases g:p.L.n=1/\0<=p.Min/\p.Min<=32/\(p.Max = -1 \/ (p.Min<=p.Max/\p.Max<=32))
  .refine A2 (by simp only[AN7,AK5,bne_iff_ne,ne_eq,De];omega) (tail 0 0 ?_);constructor
   .exact fun h=>⟨(h.2.1 k1).1,(h.2.1 k1).2,rfl,rfl,h.2.2.2.2.2⟩
   rintro⟨h1,d,j,l,f⟩;exact⟨by omega,fun _=>⟨h1,d⟩,fun _ _ h=>Bc k5 h,fun h=>Bc k5 h,fun _=>g,f⟩
  exact A0 (by simp only[AN7,AK5,bne_iff_ne,ne_eq,De];omega) (bad (by decide) fun h=>g (h.2.2.2.2.1 k5))
 exact A2 (by simp[k5]) (bad (by decide) fun h=>by have:=h.1;omega)
def Zw {x:Sl Pat}{m:Nat}(h:x.n=m+1):x.toList.reverse=x.g m::(x.take m).toList.reverse:=by unfold Sl.toList;rw[h,AN5,AR5,AU8];rfl
def Ah3 (z:Sl Pat)(q:Pat):((z.push Pat.nil).upd z.n q).toList.reverse=q::z.toList.reverse:=by
 rw[Zw (m:=z.n) rfl];have e1:((z.push Pat.nil).upd z.n q).g z.n=q:=by simp
 have e2:(((z.push Pat.nil).upd z.n q).take z.n).toList=z.toList:=by
  unfold Sl.toList;refine AN1 fun i a=>?_
  have:i<z.n:=AL7.1 a
  show (if i=z.n then q else if i<z.n then z.g i else Pat.nil)=z.g i;rw[Ay,Az this]
 rw[e1,e2]
def UP (q:Sl Pat)(c:q.n<N)(hs:q.n<1000000):D5 N q=some ((List.range q.n).reverse.map fun (i:Nat)=>((i:Int),q.g i)):=by
 unfold D5;have h:∀(m:Nat),m<=q.n->∀F,m<F->Y1 F (fun (a:Int->Option (List (Int×Pat))) (x1:Int)=>
  if (decide (0<=x1)) then
   if ((0:Int)<=x1/\x1<(q.n:Int))then
    GM (x1,q.g x1.toNat) (
     a (wrap .i64 (x1-1))
     )
   else none
  else
   some []) ((m:Int)-1)=some ((List.range m).reverse.map fun (i:Nat)=>((i:Int),q.g i)):=by
  intro m
  induction m with
  |zero=>
   intro _ F b
   match F,b with
   |F+1,_=>rfl
  |succ m ih=>
   intro hm F b
   match F,b with
   |F+1,b=>rw[Q9];rw[show ((m+1:Nat):Int)-1=(m:Int) by omega,Az (by simp),Aw,F9 (by omega) (by omega),ih (by omega) F (by omega),AK2,AN5,AU8,Bg9,Bh5,AM0];rfl
 rw[F9 (by omega) (by omega)];exact h q.n (AK6 _) N c
def Au6 {k:Nat}(hk:k<=40){c:Sl Pat}{l:List Pat}:chk k ((c.take (min 41 c.n)).toList++l)↔chk k (c.toList++l):=by
 by_cases h:c.n<=41
 .rw[Bf7 h]
 constructor
 .intro a
  have:=UO _ _ a
  rw[AL4,HP]at this
  have:(c.take (min 41 c.n)).n=41:=AS8 (by omega)
  omega
 intro a
 have:=UO _ _ a
 rw[AL4,HP]at this;omega
def Wl (hN:2000<=N){p:Pat}(hp:okPS p):∃e,Y9 N p=some e/\(e=0↔chk 40 [p]):=by
 unfold Y9;refine D8 (fun i x3 x4=>x4=(i:Int)/\x3.n<=1+41*i/\(∀q∈x3.toList.reverse,okPS q)/\(chk 40 [p]↔chk (40-i) x3.toList.reverse)) 40 _ (by omega)
  ⟨rfl,by show 1<=_;omega,fun q l=>by rw[show (Sl.of [p]:Sl Pat).toList.reverse=[p] from rfl]at l;rw[AT4.1 l];exact hp,AZ4⟩ ?_
 rintro x i x3 x4 hi ⟨rfl,h1,c,f⟩ hs;rcases hn:x3.n with _|m
 .refine A2 (by simp) ⟨0,rfl,fun _=>f.2 ?_,fun _=>rfl⟩
  have:x3.toList.reverse=[]:=by unfold Sl.toList;rw[hn];rfl
  rw[this];exact Zu _
 rw[Zw hn]at f c;refine A0 (decide_eq_true (by omega)) ?_;by_cases r:i=40
 .subst r;refine A0 (by simp) ⟨12,rfl,fun h=>Bc h (by decide),fun h=>?_⟩
  have:(x3.g m::(x3.take m).toList.reverse)=[]:=f.1 h
  cases this
 refine A2 (by simp;omega) ?_;have hw:IntKind.i64.wrap (((m+1:Nat):Int)-1)=(m:Int):=by rw[F9 (by omega) (by omega)];omega
 simp only[hw,AK2];refine A0 (by omega) (A0 (by omega) ?_);obtain⟨e,y,a⟩:=XX (N:=N) (c (x3.g m) (by simp)).is;refine A7 y ?_;rw[show 40-i=(39-i)+1 by omega]at f;by_cases o:e=0
 case neg=>exact A0 (by simp[o]) ⟨e,rfl,fun h=>Bc h o,fun h=>Bc (a.2 (f.1 h).1) o⟩
 refine A2 (by simp[o]) ?_;have hc:(if (41:Int)<((x3.g m).L.n:Int)then (41:Int)else ((x3.g m).L.n:Int))=((min 41 (x3.g m).L.n:Nat):Int):=by split<;>omega
 simp only[hc,AK2];refine A0 (by omega) (A7 rfl (A7 (UP _ (by show min 41 _<N;omega) (by show min 41 _<1000000;omega)) ?_));generalize s:(x3.g m).L.take (min 41 (x3.g m).L.n)=C;have a0:C.n<=41:=by rw[<- s];exact Nat.min_le_left _ _
 refine AC9 (fun L z=>∃j,j<=C.n/\L=((List.range j).reverse.map fun (i:Nat)=>((i:Int),C.g i))/\z.n=m+(C.n-j)/\z.toList.reverse=C.toList.drop j++(x3.take m).toList.reverse) ?_ ?_ _ _ ⟨C.n,AK6 _,rfl,by show m=_;omega,by rw[GZ];rfl⟩
 .rintro z ⟨j,hj,hL,hz,b⟩;have u:j=0:=by
   cases j with
   |zero=>rfl
   |succ j=>simp[AN5]at hL
  subst u;rw[Be0]at b;refine hs (by omega) _ _ ⟨Aa,by omega,fun q l=>?_,?_⟩
  .rw[b]at l;rcases Bh6.1 l with h|h
   .obtain⟨i',d,rfl⟩:=AV9.1 h;have d:=AL7.1 d;rw[<- s]at d⊢;exact (c (x3.g m) (by simp)).L (AM6 d (Nat.min_le_right _ _))
   exact c q (by simp[h])
  rw[b,f,show 40-(i+1)=39-i by omega,<- s,Au6 (by omega)];exact⟨fun h=>h.2,fun h=>⟨a.1 o,h⟩⟩
 rintro t L z v ⟨j,hj,hL,hz,b⟩ w;cases j with
 |zero=>simp at hL
 |succ j=>rw[AN5,AU8,Bg9,Bh5,AM0]at hL;obtain⟨rfl,rfl⟩:=Bk7 hL;have e1:(z.n:Int).toNat=z.n:=AK2 _;refine A0 ⟨⟨⟨by show (z.n+1)*64<=_;omega,by show z.n+1<=_;omega⟩,by show (0:Int)<=_/\(z.n:Int)<((z.n+1:Nat):Int);omega⟩,by show z.n<z.n+1;omega⟩ ?_;refine w _ ⟨j,by omega,rfl,by show z.n+1=_;omega,?_⟩;rw[Ah3,b,IJ C (i:=j) (by omega),AN4]
end Go.AM
namespace Go.AM
open IntKind (wrap)
open Go.Proofs
def SF {N:Nat}{w:Sl Eg}(m:w.n<N)(hs:w.n<1000000){f:Eg->Option Bool}{b:Nat->Bool}(o:∀i,i<w.n->f (w.g i)=some (b i)) :∃r,B6 N w f=some r/\(r=true ↔ ∃i,i<w.n/\b i=true):=by
 unfold B6 E4
 have:∃y,Y1 N (fun (a:Int->Option Int) (x1:Int)=>
  if (decide (x1<(w.n:Int))) then
   if ((0:Int)<=x1/\x1<(w.n:Int))then
    (f (w.g x1.toNat)).bind fun y3=>
    if y3 then
     some x1
    else
     a (wrap .i64 (x1+1))
   else none
  else
   some (-1)) 0=some y/\(0<=y ↔ ∃i,i<w.n/\b i=true):=by
  refine F8 (fun i x1=>x1=(i:Int)/\∀j,j<i->b j=false) w.n _ m ⟨rfl,fun j c=>Bc c (by omega)⟩ ?_;rintro l i x1 q ⟨rfl,h⟩ d;by_cases hl:i<w.n
  .refine A0 (by simp;omega) (A0 (by omega) (A7 (by rw[AK2];exact o i hl) ?_));cases hb:b i
   .refine A2 (by simp) (d hl _ ⟨Aa,fun j c=>?_⟩);by_cases e:j=i
    .subst e;exact hb
    exact h j (by omega)
   exact A0 rfl ⟨i,rfl,fun _=>⟨i,hl,hb⟩,fun _=>by omega⟩
  refine A2 (by simp;omega) ⟨-1,rfl,fun h=>Bc h (by decide),?_⟩;rintro⟨j,c,hb⟩;rw[h j (by omega)]at hb;cases hb
 obtain⟨y,e,hy⟩:=this;exact A7 e ⟨_,rfl,by rw[De];exact hy⟩
end Go.AM
namespace Go.AM
open Go.Proofs
def okL (l:Law):Prop:=okPS l.Left/\okPS l.Right/\∀i,i<l.If.n->okS (l.If.g i)
end Go.AM
namespace Go.AM
open Go.Proofs
def okO (x:BD):Prop:=okS x.Set/\(∃c:BitVec 32,x.Clear=(c.toNat:Int))/\∃t:BitVec 32,x.Take=(t.toNat:Int)
end Go.AM
namespace Go.AM
open Go.Proofs
def ne0 (x:BitVec 32):((x.toNat:Int) != 0)=decide (x≠0#32):=by rw[bne,eq0];simp
def or0 (x y:BitVec 32):x ||| y=0#32↔x=0#32/\y=0#32:=by
 constructor
 .intro h;have h:=(z32 _).1 h;exact⟨(z32 _).2 fun i a=>by have:=h i a;rw[AU7,AV4]at this;exact this.1,(z32 _).2 fun i a=>by have:=h i a;rw[AU7,AV4]at this;exact this.2⟩
 rintro⟨rfl,rfl⟩;rfl
def AD0 (x y z:BitVec 32):x &&& (y ||| z)=(x &&& y) ||| (x &&& z):=by apply AP7;intro i a;simp only[AO7,AU7];cases x.getLsbD i<;>simp
def AD1 (x y z:BitVec 32):(x ||| y) &&& z=(x &&& z) ||| (y &&& z):=by apply AP7;intro i a;simp only[AO7,AU7];cases z.getLsbD i<;>simp
def Wm {N:Nat}(j:1000<=N){x:BD}(hx:okO x)(k:Int):∃b,Bv N x k=some b/\Fd N x k=some b:=by
 obtain⟨⟨a,b,d⟩,⟨c,hc⟩,t,ht⟩:=hx;have f:(16777215:Int)=((16777215#32).toNat:Int):=rfl;unfold Bv Fd;simp only[lt,d,hc,ht,SD,PG a b j,AL2];rw[f];simp only[Mn,Zm,XD,ne0];by_cases h1:x.From < -1
 .simp[h1]
 by_cases g:k<=x.From
 .simp[h1,g]
 by_cases i:vB a b=true
 case neg=>simp[h1,g,i]
 simp only[h1,g,i,decide_false,AK8,Cj,AZ5];rw[AD1,AD0 t];generalize ~~~16777215#32=M;by_cases g1:c &&& M=0#32
 case neg=>simp[g1,or0]
 by_cases g2:t &&& M=0#32
 case neg=>simp[g1,g2,or0]
 by_cases g3:c &&& (a ||| b)=0#32
 case neg=>simp[g1,g2,g3,or0]
 by_cases g4:t &&& (a ||| b)=0#32
 case neg=>simp[g1,g2,g3,g4,or0]
 by_cases g5:t &&& c=0#32
 case neg=>simp[g1,g2,g3,g4,g5,or0]
 simp[g1,g2,g3,g4,g5,or0];by_cases g6:t.toNat=0
 .simp only[g6,Bq];cases x.Of==0<;>simp
 simp only[g6,Cj];cases (decide (0<=x.Of)&&decide (x.Of<k))<;>simp
end Go.AM
namespace Go.AM
open Go.Proofs
abbrev nameC:Str:=[97,98,99,100,101,102,103,104,105,106,107,108,109,110,111,112,113,114,115,116,117,118,119,120,121,122,65,66,67,68,69,70,71,72,73,74,75,76,77,78,79,80,81,82,83,84,85,86,87,88,89,90,48,49,50,51,52,53,54,55,56,57,45]
def Zx {p:UInt8->Bool}:∀{l:Str},l.dropWhile p=[] ↔ ∀x∈l,p x=true
 |[]=>by simp
 |a::l=>by
  rw[List.dropWhile_cons];by_cases h:p a=true
  .rw[Az h,Zx];simp[h]
  rw[Bb h];simp[h]
def Ah4 (l cs:Str):Lib.trimS l cs=[] ↔ ∀b∈l,cs.contains b=true:=by
 unfold Lib.trimS Lib.trimLeftS Lib.trimRightS;rw[Zx];constructor
 .intro h;have h:∀x∈l.reverse.dropWhile (cs.contains ·),cs.contains x=true:=fun x hx=>h x (Bb8.2 hx);have a:l.reverse.dropWhile (cs.contains ·)=[]:=by
   rcases e:l.reverse.dropWhile (cs.contains ·)with _|⟨y,r⟩
   .rfl
   have c:=h y (by rw[e];simp);have d:¬cs.contains y=true:=by
    have:=List.head_dropWhile_not (cs.contains ·) (l:=l.reverse) (by rw[e];simp)
    simp only[e,List.head_cons]at this;rw[this];exact Bool.false_ne_true
   exact Bc c d
  rw[Zx]at a;exact fun b hb=>a b (Bb8.2 hb)
 intro h x hx;have hx:=Bb8.1 hx;exact h x (Bb8.1 ((List.dropWhile_sublist _).mem hx))
def Zy:∀k:Fin 256,nameC.contains (UInt8.ofNat k.val)=QI ((k.val:Nat):Int):=by decide +kernel
def Zz (b:UInt8):nameC.contains b=QI ((b.toNat:Nat):Int):=by
 have:=Zy ⟨b.toNat,b.toNat_lt⟩
 rw[show UInt8.ofNat b.toNat=b by simp]at this;exact this
def SH {N:Nat}{s:Str}(n:s.length<N)(hs:s.length<1000000000):∃b,Ce N s=some b/\Ca N s=some b:=by
 have o:∃b,Ca N s=some b/\(b=true↔(∀c∈s,nameC.contains c=true)/\1<=s.length/\s.length<=24):=by
  unfold Ca;refine F8 (fun i x1=>x1=(i:Int)/\∀j (h:j<s.length),j<i->nameC.contains s[j]=true) s.length _ n ⟨rfl,fun j _ a=>Bc a (by omega)⟩ ?_;rintro l i x1 v ⟨rfl,h⟩ f;by_cases hl:i<s.length
  .refine A0 (by simp;omega) (A0 (by omega) ?_);have eb:AE s (i:Int)=((s[i].toNat:Nat):Int):=by simp[AE,hl]
   by_cases hb:nameC.contains s[i]=true
   .refine A2 (by rw[eb];show ¬(!(QI ((s[i].toNat:Nat):Int)))=true;rw[<- Zz,hb];simp) (f hl _ ⟨Aa,fun j a q=>?_⟩);by_cases e:j=i
    .subst e;exact hb
    exact h j a (by omega)
   refine A0 ?_ ⟨false,rfl,by simp,fun t=>Bc (t.1 s[i] (Bg0 hl)) hb⟩;rw[eb];show (!(QI ((s[i].toNat:Nat):Int)))=true;rw[<- Zz];simpa using hb
  refine A2 (by simp;omega) ⟨_,rfl,?_⟩;simp only[AK5,De];constructor
  .rintro⟨g1,g2⟩;refine⟨fun c hc=>?_,by omega,by omega⟩;obtain⟨j,a,rfl⟩:=Bc7 hc;exact h j a (by omega)
  rintro⟨_,g1,g2⟩;exact⟨by omega,by omega⟩
 obtain⟨b,e,hb⟩:=o;refine⟨b,?_,e⟩
 suffices h:∃r,Ce N s=some r/\(r=true↔(∀c∈s,nameC.contains c=true)/\1<=s.length/\s.length<=24) by obtain⟨r,u,g⟩:=h;rw[u,show r=b by rw[AM9,g,hb]]
 unfold Ce;refine P0 ?_;by_cases d:s=[]
 .exact A2 (by simp[d]) ⟨false,rfl,by simp[d]⟩
 refine A0 (by simp[d]) ?_;have m:0<s.length:=List.length_pos_iff.2 d;by_cases h1:s.length<=24
 .refine A0 (by simp;omega) (A7 (x:=Lib.trimS s nameC) ?_ ⟨_,rfl,?_⟩)
  .unfold ED;rw[Az ⟨by omega,by decide,by decide⟩]
  rw[<- Ah4];constructor
  .intro h;exact⟨by simpa using h,by omega,h1⟩
  rintro⟨h,_⟩;simp[h]
 exact A2 (by simp;omega) ⟨false,rfl,by simp;intro _ _;omega⟩
end Go.AM
namespace Go.AM
variable {N:Nat}
open IntKind (wrap)
open Go.Proofs
def SI {s:Sl BD}(m:s.n<N)(hs:s.n<1000000){f:BD->Option Bool}{b:Nat->Bool}(o:∀i,i<s.n->f (s.g i)=some (b i)) :∃r,D2 N s f=some r/\(r=true ↔ ∃i,i<s.n/\b i=true):=by
 unfold D2 F6
 have:∃y,Y1 N (fun (a:Int->Option Int) (x1:Int)=>
  if (decide (x1<(s.n:Int))) then
   if ((0:Int)<=x1/\x1<(s.n:Int))then
    (f (s.g x1.toNat)).bind fun y3=>
    if y3 then
     some x1
    else
     a (wrap .i64 (x1+1))
   else none
  else
   some (-1)) 0=some y/\(0<=y ↔ ∃i,i<s.n/\b i=true):=by
  refine F8 (fun i x1=>x1=(i:Int)/\∀j,j<i->b j=false) s.n _ m ⟨rfl,fun j c=>Bc c (by omega)⟩ ?_;rintro l i x1 q ⟨rfl,h⟩ d;by_cases hl:i<s.n
  .refine A0 (by simp;omega) (A0 (by omega) (A7 (by rw[AK2];exact o i hl) ?_));cases hb:b i
   .refine A2 (by simp) (d hl _ ⟨Aa,fun j c=>?_⟩);by_cases e:j=i
    .subst e;exact hb
    exact h j (by omega)
   exact A0 rfl ⟨i,rfl,fun _=>⟨i,hl,hb⟩,fun _=>by omega⟩
  refine A2 (by simp;omega) ⟨-1,rfl,fun h=>Bc h (by decide),?_⟩;rintro⟨j,c,hb⟩;rw[h j (by omega)]at hb;cases hb
 obtain⟨y,e,hy⟩:=this;exact A7 e ⟨_,rfl,by rw[De];exact hy⟩
def UQ (l:Law):Prop:=okL l/\l.Name.length<1100000/\l.If.n<1100000/\l.Out.n<1100000/\∀i,i<l.Out.n->okO (l.Out.g i)
def XY {s:Eg}(hs:okS s):∃b,H7 N s=some b/\(b=true↔vS s):=by obtain⟨p,m,e⟩:=hs;exact⟨vB p m,by rw[e];exact SD p m,(Ah1 e).symm⟩
def XZ (a:1000<=N){s:Eg}(hs:okS s):∃b,Y3 N s=some b/\(b=true↔vS s):=by obtain⟨p,m,e⟩:=hs;exact⟨vB p m,by rw[e];exact PG p m a,(Ah1 e).symm⟩
def AD2 (N:Nat)(l:Law)(e:Int):Prop:=(e=0/\Ha N l) \/ (e=17/\¬Ha N l)
def PH (hN:3000000<=N){l:Law}(hl:UQ l):∃e,U9 N l=some e/\AD2 N l e:=by
 have u:=hl.2.1;have v:=hl.2.2.1;have x:=hl.2.2.2.1;unfold U9;obtain⟨b0,e0,e0'⟩:=SH (N:=N) (s:=l.Name) (by omega) (by omega);refine A7 e0 ?_;cases b0
 .exact A0 rfl ⟨17,rfl,.inr ⟨rfl,fun h=>by have:=h.1;rw[e0']at this;cases this⟩⟩
 refine A2 (by simp) ?_;obtain⟨y2,e2,o⟩:=Wl (N:=N) (by omega) hl.1.1;refine A7 e2 ?_;by_cases c2:y2=0
 case neg=>exact A0 (by simpa using c2) ⟨17,rfl,.inr ⟨rfl,fun h=>c2 (o.2 h.2.1)⟩⟩
 refine A2 (by simp[c2]) ?_;obtain⟨y3,e3,q⟩:=Wl (N:=N) (by omega) hl.1.2.1;refine A7 e3 ?_;by_cases c3:y3=0
 case neg=>exact A0 (by simpa using c3) ⟨17,rfl,.inr ⟨rfl,fun h=>c3 (q.2 h.2.2.1)⟩⟩
 refine A2 (by simp[c3]) ?_;by_cases c4:4<l.If.n
 .exact A0 (by simp;omega) ⟨17,rfl,.inr ⟨rfl,fun h=>by have:=h.2.2.2.1;omega⟩⟩
 refine A2 (by simp;omega) ?_;by_cases c5:6<l.Out.n
 .exact A0 (by simp;omega) ⟨17,rfl,.inr ⟨rfl,fun h=>by have:=h.2.2.2.2.1;omega⟩⟩
 refine A2 (by simp;omega) ?_;rw[AC5 (by omega)];by_cases c6:l.If.n+l.Out.n=0
 .exact A0 (by rw[c6];rfl) ⟨17,rfl,.inr ⟨rfl,fun h=>h.2.2.2.2.2.1 c6⟩⟩
 refine A2 (by simp;omega) ?_;by_cases c7:l.Mode<1 \/ 3<l.Mode
 .exact A0 (by simp;omega) ⟨17,rfl,.inr ⟨rfl,fun h=>by have g1:=h.2.2.2.2.2.2.1;have g2:=h.2.2.2.2.2.2.2.1;omega⟩⟩
 refine A2 (by simp;omega) ?_;have y:∀i,∃b,i<l.If.n->Ao N (l.If.g i)=some b/\(b=true ↔ ¬vS (l.If.g i)):=by
  intro i;by_cases a:i<l.If.n
  .obtain⟨b,eb,hb⟩:=XY (N:=N) (hl.1.2.2 i a);refine⟨!b,fun _=>⟨by unfold Ao;rw[eb];rfl,?_⟩⟩;rw[<- hb];simp
  exact⟨false,fun h=>Bc h a⟩
 obtain⟨f,j⟩:=Bf3 y;obtain⟨y4,e4,r⟩:=SF (N:=N) (w:=l.If) (by omega) (by omega) (f:=fun u1=>Ao N u1) (fun i a=>(j i a).1);refine A7 e4 ?_;cases c:y4
 case true=>obtain⟨i,a,hb⟩:=r.1 c;exact A0 rfl ⟨17,rfl,.inr ⟨rfl,fun h=>(j i a).2.1 hb (h.2.2.2.2.2.2.2.2.1 i a)⟩⟩
 refine A2 (by simp) ?_;have z:∀i,∃b,i<l.Out.n->Ap N (l.Out.g i) (l.If.n:Int)=some b/\(b=true ↔ ¬Bv N (l.Out.g i) l.If.n=some true):=by
  intro i;by_cases a:i<l.Out.n
  .obtain⟨b,eb,_⟩:=Wm (N:=N) (by omega) (hl.2.2.2.2 i a) (l.If.n:Int);refine⟨!b,fun _=>⟨by unfold Ap;rw[eb];rfl,?_⟩⟩;rw[eb];simp
  exact⟨false,fun h=>Bc h a⟩
 obtain⟨g,m⟩:=Bf3 z;obtain⟨y5,e5,t⟩:=SI (N:=N) (s:=l.Out) (by omega) (by omega) (f:=fun u2=>Ap N u2 (l.If.n:Int)) (fun i a=>(m i a).1);refine A7 e5 ?_;cases d:y5
 case true=>obtain⟨i,a,hb⟩:=t.1 d;exact A0 rfl ⟨17,rfl,.inr ⟨rfl,fun h=>(m i a).2.1 hb (h.2.2.2.2.2.2.2.2.2 i a)⟩⟩
 refine A2 (by simp) ⟨0,rfl,.inl ⟨rfl,e0',o.1 c2,q.1 c3,by omega,by omega,c6,by omega,by omega,fun i a=>?_,fun i a=>?_⟩⟩
 .refine AQ5 fun hn=>?_
  have:=r.2 ⟨i,a,(j i a).2.2 hn⟩
  rw[c]at this;cases this
 refine AQ5 fun hn=>?_
 have:=t.2 ⟨i,a,(m i a).2.2 hn⟩
 rw[d]at this;cases this
def Ya (y:3000000<=N){l:Law}(hl:UQ l):∃e,Cb N l=some e/\AD2 N l e:=by
 have u:=hl.2.1;have v:=hl.2.2.1;have w:=hl.2.2.2.1;unfold Cb;obtain⟨b0,e0,e0'⟩:=SH (N:=N) (s:=l.Name) (by omega) (by omega);refine A7 e0' (P0 ?_);cases b0
 .exact A0 rfl (A0 rfl ⟨17,rfl,.inr ⟨rfl,fun h=>by have:=h.1;rw[e0']at this;cases this⟩⟩)
 refine A2 (by simp) ?_;obtain⟨y2,e2,q⟩:=SE (N:=N) (by omega) hl.1.1;refine A7 e2 ?_;by_cases c2:y2=0
 case neg=>exact A0 (by simpa using c2) (A0 rfl ⟨17,rfl,.inr ⟨rfl,fun h=>c2 (q.2 h.2.1)⟩⟩)
 refine A2 (by simp[c2]) ?_;obtain⟨y3,e3,r⟩:=SE (N:=N) (by omega) hl.1.2.1;refine A7 e3 ?_;by_cases c3:y3=0
 case neg=>exact A0 (by simpa using c3) ⟨17,rfl,.inr ⟨rfl,fun h=>c3 (r.2 h.2.2.1)⟩⟩
 refine A2 (by simp[c3]) ?_;rw[AC5 (by omega)];by_cases a:l.If.n<=4/\l.Out.n<=6/\l.If.n+l.Out.n≠0/\1<=l.Mode/\l.Mode<=3
 case neg=>refine A0 ?_ ⟨17,rfl,.inr ⟨rfl,fun h=>a ⟨h.2.2.2.1,h.2.2.2.2.1,h.2.2.2.2.2.1,h.2.2.2.2.2.2.1,h.2.2.2.2.2.2.2.1⟩⟩⟩;simp only[AN7,De,beq_iff_eq];omega
 refine A2 (by simp only[AN7,De,beq_iff_eq];omega) ?_;obtain⟨c4,c5,c6,c7,c8⟩:=a;refine F8 (fun i x1=>x1=(i:Int)/\∀j,j<i->vS (l.If.g j)) l.If.n _ (by omega) ⟨rfl,fun j c=>Bc c (by omega)⟩ ?_;rintro t i x1 z ⟨rfl,h⟩ hs;by_cases d:i<l.If.n
 .obtain⟨b,eb,hb⟩:=XZ (N:=N) (by omega) (hl.1.2.2 i d);refine A0 (by simp;omega) (A0 (by omega) (A7 (by rw[AK2];exact eb) ?_));cases b
  .exact A0 rfl ⟨17,rfl,.inr ⟨rfl,fun h=>by have:=hb.2 (h.2.2.2.2.2.2.2.2.1 i d);cases this⟩⟩
  refine A2 (by simp) (hs d _ ⟨Aa,fun j c=>?_⟩);by_cases e:j=i
  .subst e;exact hb.1 rfl
  exact h j (by omega)
 refine A2 (by simp;omega) ?_;have x:∀j,j<l.If.n->vS (l.If.g j):=fun j c=>h j (by omega);refine F8 (fun i x1=>x1=(i:Int)/\∀j,j<i->Bv N (l.Out.g j) l.If.n=some true) l.Out.n _ (by omega) ⟨rfl,fun j c=>Bc c (by omega)⟩ ?_;rintro m k x2 hk ⟨rfl,h'⟩ o;by_cases f:k<l.Out.n
 .obtain⟨b,eb,eb'⟩:=Wm (N:=N) (by omega) (hl.2.2.2.2 k f) (l.If.n:Int);refine A0 (by simp;omega) (A0 (by omega) (A7 (by rw[AK2];exact eb') ?_));cases b
  .exact A0 rfl ⟨17,rfl,.inr ⟨rfl,fun h=>by have:=h.2.2.2.2.2.2.2.2.2 k f;rw[eb]at this;cases this⟩⟩
  refine A2 (by simp) (o f _ ⟨Aa,fun j c=>?_⟩);by_cases e:j=k
  .subst e;exact eb
  exact h' j (by omega)
 exact A2 (by simp;omega) ⟨0,rfl,.inl ⟨rfl,e0',q.1 c2,r.1 c3,c4,c5,c6,c7,c8,x,fun j c=>h' j (by omega)⟩⟩
def ZA {l:Law}{e e' : Int}(h:AD2 N l e)(h' : AD2 N l e'):e=e':=by
 rcases h with⟨rfl,h⟩ | ⟨rfl,h⟩<;>rcases h' with⟨rfl,h'⟩ | ⟨rfl,h'⟩
 .rfl
 .exact Bc h h'
 .exact Bc h' h
 rfl
def SJ (a:3000000<=N){l:Law}(hl:UQ l):∃e,U9 N l=some e/\Cb N l=some e/\AD2 N l e:=by obtain⟨e,h,c⟩:=PH a hl;obtain⟨e',h',c'⟩:=Ya a hl;obtain rfl:=ZA c c';exact⟨_,h,h',c⟩
end Go.AM
namespace Go.AM
open Go.Proofs
def H0:(!false)=true:=rfl
end Go.AM
namespace Go.AM
open Go.Proofs
def ZB (laws:Sl Law):Prop:=∀i,i<laws.n->UQ (laws.g i)
def Wn (N:Nat)(laws:Sl Law):Prop:=laws.n<=64/\∀i,i<laws.n->Ha N (laws.g i)
end Go.AM
namespace Go.AM
open Go.Proofs
def dep:Nat->Pat->Prop
 |0,_=>False
 |d+1,p=>p.L.n<=40/\∀i,i<p.L.n->dep d (p.L.g i)
def Aq9:∀(d:Nat) (p:Pat),dep d p->∀e,d<=e->dep e p
 |0,_,h,_,_=>h.elim
 |d+1,p,h,0,he=>by omega
 |d+1,p,h,e+1,he=>⟨h.1,fun i a=>Aq9 d _ (h.2 i a) e (by omega)⟩
def SK {N:Nat}(o:1000<=N):∀(d:Nat),d<=40->∀(p:Pat) (M:Nat),N+d+2<=M->∃r:Nat,Bj M p ((40-d:Nat):Int)=some (r:Int)/\40-d<r/\r<=41/\(r<=40->dep (d+1) p)
 |d,hd,p,0,hM=>by omega
 |d,hd,p,M+1,hM=>by
  have:∃x,Bj (M+1) p ((40-d:Nat):Int)=some x/\∃r:Nat,x=(r:Int)/\40-d<r/\r<=41/\(r<=40->dep (d+1) p):=by
   show ∃x,BG (Bj M) M p _=some x/\_;unfold BG;rw[Aa];refine D8 (fun i x1 x2=>x2=(i:Int)/\∃k:Nat,x1=(k:Int)/\40-d+1+i<=k/\k<=41/\i<=p.L.n/\(k<=40->∀j,j<i->dep d (p.L.g j))) 41 _ (by omega) ⟨rfl,40-d+1,rfl,by omega,by omega,by omega,fun _ j b=>Bc b (by omega)⟩ ?_;rintro f i x1 x2 q ⟨rfl,k,rfl,h1,c,s,l⟩ hs;by_cases hc:i<p.L.n/\k<=40
   .refine A0 (by simp only[AK5,De];omega) (A0 (by omega) ?_);obtain⟨r,m,r1,r2,r3⟩:=SK o (40-k) (by omega) (p.L.g i) M (by omega);rw[show ((40-(40-k):Nat):Int)=(k:Int) by omega]at m;refine A7 (by rw[AK2];exact m) (hs (by omega) _ _ ⟨Aa,r,rfl,by omega,r2,by omega,fun a j b=>?_⟩);by_cases e:j=i
    .subst e;exact Aq9 _ _ (r3 a) d (by omega)
    exact l hc.2 j (by omega)
   refine A2 (by simp only[AK5,De];omega) ⟨_,rfl,k,rfl,by omega,c,fun hk=>⟨by omega,fun j b=>l hk j (by omega)⟩⟩
  obtain⟨x,h1,r,rfl,c⟩:=this;exact⟨r,h1,c⟩
def MJ:∀(d:Nat) (p:Pat),dep d p->∀M,100+d<=M->∃r,Ai M p=some r
 |0,p,h,M,_=>h.elim
 |d+1,p,h,0,hM=>by omega
 |d+1,p,h,M+1,hM=>by
  suffices ∃r,Ai (M+1) p=some r/\True by obtain⟨r,h,_⟩:=this;exact⟨r,h⟩
  show ∃x,Y5 (Ai M) M p=some x/\_;unfold Y5;have hn:=h.1;refine D8 (fun i x1 x2=>x2=(i:Int)) p.L.n _ (by omega) rfl ?_;rintro a i x1 x2 c rfl hs;by_cases hl:i<p.L.n
  .obtain⟨r,b⟩:=MJ d (p.L.g i) (h.2 i hl) M (by omega);exact A0 (by simp;omega) (A0 (by omega) (A7 (by rw[AK2];exact b) (hs hl _ _ (Aa))))
  exact A2 (by simp;omega) ⟨_,rfl,trivial⟩
def Ji {N:Nat}(b:2000<=N)(p:Pat):∃r:Nat,Ah N p=some (r:Int)/\(r<=40->dep 41 p):=by obtain⟨r,h1,_,_,a⟩:=SK (N:=1000) (by omega) 40 (by omega) p N (by omega);exact⟨r,by unfold Ah;rw[show Bj N p 0=some (r:Int) from h1];rfl,a⟩
def Ah5 {N:Nat}(f:2000<=N)(laws:Sl Law):∃r,Ds N laws=some r:=by
 suffices ∃r,Ds N laws=some r/\True by obtain⟨r,h,_⟩:=this;exact⟨r,h⟩
 unfold Ds;refine D8 (fun i x1 x2=>x2=(i:Int)) 301 _ (by omega) rfl ?_;rintro d i x1 x2 s rfl hs;by_cases hc:i<laws.n/\i<=300
 .refine A0 (by simp only[AK5,De];omega) (A0 (by omega) ?_);refine D8 (fun j x7 x8=>x8=(j:Int)) 2 _ (by omega) rfl ?_;rintro b j x7 x8 t rfl a;by_cases hl:j<2
  .refine A0 (by show decide ((j:Int)<((2:Nat):Int))=true;simp;omega) (A0 (by show (0:Int)<=(j:Int)/\(j:Int)<((2:Nat):Int);omega) ?_);obtain⟨r,l,m⟩:=Ji f ((Sl.of [(laws.g (i:Int).toNat).Left,(laws.g (i:Int).toNat).Right]:Sl Pat).g (j:Int).toNat);refine A7 l ?_;by_cases c:r<=40
   .obtain⟨q,o⟩:=MJ 41 _ (m c) N (by omega);exact A0 (by simp;omega) (A7 o (a hl _ _ (Aa)))
   exact A2 (by simp;omega) (a hl _ _ (Aa))
  exact A2 (by show ¬decide ((j:Int)<((2:Nat):Int))=true;simp;omega) (hs (by omega) _ _ (Aa))
 exact A2 (by simp only[AK5,De];omega) ⟨_,rfl,trivial⟩
end Go.AM
namespace Go.AM
variable {N:Nat}
open IntKind (wrap)
open Go.Proofs
def SL {s:Str}(m:s.length<N)(hs:s.length<1000000000){let_:Int->Option Bool}(hl:∀y,let_ y=some (QI y)){fin:Bool}(n:fin=(decide (1<=s.length)&&decide (s.length<=24))) :Y1 N (fun (a:Int->Option Bool) (x1:Int)=>
  if (decide (x1<(s.length:Int))) then
   if ((0:Int)<=x1/\x1<(s.length:Int))then
    (let_ (AE s x1)).bind fun y3=>
    if (!y3) then
     some false
    else
     a (wrap .i64 (x1+1))
   else none
  else
   some fin
 ) 0=some (LL s):=by
 suffices h:∃b,Y1 N (fun (a:Int->Option Bool) (x1:Int)=>
  if (decide (x1<(s.length:Int))) then
   if ((0:Int)<=x1/\x1<(s.length:Int))then
    (let_ (AE s x1)).bind fun y3=>
    if (!y3) then
     some false
    else
     a (wrap .i64 (x1+1))
   else none
  else
   some fin
  ) 0=some b/\b=LL s by obtain⟨b,h,rfl⟩:=h;exact h
 refine F8 (fun i x1=>x1=(i:Int)/\∀j (h:j<s.length),j<i->QI ((s[j].toNat:Nat):Int)=true) s.length _ m ⟨rfl,fun j _ f=>Bc f (by omega)⟩ ?_;rintro l i x1 q ⟨rfl,h⟩ g;by_cases d:i<s.length
 .have eb:AE s (i:Int)=((s[i].toNat:Nat):Int):=by simp[AE,d]
  refine A0 (by simp;omega) (A0 (by omega) (A7 (hl _) ?_));rw[eb];cases hb:QI ((s[i].toNat:Nat):Int)
  .refine A0 rfl ⟨false,rfl,?_⟩;symm;unfold LL;rw[Bh4]
   right
   rw[List.all_eq_false];exact⟨s[i],Bg0 d,by rw[hb];simp⟩
  refine A2 (by simp) (g d _ ⟨Aa,fun j f o=>?_⟩);by_cases e:j=i
  .subst e;exact hb
  exact h j f (by omega)
 refine A2 (by simp;omega) ⟨_,rfl,?_⟩;unfold LL;rw[n]
 have:(s.all fun c=>QI ((c.toNat:Nat):Int))=true:=AL8.2 fun c hc=>by obtain⟨j,f,rfl⟩:=Bc7 hc;exact h j f (by omega)
 rw[this,Bc1]
def ZC {s:Str}(a:s.length<N)(hs:s.length<1000000000):Cy N s=some (LL s):=by unfold Cy;exact SL a hs (fun y=>rfl) (by rw[AM9];simp;omega)
def Ah6 {s:Str}(a:s.length<N)(hs:s.length<1000000000):Du N s=some (LL s):=by unfold Du;exact SL a hs (fun y=>rfl) (by rw[AM9];simp;omega)
def Yb (t:Sl F5)(e:Int):Prop:=(e=0/\AS t) \/ (e=16/\¬AS t)
def Yc {t:Sl F5}{e e' : Int}(h:Yb t e)(h' : Yb t e'):e=e':=by
 rcases h with⟨rfl,h⟩ | ⟨rfl,h⟩<;>rcases h' with⟨rfl,h'⟩ | ⟨rfl,h'⟩
 .rfl
 .exact Bc h h'
 .exact Bc h' h
 rfl
def MK (t:Sl F5):Prop:=∀v,v<t.n->(t.g v).Name.length<1100000
def ZD (y:3000000<=N){t:Sl F5}(ht:MK t):∃e,Bk N t=some e/\Yb t e:=by
 unfold Bk;by_cases z:t.n<1
 .exact A0 (fun h=>Bc h (by simp;omega)) (A0 (by simp;omega) ⟨16,rfl,.inr ⟨rfl,fun h=>by have:=h.1;omega⟩⟩)
 refine A0 (fun _ _=>by omega) ?_;by_cases h1:63<t.n
 .exact A0 (by simp;omega) ⟨16,rfl,.inr ⟨rfl,fun h=>by have:=h.2.1;omega⟩⟩
 by_cases m:(t.g 0).Parent = -1
 case neg=>exact A0 (by simp[m]) ⟨16,rfl,.inr ⟨rfl,fun h=>m ((h.2.2 0 (by omega)).1 rfl)⟩⟩
 refine A2 (by simp[m];omega) ?_;refine F8 (fun i x1=>x1=(i:Int)/\∀j,j<i->Ah7 t j) t.n _ (by omega) ⟨rfl,fun j x=>Bc x (by omega)⟩ ?_;rintro f i x1 hi ⟨rfl,h⟩ hs;by_cases a:i<t.n
 case neg=>exact A2 (by simp;omega) ⟨0,rfl,.inl ⟨rfl,by omega,by omega,fun v hv=>h v (by omega)⟩⟩
 refine A0 (by simp;omega) (P0 ?_);have b:=Ah6 (N:=N) (s:=(t.g i).Name) (by have:=ht i a;omega) (by have:=ht i a;omega);have rest:(0<i->0<=(t.g i).Parent/\(t.g i).Parent<i)->∃r,(if (!LL (t.g i).Name) then some 16 else
  Y1 N (fun (d:Int->Option Int) (x7:Int)=>
   if (decide (x7<(i:Int))) then
    if (((0:Int)<=x7/\x7<(t.n:Int))/\((0:Int)<=(i:Int)/\(i:Int)<(t.n:Int)))then
     if (((t.g x7.toNat).Name==(t.g (i:Int).toNat).Name) != false) then
      some 16
     else
      d (wrap .i64 (x7+1))
    else none
   else
    f (wrap .i64 ((i:Int)+1))
   ) 0)=some r/\Yb t r:=by
  intro hp;cases hb:LL (t.g i).Name
  .exact A0 rfl ⟨16,rfl,.inr ⟨rfl,fun h=>by have:=(h.2.2 i a).2.2.1;rw[hb]at this;cases this⟩⟩
  refine A2 (by simp) ?_;refine F8 (fun k x7=>x7=(k:Int)/\∀u,u<k->(t.g u).Name≠(t.g i).Name) i _ (by omega) ⟨rfl,fun u o=>Bc o (by omega)⟩ ?_;rintro q k x7 hk ⟨rfl,h'⟩ w;by_cases l:k<i
  .refine A0 (by simp;omega) (A0 (by omega) ?_);rw[AK2,AK2];by_cases e:(t.g k).Name=(t.g i).Name
   .exact A0 (by simp[e]) ⟨16,rfl,.inr ⟨rfl,fun h=>(h.2.2 i a).2.2.2 k l e⟩⟩
   refine A2 (by simp[e]) (w l _ ⟨Aa,fun u o=>?_⟩);by_cases e2:u=k
   .subst e2;exact e
   exact h' u (by omega)
  refine A2 (by simp;omega) (hs a _ ⟨Aa,fun j x=>?_⟩);by_cases e:j=i
  .subst e;exact⟨fun e=>by subst e;exact m,hp,hb,fun u o=>h' u (by omega)⟩
  exact h j (by omega)
 by_cases c:0<i
 .refine A0 (by simp;omega) (A0 (by omega) ?_);rw[AK2];by_cases g1:(t.g i).Parent<0
  .exact A0 (by simpa using g1) (A0 rfl ⟨16,rfl,.inr ⟨rfl,fun h=>by have:=((h.2.2 i a).2.1 c).1;omega⟩⟩)
  refine A2 (by simpa using g1) (A0 (by omega) ?_);by_cases g2:(i:Int)<=(t.g i).Parent
  .exact A0 (by simpa using g2) (A0 rfl ⟨16,rfl,.inr ⟨rfl,fun h=>by have:=((h.2.2 i a).2.1 c).2;omega⟩⟩)
  exact A2 (by simpa using g2) (A0 (by omega) (A7 b (rest fun _=>⟨by omega,by omega⟩)))
 exact A2 (by simp;omega) (A0 (by omega) (A7 (by rw[AK2];exact b) (rest fun h=>Bc h c)))
def Kk {ν : Type}{k s:Str}{v : ν}:∀es:List (Str × ν),CO eqS s (OA eqS k v es)=if s=k then some v else CO eqS s es
 |[]=>by simp only[OA,CO];by_cases h:s=k<;>simp[eqS,h]
 |(a,x)::es=>by
  simp only[OA];by_cases h:k=a
  .subst h;rw[Az (by simp[eqS])];simp only[CO];by_cases b:s=k<;>simp[eqS,b]
  rw[Bb (by simp[eqS,h])];simp only[CO];rw[Kk es];by_cases b:s=k
  .subst b;simp[eqS,h]
  simp[b]
def Wo {ν : Type}{k:Str}{v : ν}:∀{es:List (Str × ν)},CO eqS k es=none->(OA eqS k v es).length=es.length+1
 |[],_=>rfl
 |(a,x)::es,h=>by
  simp only[CO]at h;simp only[OA];by_cases e:eqS k a=true
  .rw[Az e]at h;cases h
  rw[Bb e]at h;rw[Bb e,AN3,Wo h];rfl
def Wp {ν : Type}{k:Str}{v x : ν}:∀{es:List (Str × ν)},CO eqS k es=some x->(OA eqS k v es).length=es.length
 |[],h=>by cases h
 |(a,y)::es,h=>by
  simp only[CO]at h;simp only[OA];by_cases e:eqS k a=true
  .rw[Az e];rfl
  rw[Bb e]at h;rw[Bb e,AN3,Wp h];rfl
def ZE (m:3000000<=N){t:Sl F5}(ht:MK t):∃e,Z0 N t=some e/\Yb t e:=by
 unfold Z0;by_cases o:t.n=0 \/ 63<t.n
 .exact A0 (by simp;omega) ⟨16,rfl,.inr ⟨rfl,fun h=>by have g1:=h.1;have g2:=h.2.1;omega⟩⟩
 refine A2 (by simp;omega) ?_;refine D8 (fun i (x2:List (Str×Bool)) x3=>x3=(i:Int)/\(∀j,j<i->Ah7 t j)/\∀s,(CO eqS s x2=some true/\∃u,u<i/\(t.g u).Name=s) \/ (CO eqS s x2=none/\∀u,u<i->(t.g u).Name≠s)) t.n _ (by omega) ⟨rfl,fun j f=>Bc f (by omega),fun s=>.inr ⟨rfl,fun u c=>Bc c (by omega)⟩⟩ ?_;rintro l i x2 x3 q ⟨rfl,h,hm⟩ hs;by_cases a:i<t.n
 case neg=>exact A2 (by simp;omega) ⟨0,rfl,.inl ⟨rfl,by omega,by omega,fun v r=>h v (by omega)⟩⟩
 refine A0 (by simp;omega) (A0 (by omega) (P0 ?_));rw[AK2];have b:=ZC (N:=N) (s:=(t.g i).Name) (by have:=ht i a;omega) (by have:=ht i a;omega);have e1:(if 0<wrap .i64 ((i:Int)-1)then (0:Int)else wrap .i64 ((i:Int)-1))=if i=0 then -1 else 0:=by rw[F9 (by omega) (by omega)];split<;>split<;>omega
 rw[e1];by_cases g1:(i:Int)<=(t.g i).Parent
 .refine A0 (by simpa using g1) (A0 rfl ⟨16,rfl,.inr ⟨rfl,fun h=>?_⟩⟩);have hk:=h.2.2 i a;by_cases d:i=0
  .subst d;have:=hk.1 rfl;omega
  have:=(hk.2.1 (by omega)).2;omega
 refine A2 (by simpa using g1) ?_;by_cases g2:(t.g i).Parent<if i=0 then -1 else 0
 .refine A0 (by simpa using g2) (A0 rfl ⟨16,rfl,.inr ⟨rfl,fun h=>?_⟩⟩);have hk:=h.2.2 i a;by_cases d:i=0
  .subst d;have:=hk.1 rfl;simp at g2;omega
  have:=(hk.2.1 (by omega)).1;simp[d]at g2;omega
 refine A2 (by simpa using g2) (A7 b ?_);cases hb:LL (t.g i).Name
 .exact A0 rfl (A0 rfl ⟨16,rfl,.inr ⟨rfl,fun h=>by have:=(h.2.2 i a).2.2.1;rw[hb]at this;cases this⟩⟩)
 refine A2 (by simp) ?_;rcases hm (t.g i).Name with⟨e,u,c,hn⟩ | ⟨e,hn⟩
 .rw[e];exact⟨16,rfl,.inr ⟨rfl,fun h=>(h.2.2 i a).2.2.2 u c hn⟩⟩
 rw[e,Ss];refine A2 (show ¬false=true by simp) (hs a _ _ ⟨Aa,fun j f=>?_,fun s=>?_⟩)
 .by_cases e:j=i
  .subst e;refine⟨fun e=>?_,fun hp=>?_,hb,hn⟩
   .subst e;simp at g2;omega
   have:¬j=0:=by omega
   simp[this]at g2;omega
  exact h j (by omega)
 rw[Kk];by_cases e:s=(t.g i).Name
 .exact .inl ⟨by rw[Az e],i,by omega,e.symm⟩
 rw[Bb e];rcases hm s with⟨g,u,c,hn⟩ | ⟨g,hn⟩
 .exact .inl ⟨g,u,by omega,hn⟩
 refine .inr ⟨g,fun u c=>?_⟩;by_cases e2:u=i
 .subst e2;exact fun h=>e h.symm
 exact hn u (by omega)
def QJ (a:3000000<=N){t:Sl F5}(ht:MK t):∃e,Z0 N t=some e/\Bk N t=some e/\Yb t e:=by obtain⟨e,h1,b⟩:=ZE a ht;obtain⟨e',c,d⟩:=ZD a ht;obtain rfl:=Yc b d;exact⟨_,h1,c,b⟩
end Go.AM
namespace Go.AM
open IntKind (wrap)
open Go.Proofs
structure Ej (h:A9):Prop where
 laws:ZB h.Laws
 tree:MK h.Tree
 on:h.On.n<1100000
 len:∀v,v<h.On.n->(h.On.g v).n<1100000
def Cf {h:A9}{v:Nat}(a:(h.Tree.g v).Parent<0):R4 h v=(Sl.nil:Sl Int).app (h.On.g v):=by rw[R4,dif_neg (by omega)]
def FK {h:A9}{v p:Nat}(a:(h.Tree.g v).Parent=(p:Int))(hp:p<v):R4 h v=(R4 h p).app (h.On.g v):=by rw[R4,dif_pos (by omega),a,AK2]
def T8 {t:Sl F5}(ht:AS t){v:Nat}(a:v<t.n):(v=0/\(t.g v).Parent = -1) \/ ∃p:Nat,p<v/\(t.g v).Parent=(p:Int):=by
 have hk:=ht.2.2 v a;by_cases b:v=0
 .subst b;exact .inl ⟨rfl,hk.1 rfl⟩
 obtain⟨g1,g2⟩:=hk.2.1 (by omega);exact .inr ⟨(t.g v).Parent.toNat,by omega,by omega⟩
def UR {h:A9}(a:Ej h)(ht:AS h.Tree)(hn:h.On.n=h.Tree.n):∀(m v:Nat),v<=m->v<h.Tree.n->(R4 h v).n<=(v+1)*1100000
 |m,v,hm,hv=>by
  have hl:=a.len v (by omega);rcases T8 ht hv with⟨_,e⟩ | ⟨p,hp,e⟩
  .rw[Cf (by omega)];show 0+(h.On.g v).n<=_;omega
  rw[FK e hp]
  match m with
  |0=>omega
  |m+1=>
   have:=UR a ht hn m p (by omega) (by omega)
   show (R4 h p).n+(h.On.g v).n<=_;have b:(p+1)*1100000+1100000<=(v+1)*1100000:=by omega
   omega
def ML {h:A9}(a:Ej h)(ht:AS h.Tree)(hn:h.On.n=h.Tree.n):∀(M v:Nat),v+2<=M->v<h.Tree.n->Bu M h (v:Int)=some (R4 h v)
 |0,v,hM,_=>by omega
 |M+1,v,hM,hv=>by
  have b:=ht.2.1;show Y7 (Bu M) M h (v:Int)=_;unfold Y7;rw[Bb (by simp),Aw,AK2];have hl:=a.len v (by omega);rcases T8 ht hv with⟨c,e⟩ | ⟨p,hp,e⟩
  .rw[e,Cf (by omega)]
   have:Bu M h (-1)=some (Sl.nil:Sl Int):=by obtain⟨K,rfl⟩:∃K,M=K+1:=⟨M-1,by omega⟩;show Y7 (Bu K) K h (-1)=_;unfold Y7;rw[Az (by decide)]
   rw[this,AL2,Az ⟨by omega,by show (0+(h.On.g v).n)*8<=_/\0+(h.On.g v).n<=_;omega⟩]
  have hb:=UR a ht hn p p (AK6 _) (by omega);rw[e,ML a ht hn M p (by omega) (by omega),AL2,FK e hp,Az ⟨by omega,by omega⟩]
def ZF (h:A9)(e:Int):Prop:=(US h/\e=2) \/ (¬US h/\(∃v,v<h.On.n/\Au7 h v)/\e=3) \/ (¬US h/\(∀v,v<h.On.n->¬Au7 h v)/\e=0)
def ZG {N:Nat}(hN:3000000<=N){h:A9}(hi:Ej h)(ht:AS h.Tree)(hn:h.On.n=h.Tree.n):∃e,Z1 N h=some e/\ZF h e:=by
 have h63:=ht.2.1;unfold Z1;refine A0 (by omega) ?_;refine Au5 (fun i (x4:Sl Int) (x5:Bool) x6=>x6=(i:Int)/\x4.n=h.On.n/\(∀v,v<i->x4.g v=((R4 h v).n:Int)/\(R4 h v).n<=64)/\(x5=true ↔ ∃v,v<i/\Au7 h v)) h.On.n _ (by omega) ⟨rfl,by show ((h.On.n:Nat):Int).toNat=_;omega,fun v b=>Bc b (by omega),⟨fun g=>(by cases g),fun⟨v,b,_⟩=>Bc b (by omega)⟩⟩ ?_;rintro m i x4 x5 x6 hle ⟨rfl,hx,hp,hb⟩ hs;by_cases o:i<h.On.n
 case neg=>
  refine A2 (by simp;omega) ?_;have hl:¬US h:=fun⟨v,b,hl⟩=>by have:=(hp v (by omega)).2;omega
  cases x5
  .exact A2 (by simp) ⟨0,rfl,.inr (.inr ⟨hl,fun v b g=>(by have:=hb.2 ⟨v,by omega,g⟩;cases this),rfl⟩)⟩
  obtain⟨v,b,g⟩:=hb.1 rfl;exact A0 rfl ⟨3,rfl,.inr (.inl ⟨hl,⟨v,by omega,g⟩,rfl⟩)⟩
 refine A0 (by simp;omega) (A0 (by rw[AK2];omega) (A0 (by omega) (P0 ?_)));rw[AK2];have hl:=hi.len i (by omega);have hlb:=UR hi ht hn i i (AK6 _) (by omega);have rest:∀z:Sl Int,z.n=h.On.n->(∀v,v<i->z.g v=x4.g v)->z.g i=((R4 h i).n:Int)->∃r,(if (((0:Int)<=(i:Int)/\(i:Int)<(z.n:Int))/\i<z.n)then
  if (decide (64<(z.g i))) then
   some 2
  else
   BC N (fun (d:Bool->Int->Option Int) (c:Bool) (a:Int)=>
    if (decide (a<((h.On.g i).n:Int))) then
     if ((0:Int)<=a/\a<((h.On.g i).n:Int))then
      d ((c||(decide (((h.On.g i).g a.toNat)<0)))||(decide ((h.Laws.n:Int)<=((h.On.g i).g a.toNat)))) (wrap .i64 (a+1))
     else none
    else
     m z c (wrap .i64 ((i:Int)+1))
    ) x5 0
  else none)=some r/\ZF h r:=by
  intro z hz u q;refine A0 (by omega) ?_;rw[q];by_cases w:64<(R4 h i).n
  .exact A0 (by simp;omega) ⟨2,rfl,.inl ⟨⟨i,o,w⟩,rfl⟩⟩
  refine A2 (by simp;omega) ?_;refine D8 (fun k (c:Bool) a=>a=(k:Int)/\(c=true↔(∃v,v<i/\Au7 h v) \/ ∃j,j<k/\j<(h.On.g i).n/\((h.On.g i).g j<0 \/ (h.Laws.n:Int)<=(h.On.g i).g j))) (h.On.g i).n _ (by omega) ⟨rfl,hb.trans ⟨fun g=>.inl g,fun g=>g.resolve_right fun⟨j,f,_⟩=>Bc f (by omega)⟩⟩ ?_;rintro x k c a hk ⟨rfl,s⟩ y;by_cases l:k<(h.On.g i).n
  .refine A0 (by simp;omega) (A0 (by omega) (y l _ _ ⟨Aa,?_⟩));rw[AK2,AN7,AN7,s,De,De];constructor
   .rintro (((g|⟨j,f,g⟩)|g)|g)
    .exact .inl g
    .exact .inr ⟨j,by omega,g⟩
    .exact .inr ⟨k,by omega,l,.inl g⟩
    exact .inr ⟨k,by omega,l,.inr g⟩
   rintro (g|⟨j,f,a0,g⟩)
   .exact .inl (.inl (.inl g))
   by_cases e:j=k
   .subst e;rcases g with g|g
    .exact .inl (.inr g)
    exact .inr g
   exact .inl (.inl (.inr ⟨j,by omega,a0,g⟩))
  refine A2 (by simp;omega) (hs o _ _ _ ⟨Aa,hz,fun v b=>?_,s.trans ?_⟩)
  .by_cases e:v=i
   .subst e;exact⟨q,by omega⟩
   rw[u v (by omega)];exact hp v (by omega)
  constructor
  .rintro (⟨v,b,g⟩ | ⟨j,_,f,g⟩)
   .exact⟨v,by omega,g⟩
   exact⟨i,by omega,j,f,g⟩
  rintro⟨v,b,g⟩;by_cases e:v=i
  .subst e;obtain⟨j,f,g⟩:=g;exact .inr ⟨j,by omega,f,g⟩
  exact .inl ⟨v,by omega,g⟩
 rcases T8 ht (v:=i) (by omega)with⟨_,e⟩ | ⟨p,t,e⟩
 .rw[e];refine A2 (by decide) (rest _ hx (fun v b=>?_) ?_)
  .show (if v=i then _ else x4.g v)=_;rw[Ay]
  show (if i=i then ((h.On.g i).n:Int)else _)=_;rw[Az rfl,Cf (by omega)];show _=((0+(h.On.g i).n:Nat):Int);omega
 have a1:=hp p t;rw[e];refine A0 (by simp) (A0 ?_ ?_)
 .show ((((((0:Int)<=(i:Int)/\(i:Int)<(x4.n:Int))/\i<x4.n)/\(0:Int)<=(p:Int)/\(p:Int)<(x4.n:Int))/\(p:Int).toNat<x4.n)/\(0:Int)<=(i:Int)/\(i:Int)<(x4.n:Int))/\i<x4.n;omega
 rw[AK2];refine rest _ hx (fun v b=>?_) ?_
 .show (if v=i then _ else if v=i then _ else x4.g v)=_;rw[Ay,Ay]
 show (if i=i then wrap .i64 ((if i=i then ((h.On.g i).n:Int)else _)+(if p=i then _ else x4.g p))else _)=_;rw[Az rfl,Az rfl,Ay,a1.1,FK e t,F9 (by omega) (by omega)];show _=(((R4 h p).n+(h.On.g i).n:Nat):Int);omega
end Go.AM
namespace Go.AM
variable {N:Nat}
open Go.Proofs
structure KY (N:Nat) (h:A9):Prop where
 tree:AS h.Tree
 laws:Wn N h.Laws
 dup:¬AB4 h h.Laws.n
 on:h.On.n=h.Tree.n
 long:¬US h
 bad:∀v,v<h.On.n->¬Au7 h v
def hres_zero {h:A9}:hres N h=0↔KY N h:=by
 unfold hres;constructor
 .intro g;split at g
  .cases g
  split at g
  .cases g
  split at g
  .cases g
  split at g
  .cases g
  split at g
  .cases g
  split at g
  .cases g
  split at g
  .cases g
  rename_i h1 n c d f j l;exact⟨Bb2.1 h1,⟨by omega,fun i a=>AQ5 fun hn=>c ⟨i,a,hn⟩⟩,d,Bb2.1 f,j,fun v b hb=>l ⟨v,b,hb⟩⟩
 intro g;have m:=g.laws.1;rw[Bb (fun k=>k g.tree),Ay,Bb (fun⟨i,a,hn⟩=>hn (g.laws.2 i a)),Bb g.dup,Bb (fun k=>k g.on),Bb g.long,Bb (fun⟨v,b,hb⟩=>g.bad v b hb)]
def Fh {h:A9}(h1:AS h.Tree)(a:Wn N h.Laws)(b:¬AB4 h h.Laws.n)(c:h.On.n=h.Tree.n){e:Int}(d:ZF h e):e=hres N h:=by
 have f:=a.1;unfold hres;rw[Bb (fun k=>k h1),Ay,Bb (fun⟨i,j,hn⟩=>hn (a.2 i j)),Bb b,Bb (fun k=>k c)];rcases d with⟨g,rfl⟩ | ⟨g,g2,rfl⟩ | ⟨g,g2,rfl⟩
 .rw[Az g]
 .rw[Bb g,Az g2]
 rw[Bb g,Bb (fun⟨v,l,hb⟩=>g2 v l hb)]
def Kl (z:3000000<=N){h:A9}(o:Ej h):N5 N h=some (hres N h):=by
 suffices g:∃r,N5 N h=some r/\r=hres N h by obtain⟨r,g,rfl⟩:=g;exact g
 obtain⟨e,e1,_,he⟩:=QJ z o.tree;unfold N5;refine A7 e1 ?_;rcases he with⟨rfl,ht⟩ | ⟨rfl,ht⟩
 case inr=>exact A0 (by decide) ⟨16,rfl,by unfold hres;rw[Az ht]⟩
 refine A2 (by decide) ?_;by_cases c:64<h.Laws.n
 .exact A0 (by simp;omega) ⟨12,rfl,by unfold hres;rw[Bb (fun k=>k ht),Az c]⟩
 refine A2 (by simp;omega) ?_;refine D8 (fun i (x1:List (Str×Int)) x2=>x2=(i:Int)/\(∀j,j<i->Ha N (h.Laws.g j))/\(∀s,(CO eqS s x1=none/\∀u,u<i->(h.Laws.g u).Name≠s) \/ (∃v,CO eqS s x1=some v)/\∃u,u<i/\(h.Laws.g u).Name=s)/\((AB4 h i/\x1.length<i) \/ (¬AB4 h i/\x1.length=i))) h.Laws.n _ (by omega)
  ⟨rfl,fun j hj=>Bc hj (by omega),fun s=>.inl ⟨rfl,fun u q=>Bc q (by omega)⟩,.inr ⟨fun⟨u,v,_,hv,_⟩=>Bc hv (by omega),rfl⟩⟩ ?_
 rintro self i x1 x2 hle ⟨rfl,hc,hm,hl⟩ hs;by_cases d:i<h.Laws.n
 .obtain⟨y,y1,_,hy⟩:=SJ z (o.laws i d);refine A0 (by simp;omega) (A0 (by omega) (A7 (by rw[AK2];exact y1) ?_));rcases hy with⟨rfl,hy⟩ | ⟨rfl,hy⟩
  case inr=>exact A0 (by decide) ⟨17,rfl,by unfold hres;rw[Bb (fun k=>k ht),Bb c,Az ⟨i,d,hy⟩]⟩
  refine A2 (by decide) ?_;rw[AK2];have t : ∀j,j<i+1->Ha N (h.Laws.g j):=fun j hj=>by
   by_cases e:j=i
   .subst e;exact hy
   exact hc j (by omega)
  have look:∀(v:Int) (s:Str),(CO eqS s (OA eqS (h.Laws.g i).Name v x1)=none/\∀u,u<i+1->(h.Laws.g u).Name≠s) \/ (∃w,CO eqS s (OA eqS (h.Laws.g i).Name v x1)=some w)/\∃u,u<i+1/\(h.Laws.g u).Name=s:=by
   intro v s;rw[Kk];by_cases e:s=(h.Laws.g i).Name
   .exact .inr ⟨⟨v,by rw[Az e]⟩,i,by omega,e.symm⟩
   rw[Bb e];rcases hm s with⟨g,g2⟩ | ⟨g,u,q,g2⟩
   .refine .inl ⟨g,fun u q=>?_⟩;by_cases e2:u=i
    .subst e2;exact fun k=>e k.symm
    exact g2 u (by omega)
   exact .inr ⟨g,u,by omega,g2⟩
  rcases hm (h.Laws.g i).Name with⟨g,g2⟩ | ⟨⟨v,g⟩,u,q,g2⟩
  .rw[g,Ss];refine hs d _ _ ⟨Aa,t,look _,?_⟩;rw[Wo g];rcases hl with⟨⟨a,b,f,hb,hn⟩,hl⟩ | ⟨m,hl⟩
   .exact .inl ⟨⟨a,b,f,by omega,hn⟩,by omega⟩
   refine .inr ⟨fun⟨a,b,f,hb,hn⟩=>?_,by omega⟩;by_cases e:b=i
   .subst e;exact g2 a f hn
   exact m ⟨a,b,f,by omega,hn⟩
  rw[g,Zn];refine hs d _ _ ⟨Aa,t,look _,?_⟩;rw[Wp g];refine .inl ⟨⟨u,i,q,by omega,g2⟩,?_⟩;rcases hl with⟨_,hl⟩ | ⟨_,hl⟩<;>omega
 obtain rfl:i=h.Laws.n:=by omega
 have hok:Wn N h.Laws:=⟨by omega,hc⟩;have x:¬ ∃i,i<h.Laws.n/\¬Ha N (h.Laws.g i):=fun⟨i,o,hn⟩=>hn (hc i o);refine A2 (by simp) ?_;rw[Us];rcases hl with⟨m,hl⟩ | ⟨m,hl⟩
 .exact A0 (by simp;omega) ⟨6,rfl,by unfold hres;rw[Bb (fun k=>k ht),Bb c,Bb x,Az m]⟩
 refine A2 (by simp;omega) ?_;by_cases l:h.On.n=h.Tree.n
 case neg=>exact A0 (by simp;omega) ⟨2,rfl,by unfold hres;rw[Bb (fun k=>k ht),Bb c,Bb x,Bb m,Az l]⟩
 refine A2 (by simp[l]) ?_;obtain⟨e,e1,he⟩:=ZG z o ht l;exact A7 e1 ⟨e,rfl,Fh ht hok m l he⟩
def SM (hN:3000000<=N){h:A9}(q:Ej h):Bl N h=some (hres N h):=by
 suffices g:∃r,Bl N h=some r/\r=hres N h by obtain⟨r,g,rfl⟩:=g;exact g
 obtain⟨e,_,e1,he⟩:=QJ hN q.tree;unfold Bl;refine A7 e1 ?_;rcases he with⟨rfl,ht⟩ | ⟨rfl,ht⟩
 case inr=>exact A0 (by decide) ⟨16,rfl,by unfold hres;rw[Az ht]⟩
 refine A2 (by decide) ?_;by_cases f:64<h.Laws.n
 .exact A0 (by simp;omega) ⟨12,rfl,by unfold hres;rw[Bb (fun k=>k ht),Az f]⟩
 refine A2 (by simp;omega) ?_;refine F8 (fun i x1=>x1=(i:Int)/\∀j,j<i->Ha N (h.Laws.g j)) h.Laws.n _ (by omega) ⟨rfl,fun j s=>Bc s (by omega)⟩ ?_;rintro self i x1 hle ⟨rfl,hc⟩ hs;by_cases a:i<h.Laws.n
 .obtain⟨y,_,y1,hy⟩:=SJ hN (q.laws i a);refine A0 (by simp;omega) (A0 (by omega) (A7 (by rw[AK2];exact y1) ?_));rcases hy with⟨rfl,hy⟩ | ⟨rfl,hy⟩
  case inr=>exact A0 (by decide) ⟨17,rfl,by unfold hres;rw[Bb (fun k=>k ht),Bb f,Az ⟨i,a,hy⟩]⟩
  refine A2 (by decide) (hs a _ ⟨Aa,fun j s=>?_⟩);by_cases e:j=i
  .subst e;exact hy
  exact hc j (by omega)
 obtain rfl:i=h.Laws.n:=by omega
 have l:Wn N h.Laws:=⟨by omega,hc⟩;have w:¬ ∃i,i<h.Laws.n/\¬Ha N (h.Laws.g i):=fun⟨i,q,hn⟩=>hn (hc i q);refine A2 (by simp) ?_;refine F8 (fun i x1=>x1=(i:Int)/\¬AB4 h i) h.Laws.n _ (by omega) ⟨rfl,fun⟨u,v,_,d,_⟩=>Bc d (by omega)⟩ ?_;rintro a3 i x1 hle2 ⟨rfl,t⟩ a4;by_cases a:i<h.Laws.n
 .refine A0 (by simp;omega) ?_;refine F8 (fun k x5=>x5=(k:Int)/\∀u,u<k->(h.Laws.g u).Name≠(h.Laws.g i).Name) i _ (by omega) ⟨rfl,fun u hu=>Bc hu (by omega)⟩ ?_;rintro a5 k x5 hk ⟨rfl,x⟩ a6;by_cases z:k<i
  .refine A0 (by simp;omega) (A0 (by omega) ?_);rw[AK2,AK2];by_cases e:(h.Laws.g k).Name=(h.Laws.g i).Name
   .exact A0 (by simp[e]) ⟨6,rfl,by unfold hres;rw[Bb (fun k=>k ht),Bb f,Bb w,Az ⟨k,i,z,a,e⟩]⟩
   refine A2 (by simp;exact fun g=>e g.symm) (a6 z _ ⟨Aa,fun u hu=>?_⟩);by_cases e2:u=k
   .subst e2;exact e
   exact x u (by omega)
  refine A2 (by simp;omega) (a4 a _ ⟨Aa,fun⟨u,v,a7,d,hn⟩=>?_⟩);by_cases e:v=i
  .subst e;exact x u (by omega) hn
  exact t ⟨u,v,a7,by omega,hn⟩
 obtain rfl:i=h.Laws.n:=by omega
 refine A2 (by simp) ?_;by_cases b:h.On.n=h.Tree.n
 case neg=>exact A0 (by simp;omega) ⟨2,rfl,by unfold hres;rw[Bb (fun k=>k ht),Bb f,Bb w,Bb t,Az b]⟩
 refine A2 (by simp[b]) ?_;have h63:=ht.2.1;refine F8 (fun i x1=>x1=(i:Int)/\∀v,v<i->¬ 64<(R4 h v).n) h.On.n _ (by omega) ⟨rfl,fun v d=>Bc d (by omega)⟩ ?_;rintro a8 i x1 hle3 ⟨rfl,a0⟩ a9;by_cases a:i<h.On.n
 .refine A0 (by simp;omega) (A7 (ML q ht b N i (by omega) (by omega)) ?_);by_cases hg:64<(R4 h i).n
  .exact A0 (by simp;omega) ⟨2,rfl,Fh ht l t b (.inl ⟨⟨i,a,hg⟩,rfl⟩)⟩
  refine A2 (by simp;omega) (a9 a _ ⟨Aa,fun v d=>?_⟩);by_cases e:v=i
  .subst e;exact hg
  exact a0 v (by omega)
 refine A2 (by simp;omega) ?_;have m:¬US h:=fun⟨v,d,g⟩=>a0 v (by omega) g;refine F8 (fun i x1=>x1=(i:Int)/\∀v,v<i->¬Au7 h v) h.On.n _ (by omega) ⟨rfl,fun v d=>Bc d (by omega)⟩ ?_;rintro b0 i x1 hle4 ⟨rfl,a1⟩ b1;by_cases c:i<h.On.n
 .have hl:=q.len i c;refine A0 (by simp;omega) ?_;refine F8 (fun k x1=>x1=(k:Int)/\∀j,j<k->¬((h.On.g i).g j<0 \/ (h.Laws.n:Int)<=(h.On.g i).g j)) (h.On.g i).n _ (by omega) ⟨rfl,fun j s=>Bc s (by omega)⟩ ?_;rintro b2 k x1 hk ⟨rfl,a2⟩ b3;refine A0 (by omega) ?_;rw[AK2,AK2];by_cases o:k<(h.On.g i).n
  .refine A0 (by simp;omega) (A0 (by omega) ?_);by_cases g1:(h.On.g i).g k<0
   .exact A0 (by simpa using g1) ⟨3,rfl,Fh ht l t b (.inr (.inl ⟨m,⟨i,c,k,o,.inl g1⟩,rfl⟩))⟩
   refine A2 (by simpa using g1) (A0 (by omega) ?_);by_cases g2:(h.Laws.n:Int)<=(h.On.g i).g k
   .exact A0 (by simpa using g2) ⟨3,rfl,Fh ht l t b (.inr (.inl ⟨m,⟨i,c,k,o,.inr g2⟩,rfl⟩))⟩
   refine A2 (by simpa using g2) (b3 o _ ⟨Aa,fun j s=>?_⟩);by_cases e:j=k
   .subst e;exact fun g=>g.elim g1 g2
   exact a2 j (by omega)
  refine A2 (by simp;omega) (b1 c _ ⟨Aa,fun v d=>?_⟩);by_cases e:v=i
  .subst e;exact fun⟨j,s,g⟩=>a2 j (by omega) g
  exact a1 v (by omega)
 exact A2 (by simp;omega) ⟨0,rfl,Fh ht l t b (.inr (.inr ⟨m,fun v d=>a1 v (by omega),rfl⟩))⟩
end Go.AM
namespace Go.AM
open IntKind (wrap)
open Go.Proofs
def Yd (t:Sl F5)(v:Nat):List Nat:= if hp:0<=(t.g v).Parent/\(t.g v).Parent<v then Yd t (t.g v).Parent.toNat++[v]else [v]
termination_by v
decreasing_by omega
def Jj {t:Sl F5}{v:Nat}(a:(t.g v).Parent<0):Yd t v=[v]:=by rw[Yd,dif_neg (by omega)]
def QK {t:Sl F5}{v p:Nat}(a:(t.g v).Parent=(p:Int))(hp:p<v):Yd t v=Yd t p++[v]:=by rw[Yd,dif_pos (by omega),a,AK2]
def UT {t:Sl F5}(ht:AS t):∀(m v:Nat),v<=m->v<t.n->∀x∈Yd t v,x<=v
 |m,v,hm,hv,x,hx=>by
  rcases T8 ht hv with⟨_,e⟩ | ⟨p,hp,e⟩
  .rw[Jj (by omega)]at hx;simp at hx;omega
  rw[QK e hp]at hx;rcases Bh6.1 hx with hx|hx
  .match m with
   |0=>omega
   |m+1=>have:=UT ht m p (by omega) (by omega) x hx;omega
  simp at hx;omega
def Ah8 {α : Type}{x:Sl α}{m:Nat}(h:x.n=m+1):x.toList.reverse=x.g m::(x.take m).toList.reverse:=by unfold Sl.toList;rw[h,AN5,AR5,AU8];rfl
def Wq {x2:Sl Int}(hx:x2.n<100000):∀(k M:Nat),k<=x2.n->k<M->Y1 M (fun (a:Int->Option (List Int)) (x3:Int)=>
 if (decide (0<=x3)) then
  if (((0:Int)<=x3/\x3<(x2.n:Int))/\x3.toNat<x2.n)then
   GM (x2.g x3.toNat) (
    a (wrap .i64 (x3-1))
    )
  else none
 else
  some []
 ) ((k:Int)-1)=some (x2.take k).toList.reverse
 |0,M,hk,hM=>by obtain⟨M,rfl⟩:∃K,M=K+1:=⟨M-1,by omega⟩;rw[Q9,Bb (by simp)];rfl
 |k+1,M,hk,hM=>by obtain⟨M,rfl⟩:∃K,M=K+1:=⟨M-1,by omega⟩;rw[show ((k+1:Nat):Int)-1=(k:Int) by omega,Q9,Az (by simp),Az ⟨by omega,by omega⟩,F9 (by omega) (by omega),Wq hx k M (by omega) (by omega),AK2,Ah8 (x:=x2.take (k+1)) (m:=k) rfl];rfl
def ZH {N:Nat}(j:3000000<=N){t:Sl F5}(ht:AS t){v:Nat}(f:v<t.n):R5 N (v:Int) t=some ((Yd t v).map fun (x:Nat)=>(x:Int)):=by
 have i:=ht.2.1;have key:∀(m c:Nat) (x2:Sl Int) (M:Nat),c<m->c<t.n->m+1<M->x2.n+c<=1000->∃y:Sl Int,y.n<=1001/\y.toList.reverse=((Yd t c).map fun (x:Nat)=>(x:Int))++x2.toList.reverse /\
  BC M (fun (a:Int->Sl Int->Option (List Int)) (x1:Int) (x2:Sl Int)=>
  if (decide (0<=x1)) then
   if (((x2.n+(Sl.of [x1]:Sl Int).n)*8<=140737488355328/\x2.n+(Sl.of [x1]:Sl Int).n<=140737488355328)/\((0:Int)<=x1/\x1<(t.n:Int)))then
    a (t.g x1.toNat).Parent (x2.push x1)
   else none
  else
   Y1 N (fun b (x3:Int)=>
    if (decide (0<=x3)) then
     if (((0:Int)<=x3/\x3<(x2.n:Int))/\x3.toNat<x2.n)then
      GM (x2.g x3.toNat) (
       b (wrap .i64 (x3-1))
       )
     else none
    else
     some []
    ) (wrap .i64 ((x2.n:Int)-1))
  ) (c:Int) x2=some y.toList.reverse:=by
  intro m
  induction m with
  |zero=>exact fun c _ _ h=>Bc h (by omega)
  |succ m ih=>
   intro c x2 M hc d l hx;obtain⟨M,rfl⟩:∃K,M=K+1:=⟨M-1,by omega⟩;rw[Sr,Az (by simp),Az ⟨by show (x2.n+1)*8<=_/\x2.n+1<=_;omega,by omega⟩,AK2];rcases T8 ht d with⟨_,e⟩ | ⟨p,hp,e⟩
   .obtain⟨M,rfl⟩:∃K,M=K+1:=⟨M-1,by omega⟩;refine⟨x2.push (c:Int),by show x2.n+1<=_;omega,by rw[FJ,AU8,Jj (by omega)];rfl,?_⟩;rw[e,Sr,Bb (by decide)];have hb:=Wq (x2:=x2.push (c:Int)) (by show x2.n+1<_;omega) (x2.n+1) N (AK6 _) (by omega);rw[F9 (by show _<=((x2.n+1:Nat):Int)-1;omega) (by show ((x2.n+1:Nat):Int)-1<=_;omega)];exact hb
   obtain⟨y,y1,y2,y3⟩:=ih p (x2.push (c:Int)) M (by omega) (by omega) (by omega) (by show x2.n+1+p<=_;omega);refine⟨y,y1,?_,by rw[e];exact y3⟩;rw[y2,FJ,AU8,QK e hp,AR5,AR0];rfl
 obtain⟨y,_,y2,y3⟩:=key (v+1) v (Sl.nil:Sl Int) N (by omega) f (by omega) (by show 0+v<=_;omega);unfold R5;rw[y3,y2];show some (_++[])=_;rw[AQ0]
def Au8 (h:A9)(L:List Nat)(z:Sl Int):Sl Int:=L.foldl (fun z x=>z.app (h.On.g x)) z
def SN {h:A9}(ht:AS h.Tree):∀(m v:Nat),v<=m->v<h.Tree.n->Au8 h (Yd h.Tree v) (Sl.nil:Sl Int)=R4 h v
 |m,v,hm,hv=>by
  rcases T8 ht hv with⟨_,e⟩ | ⟨p,hp,e⟩
  .rw[Jj (by omega),Cf (by omega)];rfl
  rw[QK e hp,FK e hp]
  match m with
  |0=>omega
  |m+1=>
   have:=SN ht m p (by omega) (by omega)
   unfold Au8 at this⊢;rw[List.foldl_append,this];rfl
def MM {h:A9}(c:Ej h):∀(L:List Nat) (z:Sl Int),(∀x∈L,x<h.On.n)->z.n+L.length*1100000<=10000000000 ->
 X0 (L.map fun (x:Nat)=>(x:Int)) (fun (a:Sl Int->Option ((Sl Int)×Int)) (x1:Int) (z1:Sl Int)=>
  if (((0:Int)<=x1/\x1<(h.On.n:Int))/\((z1.n+(h.On.g x1.toNat).n)*8<=140737488355328/\z1.n+(h.On.g x1.toNat).n<=140737488355328))then
   a (z1.app (h.On.g x1.toNat))
  else none
  ) (fun (z1:Sl Int)=>
   some (z1,0)
  ) z=some (Au8 h L z,0)
 |[],z,_,_=>rfl
 |x::L,z,hx,hz=>by have b:=hx x (by simp);have hl:=c.len x b;simp only[AN3,AY4]at hz;rw[AM0,X0,AK2,Az ⟨by omega,by omega⟩];exact MM c L _ (fun y hy=>hx y (by simp[hy])) (by show z.n+(h.On.g x).n+_<=_;omega)
def QL {t:Sl F5}(ht:AS t):∀(m v:Nat),v<=m->v<t.n->(Yd t v).length<=v+1
 |m,v,hm,hv=>by
  rcases T8 ht hv with⟨_,e⟩ | ⟨p,hp,e⟩
  .rw[Jj (by omega)];simp
  rw[QK e hp]
  match m with
  |0=>omega
  |m+1=>have:=QL ht m p (by omega) (by omega);simp;omega
def Ah9 {N:Nat}(g:3000000<=N){h:A9}(d:Ej h)(v:Int) :∃s e,Q2 N h v=some (s,e)/\Ki N h v=some (s,e)/\((e=0/\KY N h/\0<=v/\v<h.Tree.n/\s=R4 h v.toNat) \/ (e≠0/\s=(Sl.nil:Sl Int))):=by
 unfold Q2 Ki;rw[Kl g d,SM g d,AL2,AL2];by_cases f:hres N h=0
 case neg=>
  have b:(hres N h != 0)=true:=by simpa using f
  rw[Az b,Az b];exact⟨_,_,rfl,rfl,.inr ⟨f,rfl⟩⟩
 have a:=hres_zero.1 f;have c:¬(hres N h != 0)=true:=by simp[f]
 rw[Bb c,Bb c,AT,PF,AL2,AL2];by_cases m:0<=v/\v<(h.Tree.n:Int)
 case neg=>
  have hb:(!((decide (0<=v))&&(decide (v<(h.Tree.n:Int)))))=true:=by simp;omega
  rw[Az hb,Az hb];exact⟨_,_,rfl,rfl,.inr ⟨by decide,rfl⟩⟩
 have hb:¬(!((decide (0<=v))&&(decide (v<(h.Tree.n:Int)))))=true:=by simp;omega
 rw[Bb hb,Bb hb,Aq,AL2];obtain⟨u,rfl⟩:∃u:Nat,v=(u:Int):=⟨v.toNat,by omega⟩;have l:=a.tree.2.1;have hw:=ZH g a.tree (v:=u) (by omega);have j:=QL a.tree u u (AK6 _) (by omega);have i:=MM d (Yd h.Tree u) (Sl.nil:Sl Int) (fun x hx=>by have:=UT a.tree u u (AK6 _) (by omega) x hx;have:=a.on;omega) (by show 0+_<=_;omega);rw[ML d a.tree a.on N u (by omega) (by omega),AL2];refine⟨R4 h u,0,?_,rfl,.inl ⟨rfl,a,by omega,by omega,by rw[AK2]⟩⟩;show (R5 N (u:Int) h.Tree).bind _=_;rw[hw,AL2,i,SN a.tree u u (AK6 _) (by omega)]
def ZI {N:Nat}{h:A9}(a:KY N h):∀(m v:Nat),v<=m->v<h.Tree.n->∀i,i<(R4 h v).n->0<=(R4 h v).g i/\(R4 h v).g i<h.Laws.n
 |m,v,hm,hv,i,b=>by
  have Ar0:∀j,j<(h.On.g v).n->0<=(h.On.g v).g j/\(h.On.g v).g j<h.Laws.n:=fun j c=>by
   have:=a.bad v (by have:=a.on;omega)
   constructor
   .exact Int.not_lt.1 fun g=>this ⟨j,c,.inl g⟩
   exact Int.not_le.1 fun g=>this ⟨j,c,.inr g⟩
  rcases T8 a.tree hv with⟨_,e⟩ | ⟨p,hp,e⟩
  .rw[Cf (by omega)]at b⊢;have b:i<0+(h.On.g v).n:=b
   have:((Sl.nil:Sl Int).app (h.On.g v)).g i=(h.On.g v).g i:=by show (if i<0 then (default:Int)else (h.On.g v).g (i-0))=_;rw[Ay];rfl
   rw[this];exact Ar0 i (by omega)
  rw[FK e hp]at b⊢;have b:i<(R4 h p).n+(h.On.g v).n:=b;show 0<=(if i<(R4 h p).n then (R4 h p).g i else (h.On.g v).g (i-(R4 h p).n))/\(if i<(R4 h p).n then (R4 h p).g i else (h.On.g v).g (i-(R4 h p).n))<_;split
  .match m with
   |0=>omega
   |m+1=>exact ZI a m p (by omega) (by omega) i (by assumption)
  exact Ar0 _ (by omega)
end Go.AM
namespace Go.AM
variable {N:Nat}
open IntKind (wrap)
open Go.Proofs
def SO {R:Type}{x:Option R}{y:R}(h:∃r,x=some r/\r=y):x=some y:=by obtain⟨r,h,rfl⟩:=h;exact h
def QM (t:Sl F5)(v:Nat):Prop:=∀u,0<u->u<t.n->(t.g u).Parent≠(v:Int)
open Classical in
noncomputable def AF (t:Sl F5):Nat->Sl Int
 |0=>(Sl.nil:Sl Int)
 |i+1=>if QM t i then (AF t i).push (i:Int)else AF t i
def MN {t:Sl F5}{i:Nat}(h:QM t i):AF t (i+1)=(AF t i).push (i:Int):=Az h
def QN {t:Sl F5}{i:Nat}(h:¬QM t i):AF t (i+1)=AF t i:=Bb h
def UU (t:Sl F5):∀i,(AF t i).n<=i
 |0=>AK6 0
 |i+1=>by
  have:=UU t i
  by_cases h:QM t i
  .rw[MN h];show (AF t i).n+1<=i+1;omega
  rw[QN h];omega
def UV (t:Sl F5):∀i k,k<(AF t i).n->∃v:Nat,v<i/\(AF t i).g k=(v:Int)
 |0,k,hk=>Bc hk (AT0 k)
 |i+1,k,hk=>by
  by_cases h:QM t i
  .rw[MN h]at hk⊢;have hk:k<(AF t i).n+1:=hk;show ∃v:Nat,v<i+1/\(if k<(AF t i).n then (AF t i).g k else (i:Int))=(v:Int);by_cases a:k<(AF t i).n
   .rw[Az a];obtain⟨v,h1,b⟩:=UV t i k a;exact⟨v,by omega,b⟩
   rw[Bb a];exact⟨i,by omega,rfl⟩
  rw[QN h]at hk⊢;obtain⟨v,h1,b⟩:=UV t i k hk;exact⟨v,by omega,b⟩
def Ai0 (s:3000000<=N){t:Sl F5}(ht:AS t):∃X,Z2 N t=some X/\(X.n=t.n/\∀v,v<t.n->((X.g v).n=0↔QM t v)):=by
 have o:=ht.2.1;unfold Z2;refine A0 (by omega) (D8 (fun i x (X:Sl (Sl Int))=>x=(i:Int)/\X.n=t.n/\∀v,v<t.n->(((X.g v).n=0 ↔ ∀u,0<u->u<i->(t.g u).Parent≠(v:Int))/\(X.g v).n<=i)) t.n _ (by omega)
  ⟨rfl,rfl,fun v b=>⟨⟨fun _ u h1 a=>Bc a (AT0 u),fun _=>rfl⟩,AK6 0⟩⟩ ?_)
 rintro l i x X hle ⟨rfl,c,f⟩ hs;by_cases hl:i<t.n
 case neg=>
  obtain rfl:i=t.n:=by omega
  exact A2 (by simp) ⟨X,rfl,c,fun v b=>(f v b).1⟩
 refine A0 (by simpa using hl) (A0 (by omega) ?_);rw[AK2,Aa];rcases T8 ht hl with⟨q,h1⟩ | ⟨p,hp,e⟩
 .subst q;rw[h1];refine A0 (by show Int.toNat (-1)<X.n;rw[c];exact hl) (P0 (A2 (by simp) (hs hl _ _ ⟨rfl,c,fun v b=>?_⟩)));have e:(X.upd (Int.toNat (-1)) (X.g (Int.toNat (-1)))).g v=X.g v:=by
   show (if v=_ then X.g (Int.toNat (-1))else X.g v)=X.g v;split
   .rename_i e;rw[e]
   rfl
  rw[e];obtain⟨g1,g2⟩:=f v b;exact⟨g1.trans ⟨fun _ u h1 a=>Bc a (by omega),fun _ u h1 a=>Bc a (by omega)⟩,by omega⟩
 rw[e,AK2];have j:p<t.n:=by omega
 have m:=(f p j).2;refine A0 (by omega) (P0 (A0 (by simp;omega) (A0 ⟨⟨by omega,by rw[c];omega⟩,by omega,by omega⟩ (hs hl _ _ ⟨rfl,c,fun v b=>?_⟩))));show ((if v=p then (X.g p).push (i:Int)else X.g v).n=0↔_)/\(if v=p then (X.g p).push (i:Int)else X.g v).n<=i+1;by_cases d:v=p
 .subst d;rw[Az rfl];refine⟨⟨fun h=>Bc h (Nat.succ_ne_zero _),fun h=>Bc e (h i (by omega) (by omega))⟩,?_⟩;show (X.g v).n+1<=i+1;omega
 rw[Bb d];obtain⟨g1,g2⟩:=f v b;refine⟨g1.trans ⟨fun h u h1 a=>?_,fun h u h1 a=>h u h1 (by omega)⟩,by omega⟩;by_cases r:u=i
 .subst r;rw[e];omega
 exact h u h1 (by omega)
def AD3 {R:Type}{Q:R->Prop}{a:Sl Int->Int->Option R}{t:Sl F5}{i:Nat}(c:i<1000){b:Bool}(hb:b=true↔QM t i)(h:∃r,a (AF t (i+1)) ((i+1:Nat):Int)=some r/\Q r) :∃r,(if b then
  if (((AF t i).n+(Sl.of [(i:Int)]:Sl Int).n)*8<=140737488355328/\(AF t i).n+(Sl.of [(i:Int)]:Sl Int).n<=140737488355328)then
   a ((AF t i).push (i:Int)) (wrap .i64 ((i:Int)+1))
  else none
  else a (AF t i) (wrap .i64 ((i:Int)+1)))=some r/\Q r:=by
 have hn:=UU t i;rw[Aa];by_cases hk:QM t i
 .rw[MN hk]at h;exact A0 (hb.2 hk) (A0 ⟨by show ((AF t i).n+1)*8<=_;omega,by show (AF t i).n+1<=_;omega⟩ h)
 rw[QN hk]at h;exact A2 (fun g=>hk (hb.1 g)) h
def UW (c:3000000<=N){t:Sl F5}(ht:AS t):∃r,BJ N t=some r/\r=AF t t.n:=by
 have d:=ht.2.1;unfold BJ;obtain⟨X,e,a,hk⟩:=Ai0 c ht;refine A7 e (D8 (fun i x1 x2=>x2=(i:Int)/\x1=AF t i) t.n _ (by omega) ⟨rfl,rfl⟩ ?_);rintro b i x1 x2 hle ⟨rfl,rfl⟩ hs;by_cases hl:i<t.n
 .refine A0 (by rw[a];simpa using hl) (A0 (by omega) ?_);rw[AK2];exact AD3 (by omega) (by rw[<- hk i hl];simp) (hs hl _ _ ⟨rfl,rfl⟩)
 obtain rfl:i=t.n:=by omega
 exact A2 (by rw[a];simp) ⟨_,rfl,rfl⟩
def Ai1 (l:3000000<=N){t:Sl F5}(ht:AS t){v:Nat}(m:v<t.n):∃r,EB N t (v:Int)=some r/\(r.n=0↔QM t v):=by
 have f:=ht.2.1;unfold EB;refine D8 (fun i (x1:Sl Int) x2=>x2=(i:Int)/\x1.n<=i/\(x1.n=0 ↔ ∀u,0<u->u<i->(t.g u).Parent≠(v:Int))) t.n _ (by omega) ⟨rfl,AK6 0,fun _ u h1 a=>Bc a (AT0 u),fun _=>rfl⟩ ?_;rintro b i x1 x2 hle ⟨rfl,hn,c⟩ hs;by_cases hl:i<t.n
 .refine A0 (by simpa using hl) (A0 (by omega) ?_);rw[AK2,Aa];by_cases hp:(t.g i).Parent=(v:Int)
  .have d:0<i:=by
    rcases T8 ht hl with⟨d,h1⟩ | ⟨p,hp,e⟩
    .rw[h1]at hp;omega
    omega
   refine A0 (by simpa using hp) (A0 ⟨by show (x1.n+1)*8<=_;omega,by show x1.n+1<=_;omega⟩ (hs hl _ _ ⟨rfl,by show x1.n+1<=i+1;omega,fun h=>Bc h (Nat.succ_ne_zero _),fun h=>Bc hp (h i d (by omega))⟩))
  refine A2 (by simpa using hp) (hs hl _ _ ⟨rfl,by omega,c.trans ⟨fun h u h1 a=>?_,fun h u h1 a=>h u h1 (by omega)⟩⟩);by_cases j:u=i
  .subst j;exact hp
  exact h u h1 (by omega)
 obtain rfl:i=t.n:=by omega
 exact A2 (by simp) ⟨_,rfl,c⟩
def Ye (a:3000000<=N){t:Sl F5}(c:MK t):∃s e,Am N t=some (s,e)/\KT N t=some (s,e)/\((AS t/\e=0/\s=AF t t.n) \/ (¬AS t/\e=16/\s=(Sl.nil:Sl Int))):=by
 obtain⟨e,e1,e2,d⟩:=QJ a c;unfold Am KT;rw[e1,e2,AL2,AL2];rcases d with⟨rfl,ht⟩ | ⟨rfl,ht⟩
 .have f:=ht.2.1;rw[Bb (by decide),Bb (by decide)];obtain⟨r,g1,rfl⟩:=UW a ht;refine⟨_,0,by rw[g1];rfl,SO (D8 (fun i x1 x2=>x2=(i:Int)/\x1=AF t i) t.n _ (by omega) ⟨rfl,rfl⟩ ?_),.inl ⟨ht,rfl,rfl⟩⟩;rintro b i x1 x2 hle ⟨rfl,rfl⟩ hs;by_cases hl:i<t.n
  .refine A0 (by simpa using hl) ?_;obtain⟨r,k1,k2⟩:=Ai1 a ht hl;exact A7 k1 (AD3 (by omega) (by rw[<- k2];simp) (hs hl _ _ ⟨rfl,rfl⟩))
  obtain rfl:i=t.n:=by omega
  exact A2 (by simp) ⟨_,rfl,rfl⟩
 exact⟨_,16,Az (by decide),Az (by decide),.inr ⟨ht,rfl,rfl⟩⟩
end Go.AM
namespace Go.AM
variable {N:Nat}
open Go.Proofs
def SP (t:3000000<=N)(h:A9):∃b,Cc N h=some b/\True:=by
 unfold Cc;by_cases hb:(((decide (70<(h.Tree.n:Int)))||(decide (70<(h.Laws.n:Int))))||(decide (70<(h.On.n:Int))))=true
 .exact A0 hb ⟨_,rfl,trivial⟩
 refine A2 hb ?_;have o : h.Laws.n<=70/\h.On.n<=70:=by simp at hb;omega
 refine F8 (fun i x=>x=(i:Int)) h.On.n _ (by omega) rfl ?_;rintro l i x q rfl hs;by_cases d:i<h.On.n
 .refine A0 (by simp;omega) (A0 (by omega) ?_);by_cases m:(decide (70<((h.On.g (i:Int).toNat).n:Int)))=true
  .exact A0 m ⟨_,rfl,trivial⟩
  exact A2 m (hs d _ (Aa))
 refine A2 (by simp;omega) ?_;refine F8 (fun i x=>x=(i:Int)) h.Laws.n _ (by omega) rfl ?_;rintro f i x q rfl j;by_cases d:i<h.Laws.n
 .rw[Aa];refine A0 (by simp;omega) (A0 (by omega) ?_);obtain⟨r,s⟩:=Ah5 (N:=N) (by omega) (h.Laws.sub (i:Int).toNat ((i+1:Nat):Int).toNat);refine A7 s ?_;have last:∀z3:Bool,∃r,(if z3 then some false else f ((i+1:Nat):Int))=some r/\True:=fun z=>by
   cases z
   .exact A2 (by simp) (j d _ rfl)
   exact A0 rfl ⟨_,rfl,trivial⟩
  refine P0 ?_;by_cases g1:(decide (4<r))=true
  .exact A0 g1 (last _)
  refine A2 g1 ?_;by_cases g2:(decide (20<((h.Laws.g (i:Int).toNat).If.n:Int)))=true
  .exact A0 g2 (last _)
  refine A2 g2 ?_;by_cases g3:(decide (20<((h.Laws.g (i:Int).toNat).Out.n:Int)))=true
  .exact A0 g3 (last _)
  refine A2 g3 ?_;obtain⟨a,ha,_⟩:=Ji (N:=N) (by omega) (h.Laws.g (i:Int).toNat).Left;refine A7 ha ?_;by_cases g4:(decide (41<(a:Int)))=true
  .exact A0 g4 (last _)
  refine A2 g4 ?_;obtain⟨c,hc,_⟩:=Ji (N:=N) (by omega) (h.Laws.g (i:Int).toNat).Right;exact A7 hc (last _)
 exact A2 (by simp;omega) ⟨_,rfl,trivial⟩
def ZJ (t:3000000<=N){h:A9}(u:Ej h)(l:Sl (Sl Eg)):∃b,Dy N h l=some b/\(b=true->l.n<=300/\∀i,i<l.n->(l.g i).n<=50):=by
 obtain⟨b,hb,_⟩:=SP t h;unfold Dy;refine A7 hb ?_;by_cases g:((!b)||(decide (300<(l.n:Int))))=true
 .exact A0 g ⟨_,rfl,fun g=>by cases g⟩
 refine A2 g ?_;have hn:l.n<=300:=by simp at g;omega
 refine D8 (fun i x1 x2=>x2=(i:Int)/\∀j,j<i->(l.g j).n<=50) l.n _ (by omega) ⟨rfl,fun j v=>Bc v (by omega)⟩ ?_;rintro w i x1 x2 f ⟨rfl,hw⟩ hs;by_cases d:i<l.n
 .refine A0 (by simp;omega) (A0 (by omega) ?_);rw[AK2];by_cases g5:(decide (50<((l.g i).n:Int)))=true
  .exact A0 g5 ⟨_,rfl,fun g=>by cases g⟩
  refine A2 g5 (hs d _ _ ⟨Aa,fun j v=>?_⟩);by_cases e:j=i
  .subst e;simp at g5;omega
  exact hw j (by omega)
 obtain rfl:i=l.n:=by omega
 refine A2 (by simp) ?_;by_cases g5:((decide ((l.n:Int)<=256))&&(decide (1500<x1)))=true
 .exact A0 g5 ⟨_,rfl,fun g=>by cases g⟩
 refine A2 g5 (A7 (SM t u) ?_);by_cases g6:(hres N h != 0)=true
 .exact A0 g6 ⟨_,rfl,fun _=>⟨hn,hw⟩⟩
 refine A2 g6 ?_;have m:KY N h:=hres_zero.1 (by simpa using g6);have x:=m.laws.1;have y:=u.on;refine D8 (fun i x3 x4=>x4=(i:Int)) h.Laws.n _ (by omega) rfl ?_;rintro o i x3 x4 f rfl q;by_cases d:i<h.Laws.n
 .obtain⟨a,ha,_⟩:=Ji (N:=N) (by omega) (h.Laws.g (i:Int).toNat).Left;obtain⟨c,hc,_⟩:=Ji (N:=N) (by omega) (h.Laws.g (i:Int).toNat).Right;exact A0 (by simp;omega) (A0 (by omega) (A7 ha (A7 hc (q d _ _ (Aa)))))
 refine A2 (by simp;omega) ?_;refine D8 (fun i x3 x4=>x4=(i:Int)) h.On.n _ (by omega) rfl ?_;rintro r i x3 x4 f rfl s;by_cases d:i<h.On.n
 .exact A0 (by simp;omega) (A0 (by omega) (s d _ _ (Aa)))
 exact A2 (by simp;omega) ⟨_,rfl,fun _=>⟨hn,hw⟩⟩
def Yf (l:Sl Int)(j:Nat)(i:Int):Bool:=(List.range j).any fun q=>l.g q==i
def ZK (l:Sl Int)(j:Nat)(i:Int):Yf l (j+1) i=(Yf l j i||(l.g j==i)):=by simp[Yf,AN5]
def QO (z:BitVec 64)(k:Nat)(b:Bool):BitVec 64:=if b then z ||| (1#64 <<< k)else z
def Wr {z:BitVec 64}{k:Nat}(hk:k<64)(b:Bool):E3 .or .u64 (U (QO z k b)) (shI .shl .u64 1 (k:Int))=U (QO z k true):=by
 rw[Mz _ hk,or64];unfold QO;cases b
 .rfl
 show U (z ||| 1#64 <<< k ||| 1#64 <<< k)=U (z ||| 1#64 <<< k);rw[BitVec.or_assoc,BitVec.or_self]
def Up (M:Nat->Bool):Nat->BitVec 64
 |0=>0#64
 |k+1=>QO (Up M k) k (M k)
def QP (M:Nat->Bool):∀(m:Nat),m<=64->∀b,b<64->(Up M m).getLsbD b=(decide (b<m)&&M b)
 |0,_,b,_=>by simp[Up]
 |m+1,hm,b,hb=>by
  have ih:=QP M m (by omega) b hb;unfold Up QO;cases a:M m
  .rw[Bb (by simp),ih];by_cases e:b=m
   .subst e;simp[a]
   simp[show (b<m+1)↔b<m by omega]
  rw[Az rfl,AU7,ih,Au1 (by omega) hb];by_cases e:b=m
  .subst e;simp[a]
  simp[e,show (b<m+1)↔b<m by omega]
noncomputable def Z3 (h:A9) (k:Nat):Nat:=((AF h.Tree h.Tree.n).g k).toNat
noncomputable def Fi (h:A9) (i k:Nat):Bool:=Yf (R4 h (Z3 h k)) (R4 h (Z3 h k)).n (i:Int)
noncomputable def ZL (h:A9):List Int:=(List.range h.Laws.n).map fun i=>U (Up (Fi h i) (AF h.Tree h.Tree.n).n)
def UX {h:A9}{k:Nat}(hk:k<(AF h.Tree h.Tree.n).n):Z3 h k<h.Tree.n/\(AF h.Tree h.Tree.n).g k=(Z3 h k:Int):=by obtain⟨v,h1,a⟩:=UV h.Tree h.Tree.n k hk;unfold Z3;rw[a,AK2];exact⟨h1,rfl⟩
def ZM (i:3000000<=N){h:A9}(l:Ej h)(d:KY N h){k:Nat}(hk:k<(AF h.Tree h.Tree.n).n) :Q2 N h ((AF h.Tree h.Tree.n).g k)=some (R4 h (Z3 h k),0)/\Ki N h ((AF h.Tree h.Tree.n).g k)=some (R4 h (Z3 h k),0)/\(R4 h (Z3 h k)).n<=64 /\
  ∀j,j<(R4 h (Z3 h k)).n->0<=(R4 h (Z3 h k)).g j/\(R4 h (Z3 h k)).g j<h.Laws.n:=by
 obtain⟨h1,q⟩:=UX hk;obtain⟨s,e,a,b,c⟩:=Ah9 i l (Z3 h k:Int);have f:(R4 h (Z3 h k)).n<=64:=Nat.not_lt.1 fun g=>d.long ⟨Z3 h k,by have:=d.on;omega,g⟩;rcases c with⟨rfl,_,_,_,rfl⟩ | ⟨g1,g2⟩
 .rw[AK2]at a b;rw[q];exact⟨a,b,f,ZI d _ _ (AK6 _) h1⟩
 exfalso;unfold Q2 at a;rw[Kl i l,hres_zero.2 d,AL2,Bb (by decide),AT,AL2,Bb (by simp;omega)]at a;cases hw:(Aq N h.Tree (Z3 h k:Int))with
 |none=>rw[hw]at a;cases a
 |some w=>have r:=d.tree.2.1;have m:=ZH i d.tree (v:=Z3 h k) h1;have o:=MM l (Yd h.Tree (Z3 h k)) (Sl.nil:Sl Int) (fun x hx=>by have:=UT d.tree _ _ (AK6 _) h1 x hx;have:=d.on;omega) (by have:=QL d.tree _ _ (AK6 _) h1;show 0+_<=_;omega);unfold Aq at a;rw[AL2]at a;replace a:(R5 N (Z3 h k:Int) h.Tree).bind _=_:=a;rw[m,AL2,o]at a;cases a;exact g1 rfl
def ZN (u:3000000<=N){h:A9}(v:Ej h)(c:KY N h){l:Sl Int}(hl:l=AF h.Tree h.Tree.n)(hn:l.n<=32)(q:T1 N h=some (l,0)) :∃r:A3×Int,U7 N h=some r/\r.2=0/\r.1.Langs=(l.n:Int)/\r.1.Has.toList=ZL h:=by
 have a0:=c.laws.1;unfold U7;refine A7 (Kl u v) (A2 (by rw[hres_zero.2 c];decide) (A7 q (A2 (by show ¬((0:Int) != 0)=true;decide) (A0 (by omega) ?_))));refine D8 (fun k (x3:Sl Int) x4=>x4=(k:Int)/\x3.n=h.Laws.n/\∀i,i<h.Laws.n->x3.g i=U (Up (Fi h i) k)) l.n _ (by omega) ⟨rfl,by show (h.Laws.n:Int).toNat=_;omega,fun i _=>rfl⟩ ?_;rintro x k x3 x4 hk ⟨rfl,d,hx⟩ hs;by_cases f:k<l.n
 .obtain⟨a,_,m,y⟩:=ZM u v c (k:=k) (by rw[<- hl];exact f);rw[<- hl]at a;have z:∀i,Fi h i k=Yf (R4 h (Z3 h k)) (R4 h (Z3 h k)).n (i:Int):=fun i=>rfl;generalize R4 h (Z3 h k)=w at a m y z;refine A0 (by simp;omega) (A0 (by show ((0:Int)<=(k:Int)/\(k:Int)<(l.n:Int))/\(k:Int).toNat<l.n;omega) ?_);rw[AK2];refine A7 a (A2 (by show ¬((0:Int) != 0)=true;decide) ?_);refine D8 (fun j (x7:Sl Int) x8=>x8=(j:Int)/\x7.n=h.Laws.n/\∀i,i<h.Laws.n->x7.g i=U (QO (Up (Fi h i) k) k (Yf w j (i:Int)))) w.n _ (by omega) ⟨rfl,d,fun i b=>hx i b⟩ ?_;rintro s j x7 x8 hj ⟨rfl,g1,g2⟩ t;by_cases o:j<w.n
  .obtain⟨r1,r2⟩:=y j o;refine A0 (by simp;omega) (A0 (by show ((0:Int)<=(j:Int)/\(j:Int)<(w.n:Int))/\(j:Int).toNat<w.n;omega) ?_);rw[AK2];refine A0 (by show (((((0:Int)<=w.g j/\w.g j<(x7.n:Int))/\(w.g j).toNat<x7.n)/\(0:Int)<=(k:Int))/\((0:Int)<=w.g j/\w.g j<(x7.n:Int)))/\(w.g j).toNat<x7.n;omega) (t o _ _ ⟨Aa,g1,fun i b=>?_⟩);show (if i=(w.g j).toNat then _ else x7.g i)=_;rw[ZK];by_cases e:i=(w.g j).toNat
   .rw[Az e,<- e,g2 i b,Wr (by omega),show (w.g j==(i:Int))=true by rw[beq_iff_eq];omega,Bool.or_true]
   rw[Bb e,g2 i b,show (w.g j==(i:Int))=false by rw[beq_eq_false_iff_ne];omega,Bool.or_false]
  obtain rfl:j=w.n:=by omega
  refine A2 (by show ¬decide ((w.n:Int)<(w.n:Int))=true;simp) (hs f _ _ ⟨Aa,g1,fun i b=>?_⟩);rw[g2 i b,<- z];rfl
 obtain rfl:k=l.n:=by omega
 refine A2 (by simp) ⟨_,rfl,rfl,rfl,?_⟩;show x3.toList=_;unfold Sl.toList ZL;rw[d,<- hl];exact AN1 fun i b=>hx i (AL7.1 b)
end Go.AM
namespace Go.AM
open IntKind (wrap)
open Go.Proofs
structure QR (x:HY):Prop where
 par:∀i,i<x.Parents.n->∃k:Nat,x.Parents.g i=(k:Int)/\k<256
 laws:ZB x.Laws
 on:∀i,i<x.On.n->∃k:Nat,x.On.g i=(k:Int)/\k<65536
def Ws {n:Nat}(h:n<256):IntKind.u8.wrap (n:Int)=n:=by have h1:((n:Int) % (2 ^ 8:Int))=n:=AS0 (by omega) (by omega);unfold wrap;simp only[IntKind.bits,IntKind.signed,h1,AV2,AK8,Cj]
def ZO (a j:Nat):Str:=[UInt8.ofNat (a+j)]
def ZP {a j:Nat}(h:a+j<256):[UInt8.ofNat (wrap .u8 ((a:Int)+(wrap .u8 (j:Int)))).toNat]=ZO a j:=by rw[Ws (by omega),<- Int.natCast_add,Ws h,AK2];rfl
def Wt {a i j:Nat}(b:a+i<256)(c:a+j<256)(h:ZO a i=ZO a j):i=j:=by
 have:=congrArg UInt8.toNat (Bk7 h).1
 rw[AZ6,AZ6]at this;omega
def ZQ:∀j:Fin 10,LL (ZO 97 j.val)=true:=by decide +kernel
def Ai2 (x:HY):Nat->F5
 |0=>⟨-1,[114]⟩
 |j+1=>⟨(((x.Parents.g j).toNat % (j+1):Nat):Int),ZO 97 (j+1)⟩
def Au9 (x:HY)(j:Nat):Law:=⟨ZO 65 j,(x.Laws.g j).Left,(x.Laws.g j).Right,(x.Laws.g j).If,(x.Laws.g j).Out,(x.Laws.g j).Mode⟩
def ZR {x:HY}(hx:QR x){j:Nat}(d:j<x.Laws.n):UQ (Au9 x j):=by obtain⟨⟨a,b,c⟩,l,f,g,i⟩:=hx.laws j d;exact⟨⟨a,b,c⟩,by show 1<_;omega,f,g,i⟩
def Ai3 {x:HY}{t:Sl F5}(hn:t.n<=10)(ht:∀j,j<t.n->t.g j=Ai2 x j){v:Nat}(c:v<t.n):Ah7 t v:=by
 have a:∀j,j<t.n->0<j->(Ai2 x j).Name=ZO 97 j:=fun j _ d=>by obtain⟨k,rfl⟩:∃k,j=k+1:=⟨j-1,by omega⟩;rfl
 have b:∀j,j<10->([114]:Str)≠ZO 97 j:=fun j f h=>by
  have:=congrArg UInt8.toNat (Bk7 h).1
  rw[AZ6]at this;have e:(114:UInt8).toNat=114:=rfl;omega
 refine⟨fun h=>by rw[ht 0 (by omega)];rfl,fun d=>?_,?_,fun u i=>?_⟩
 .obtain⟨k,rfl⟩:∃k,v=k+1:=⟨v-1,by omega⟩;rw[ht _ c];show 0<=(((x.Parents.g k).toNat % (k+1):Nat):Int)/\(((x.Parents.g k).toNat % (k+1):Nat):Int)<((k+1:Nat):Int)
  have:=Bi2 (x.Parents.g k).toNat (show 0<k+1 by omega)
  omega
 .rw[ht _ c];by_cases d:v=0
  .subst d;show LL [114]=true;decide +kernel
  rw[a v c (by omega)];exact ZQ ⟨v,by omega⟩
 rw[ht _ c,ht u (by omega),a v c (by omega)];by_cases d:u=0
 .subst d;exact b v (by omega)
 rw[a u (by omega) (by omega)];exact fun h=>by have:=Wt (by omega) (by omega) h;omega
def Km {h:A9}(ht:AS h.Tree)(a:∀v,v<h.Tree.n->(h.On.g v).n<=5):∀(m v:Nat),v<=m->v<h.Tree.n->(R4 h v).n<=(v+1)*5
 |m,v,hm,hv=>by
  have:=a v hv
  rcases T8 ht hv with⟨_,e⟩ | ⟨p,hp,e⟩
  .rw[Cf (by omega)];show 0+(h.On.g v).n<=_;omega
  rw[FK e hp];show (R4 h p).n+(h.On.g v).n<=_
  match m with
  |0=>omega
  |m+1=>
   have:=Km ht a m p (by omega) (by omega)
   omega
structure ZS (N:Nat) (x:HY) (h:A9):Prop where
 hist:KY N h
 n:h.Tree.n<=10
 node:∀j,j<h.Tree.n->h.Tree.g j=Ai2 x j
 laws:h.Laws.n<=6
 law:∀j,j<h.Laws.n->h.Laws.g j=Au9 x j/\j<x.Laws.n
 five:∀v,v<h.Tree.n->(h.On.g v).n<=5
def Ai4 {N:Nat}(hN:3000000<=N){x:HY}(hx:QR x) :∃r:A9×Bool,V8 N x=some r/\Ej r.1/\(r.2=true->ZS N x r.1):=by
 have t:Ej (⟨(Sl.nil:Sl F5),(Sl.nil:Sl Law),(Sl.nil:Sl (Sl Int))⟩:A9):=
  ⟨fun i hi=>Bc hi (AT0 i),fun i hi=>Bc hi (AT0 i),by show 0<_;omega,fun i hi=>Bc hi (AT0 i)⟩
 unfold V8;refine D8 (fun i (x1:Sl F5) x2=>x2=((i+1:Nat):Int)/\x1.n=i+1/\∀j,j<i+1->x1.g j=Ai2 x j) 9 _ (by omega) ⟨rfl,rfl,fun j s=>by obtain rfl:j=0:=(by omega);rfl⟩ ?_;rintro self i x1 x2 hi ⟨rfl,hn1,h1⟩ hs;by_cases hlt:i+1<=x.Parents.n/\i+1<10
 .obtain⟨k,hk,hk2⟩:=hx.par i (by omega);have e1:wrap .i64 (((i+1:Nat):Int)-1)=(i:Int):=by rw[ME (by omega) (by omega)];rfl
  refine A0 (by simp;omega) ?_;rw[e1,AK2,hk,F9 (n:=(k:Int)) (by omega) (by omega)];refine A0 ⟨⟨by omega,by omega⟩,by omega⟩ (A0 (by show (x1.n+1)*24<=_/\x1.n+1<=_;omega) (hs (by omega) _ _ ⟨Aa,by show x1.n+1=_;omega,fun j s=>?_⟩));show (if j<x1.n then x1.g j else _)=_;by_cases e:j<x1.n
  .rw[Az e];exact h1 j (by omega)
  obtain rfl:j=i+1:=by omega
  rw[Bb e];have e2:[UInt8.ofNat (wrap .u8 (97+(wrap .u8 ((i+1:Nat):Int)))).toNat]=ZO 97 (i+1):=ZP (a:=97) (by omega);rw[e2];show (⟨_,_⟩:F5)=⟨(((x.Parents.g i).toNat % (i+1):Nat):Int),ZO 97 (i+1)⟩;rw[hk,AK2];rfl
 refine A2 (by simp;omega) ?_;clear hs;refine D8 (fun i (x4:Sl Law) x5=>x5=(i:Int)/\x4.n=i/\∀j,j<i->x4.g j=Au9 x j/\j<x.Laws.n/\Ha N (Au9 x j)) 6 _ (by omega) ⟨rfl,rfl,fun j s=>Bc s (by omega)⟩ ?_;rintro self2 m x4 x5 hm ⟨rfl,hn4,h4⟩ hs2;by_cases hlt2:m<x.Laws.n/\m<6
 .obtain⟨hml,hm6⟩:=hlt2;have e2:[UInt8.ofNat (wrap .u8 (65+(wrap .u8 (m:Int)))).toNat]=ZO 65 m:=ZP (a:=65) (by omega);have hin:=ZR hx hml;refine A0 (by simp;omega) (A0 (by omega) ?_);rw[AK2,e2];obtain⟨b,hb,_⟩:=SP hN (⟨(Sl.nil:Sl F5),(Sl.of [Au9 x m]:Sl Law),(Sl.nil:Sl (Sl Int))⟩:A9);have hl:Dz N (Au9 x m)=some b:=by unfold Dz;rw[hb];rfl
  refine A7 hl (P0 ?_);cases b
  .exact A0 rfl (A0 rfl ⟨_,rfl,t,fun h=>by cases h⟩)
  refine A2 (by decide) ?_;obtain⟨e,he,hE⟩:=PH hN hin;refine A7 he ?_;rcases hE with⟨rfl,hc⟩ | ⟨rfl,_⟩
  .refine A2 (by decide) (A0 (by show (x4.n+1)*200<=_/\x4.n+1<=_;omega) (hs2 hm6 _ _ ⟨Aa,by show x4.n+1=_;omega,fun j s=>?_⟩));show (if j<x4.n then x4.g j else Au9 x m)=_/\_;by_cases e:j<x4.n
   .rw[Az e];exact h4 j (by omega)
   obtain rfl:j=m:=by omega
   rw[Bb e];exact⟨rfl,hml,hc⟩
  exact A0 (by decide) ⟨_,rfl,t,fun h=>by cases h⟩
 refine A2 (by simp;omega) ?_;clear hs2;have hL1:wrap .i64 ((x4.n:Int)+1)=((x4.n+1:Nat):Int):=Aa;rw[hL1];refine D8 (fun v (f:Sl (Sl Int)) x11=>x11=(v:Int)/\f.n=v/\∀u,u<v->(f.g u).n<=5/\∀j,j<(f.g u).n->0<=(f.g u).g j/\(f.g u).g j<x4.n) x1.n _ (by omega) ⟨rfl,rfl,fun j s=>Bc s (by omega)⟩ ?_;rintro self5 v f x11 w ⟨rfl,hn10,a1⟩ hs5;by_cases hvl:v<x1.n
 .obtain⟨c,hc,hc2⟩:∃c:Nat,Cv N x.On (v:Int)=some (c:Int)/\c<65536:=by
   unfold Cv;by_cases h:v<x.On.n
   .obtain⟨k,hk,hk2⟩:=hx.on v h;exact⟨k,by rw[Az (by simp;omega),Aw,AK2,hk,F9 (by omega) (by omega)],hk2⟩
   exact⟨0,by rw[Bb (by simp;omega)];rfl,by omega⟩
  refine A0 (by simp;omega) (A7 hc ?_);refine D8 (fun q (l:Sl Int) x15=>l.n=q/\(∃d:Nat,x15=(d:Int)/\d<65536)/\∀j,j<l.n->0<=l.g j/\l.g j<x4.n) 5 _ (by omega) ⟨rfl,⟨c,rfl,hc2⟩,fun j s=>Bc s (AT0 j)⟩ ?_;rintro self6 q l x15 hq ⟨hn14,⟨d,rfl,hd⟩,h14⟩ hs6;refine A0 (by omega) ?_;have em:(d:Int).tmod ((x4.n+1:Nat):Int)=((d % (x4.n+1):Nat):Int):=rfl;have ed:(d:Int).tdiv ((x4.n+1:Nat):Int)=((d / (x4.n+1):Nat):Int):=rfl;rw[em,ed];have hlt3:=Bi2 d (show 0<x4.n+1 by omega);have hle3:=Nat.div_le_self d (x4.n+1);generalize d / (x4.n+1)=d1 at hle3;generalize d % (x4.n+1)=m1 at hlt3;by_cases g:m1≠0/\q<5
  .rw[ME (by omega) (by omega),F9 (n:=(d1:Int)) (by omega) (by omega)];refine A0 (by simp;omega) (A0 ⟨⟨by omega,by show (l.n+1)*8<=_;omega,by show l.n+1<=_;omega⟩,by omega⟩ (hs6 (by omega) _ _ ⟨by show l.n+1=_;omega,⟨_,rfl,by omega⟩,fun j s=>?_⟩));show 0<=(if j<l.n then l.g j else _)/\(if j<l.n then l.g j else _)<_;by_cases e:j<l.n
   .rw[Az e];exact h14 j e
   rw[Bb e];omega
  refine A2 (by simp;omega) (A0 (by show (f.n+1)*24<=_/\f.n+1<=_;omega) (hs5 hvl _ _ ⟨Aa,by show f.n+1=_;omega,fun u hu=>?_⟩));show (if u<f.n then f.g u else l).n<=5/\∀j,j<(if u<f.n then f.g u else l).n->0<=(if u<f.n then f.g u else l).g j/\(if u<f.n then f.g u else l).g j<_;by_cases e:u<f.n
  .rw[Az e];exact a1 u (by omega)
  rw[Bb e];exact⟨by omega,h14⟩
 obtain rfl:v=x1.n:=by omega
 refine A2 (by simp) ⟨_,rfl,?_,fun _=>?_⟩
 .refine⟨fun i o=>?_,fun i o=>?_,by show f.n<_;omega,fun i o=>?_⟩
  .have o:i<x4.n:=o;show UQ (x4.g i);obtain⟨e,hil,_⟩:=h4 i (by omega);rw[e];exact ZR hx hil
  .have o:i<x1.n:=o;show (x1.g i).Name.length<_;rw[h1 i (by omega)];cases i<;>(show 1<_;omega)
  have o:i<f.n:=o;show (f.g i).n<_
  have:=(a1 i (by omega)).1
  omega
 have y:AS x1:=⟨by omega,by omega,fun v w=>Ai3 (by omega) (fun j s=>h1 j (by omega)) w⟩;have z:∀v,v<x1.n->(f.g v).n<=5:=fun v w=>(a1 v (by omega)).1;refine⟨⟨y,⟨by show x4.n<=64;omega,fun i o=>?_⟩,?_,by show f.n=x1.n;omega,?_,fun v w=>?_⟩,by show x1.n<=10;omega,fun j s=>h1 j (by have s:j<x1.n:=s;omega),by show x4.n<=6;omega,fun j s=>?_,fun v w=>z v w⟩
 .have o:i<x4.n:=o;show Ha N (x4.g i);obtain⟨e,_,hc⟩:=h4 i (by omega);rw[e];exact hc
 .rintro⟨u,v,h1',h2',a2⟩;have h2' : v<x4.n:=h2';have a2 : (x4.g u).Name=(x4.g v).Name:=a2;rw[(h4 u (by omega)).1,(h4 v (by omega)).1]at a2
  have:=Wt (a:=65) (by omega) (by omega) a2
  omega
 .rintro⟨v,w,a0⟩;have w:v<f.n:=w;have a0:64<(R4 (⟨x1,x4,f⟩:A9) v).n:=a0
  have:=Km (h:=(⟨x1,x4,f⟩:A9)) y z v v (AK6 _) (by show v<x1.n;omega)
  omega
 .have w:v<f.n:=w;rintro⟨j,s,hb⟩;have s:j<(f.g v).n:=s;have hb:(f.g v).g j<0 \/ ((x4.n:Nat):Int)<=(f.g v).g j:=hb
  have:=(a1 v (by omega)).2 j s
  omega
 have s:j<x4.n:=s;exact⟨(h4 j (by omega)).1,(h4 j (by omega)).2.1⟩
end Go.AM
namespace Go.AM
open Go.Proofs
inductive Anc (t:Sl F5) (v:Nat):Nat->Prop
 |refl:Anc t v v
 |up {w p:Nat}:(t.g w).Parent=(p:Int)->p<w->Anc t v p->Anc t v w
def Anc.le {t:Sl F5}{v w:Nat}(h:Anc t v w):v<=w:=by
 induction h with
 |refl=>exact AK6 _
 |up e hp h ih=>omega
def ZT {t:Sl F5}{v w p:Nat}(e:(t.g w).Parent=(p:Int))(hp:p<w):Anc t v w↔v=w \/ Anc t v p:=by
 constructor
 .intro h;cases h with
  |refl=>exact .inl rfl
  |up e' hp' h'=>rw[e]at e';obtain rfl:=Bc2 e';exact .inr h'
 rintro (rfl|h)
 .exact .refl
 exact .up e hp h
def Ai5 {t:Sl F5}{v w:Nat}(e:(t.g w).Parent<0):Anc t v w↔v=w:=by
 constructor
 .intro h;cases h with
  |refl=>rfl
  |up e' hp' h'=>omega
 rintro rfl;exact .refl
def ZU {t:Sl F5}{u v l:Nat}(h:Anc t v l):Anc t u l->u<=v->Anc t u v:=by
 induction h with
 |refl=>exact fun h _=>h
 |up e hp h ih=>
  intro a hle;rcases (ZT e hp).1 a with rfl|h'
  .have:=h.le;omega
  exact ih h' hle
def Anc.trans {t:Sl F5}{u v l:Nat}(h:Anc t v l)(a:Anc t u v):Anc t u l:=by
 induction h with
 |refl=>exact a
 |up e hp h ih=>exact .up e hp ih
structure KZ (M n:Nat) (p:Sl Int) (on:Sl (Sl Int)) (v q:Nat):Prop where
 pn:p.n=M
 onn:on.n=n
 a:∀k,k<M->p.g k = -1 \/ ∃u,u<n/\p.g k=(u:Int)
 b:∀u,u<n->∀j,j<(on.g u).n->∃k,k<M/\(on.g u).g j=(k:Int)/\p.g k=(u:Int)
 c:∀k,k<M->∀u,u<n->p.g k=(u:Int)->∃j,j<(on.g u).n/\(on.g u).g j=(k:Int)
 d:∀u,u<n->(on.g u).n<=if u<v then 5 else if u=v then q else 0
def Ai6 {α : Type}(s:Sl α)(i:Nat):s.upd i (s.g i)=s:=by
 show (⟨s.n,fun j=>if j=i then s.g i else s.g j⟩:Sl α)=s
 have:(fun j=>if j=i then s.g i else s.g j)=s.g:=funext fun j=>by
  by_cases h:j=i
  .rw[Az h,h]
  rw[Bb h]
 rw[this]
def Yg {M n v q k:Nat}{p:Sl Int}{on:Sl (Sl Int)}(h:KZ M n p on v q)(r:v<n)(hk:k<M)(hp:p.g k<0):KZ M n (p.upd k (v:Int)) (on.upd v ((on.g v).push (k:Int))) v (q+1):=by
 have s:p.g k = -1:=by
  rcases h.a k hk with e|⟨u,_,e⟩
  .exact e
  omega
 refine⟨h.pn,h.onn,fun k' f=>?_,fun u l j i=>?_,fun k' f u l e=>?_,fun u l=>?_⟩
 .show (if k' = k then (v:Int)else p.g k') = -1 \/ ∃u,u<n/\(if k' = k then (v:Int)else p.g k')=(u:Int);by_cases e:k' = k
  .rw[Az e];exact .inr ⟨v,r,rfl⟩
  rw[Bb e];exact h.a k' f
 .have old:∀k'',k'' < M->p.g k'' = (u:Int)->(if k'' = k then (v:Int)else p.g k'')=(u:Int):=fun k'' _ e=>by
   by_cases e2:k'' = k
   .rw[e2]at e;omega
   rw[Bb e2];exact e
  have i:j<(if u=v then (on.g v).push (k:Int)else on.g u).n:=i;show ∃k',k' < M/\(if u=v then (on.g v).push (k:Int)else on.g u).g j=(k' : Int)/\(if k' = k then (v:Int)else p.g k')=(u:Int);by_cases e:u=v
  .subst e;rw[Az rfl]at i⊢;have i:j<(on.g u).n+1:=i;show ∃k',k' < M/\(if j<(on.g u).n then (on.g u).g j else (k:Int))=(k' : Int)/\_;by_cases e2:j<(on.g u).n
   .rw[Az e2];obtain⟨k',h1,m,o⟩:=h.b u l j e2;exact⟨k',h1,m,old k' h1 o⟩
   rw[Bb e2];exact⟨k,hk,rfl,Az rfl⟩
  rw[Bb e]at i⊢;obtain⟨k',h1,m,o⟩:=h.b u l j i;exact⟨k',h1,m,old k' h1 o⟩
 .have e:(if k' = k then (v:Int)else p.g k')=(u:Int):=e;show ∃j,j<(if u=v then (on.g v).push (k:Int)else on.g u).n/\(if u=v then (on.g v).push (k:Int)else on.g u).g j=(k' : Int);by_cases e1:k' = k
  .rw[Az e1]at e;have e3:v=u:=by omega
   subst e3;subst e1;rw[Az rfl];exact⟨(on.g v).n,Bg1 _,Bb (AZ7 _)⟩
  rw[Bb e1]at e;obtain⟨j,h1,m⟩:=h.c k' f u l e;by_cases e2:u=v
  .subst e2;rw[Az rfl];exact⟨j,Nat.lt_succ_of_lt h1,by show (if j<(on.g u).n then (on.g u).g j else (k:Int))=_;rw[Az h1];exact m⟩
  rw[Bb e2];exact⟨j,h1,m⟩
 have:=h.d u l
 show (if u=v then (on.g v).push (k:Int)else on.g u).n<=_;by_cases e:u=v
 .subst e;rw[Bb (AZ7 u),Az rfl]at this;rw[Az rfl,Bb (AZ7 u),Az rfl];show (on.g u).n+1<=_;omega
 rw[Bb e]at this⊢;rw[Bb e];exact this
def SQ {M n v q v' q' : Nat}{p:Sl Int}{on:Sl (Sl Int)}(h:KZ M n p on v q)(g:∀u,u<n->(if u<v then 5 else if u=v then q else 0)<=if u<v' then 5 else if u=v' then q' else 0):KZ M n p on v' q':=
 ⟨h.pn,h.onn,h.a,h.b,h.c,fun u f=>AO4 (h.d u f) (g u f)⟩
def memB_iff {l:Sl Int}{j:Nat}{i:Int}:Yf l j i=true ↔ ∃q,q<j/\l.g q=i:=by
 unfold Yf;rw[AR7];constructor
 .rintro⟨q,h1,a⟩;exact⟨q,AL7.1 h1,by simpa using a⟩
 rintro⟨q,h1,a⟩;exact⟨q,AL7.2 h1,by simpa using a⟩
def Wu {a b:Sl Int}{i:Int}:Yf (a.app b) (a.app b).n i=true↔Yf a a.n i=true \/ Yf b b.n i=true:=by
 rw[memB_iff,memB_iff,memB_iff];constructor
 .rintro⟨q,h1,c⟩;have h1:q<a.n+b.n:=h1;have c:(if q<a.n then a.g q else b.g (q-a.n))=i:=c;by_cases e:q<a.n
  .rw[Az e]at c;exact .inl ⟨q,e,c⟩
  rw[Bb e]at c;exact .inr ⟨q-a.n,by omega,c⟩
 rintro (⟨q,h1,c⟩ | ⟨q,h1,c⟩)
 .exact⟨q,by show q<a.n+b.n;omega,by show (if q<a.n then a.g q else b.g (q-a.n))=i;rw[Az h1];exact c⟩
 exact⟨a.n+q,by show a.n+q<a.n+b.n;omega,by show (if a.n+q<a.n then a.g (a.n+q)else b.g (a.n+q-a.n))=i;rw[Ay,Bf4];exact c⟩
def AD4 {M n v q k u:Nat}{p:Sl Int}{on:Sl (Sl Int)}(h:KZ M n p on v q)(hk:k<M)(a:u<n):Yf (on.g u) (on.g u).n (k:Int)=true↔p.g k=(u:Int):=by
 rw[memB_iff];constructor
 .rintro⟨j,h1,d⟩;obtain⟨k',l,f,i⟩:=h.b u a j h1;rw[f]at d;obtain rfl:=Bc2 d;exact i
 exact fun e=>h.c k hk u a e
def Wv {h:A9}{M v q k:Nat}{p:Sl Int}(ht:AS h.Tree)(hp:KZ M h.Tree.n p h.On v q)(hk:k<M):∀(m w:Nat),w<=m->w<h.Tree.n->(Yf (R4 h w) (R4 h w).n (k:Int)=true ↔ ∃u:Nat,p.g k=(u:Int)/\Anc h.Tree u w)
 |m,w,hm,hw=>by
  have a:=AD4 hp hk hw;rcases T8 ht hw with⟨_,e⟩ | ⟨r,c,e⟩
  .rw[Cf (by omega),Wu,a];constructor
   .rintro (h1|h1)
    .obtain⟨_,b,_⟩:=memB_iff.1 h1;exact Bc b (AT0 _)
    exact⟨w,h1,.refl⟩
   rintro⟨u,h1,b⟩;rw[Ai5 (by omega)]at b;subst b;exact .inr h1
  rw[FK e c,Wu,a]
  match m with
  |0=>omega
  |m+1=>
   rw[Wv ht hp hk m r (by omega) (by omega)];constructor
   .rintro (⟨u,h1,b⟩ | h1)
    .exact⟨u,h1,.up e c b⟩
    exact⟨w,h1,.refl⟩
   rintro⟨u,h1,b⟩;rcases (ZT e c).1 b with rfl|d
   .exact .inr h1
   exact .inl ⟨u,h1,d⟩
def IK {N L:Nat}{t:A3}(q:1000<=N)(h:Jh t)(s:MH t L):∃r:Sl C4×Int,G6 N t=some r/\r.1.toList=Y8 (fun i j=>!An L (I3 t i) (I3 t j)) t.Has.n t.Has.n/\r.2=0:=by
 obtain⟨hL,d,a,hs⟩:=s;have hn:=h.1;unfold G6;rw[Ig q h ⟨hL,d,a,hs⟩,AL2,Bb (show ¬((0:Int) != 0)=true by decide)];have hw:∀i,i<t.Has.n->C8 N t (fun (u6:Int)=>H4 N u6 (t.Has.g i))=some (Di (fun j=>!An L (I3 t i) (I3 t j)) t.Has.n):=fun i b=>MF (by omega) (by omega) fun j m=>by unfold H4;rw[II h b,II h m,QG (hs i b) (hs j m) (by omega),AL2]
 have f:∀i,i<=t.Has.n->i*t.Has.n<=64*64:=fun i b=>Bj1 (by omega) a;refine D8 (fun i (x3:Sl C4) x4=>x4=(i:Int)/\x3.toList=Y8 (fun i j=>!An L (I3 t i) (I3 t j)) t.Has.n i) t.Has.n _ (by omega) ⟨rfl,rfl⟩ ?_;rintro o i x3 x4 b ⟨rfl,hx⟩ l;have u:x3.n<=64*64:=by rw[<- GW x3,hx];exact AO4 (Ie _ _ i) (f i b)
 by_cases c:i<t.Has.n
 .refine A0 (by simp;omega) (A0 (by omega) ?_);rw[AK2];show ∃r,(C8 N t _).bind _=some r/\_;refine A7 (hw i c) ?_;have hl:=KW (fun j=>!An L (I3 t i) (I3 t j)) t.Has.n;refine DD _ i x3 _ _ (by omega) fun z' v=>l c _ _ ⟨Aa,?_⟩;rw[v,hx];exact congrArg _ (QH (fun i j=>!An L (I3 t i) (I3 t j)) i t.Has.n)
 obtain rfl:i=t.Has.n:=by omega
 exact A2 (by simp) ⟨_,rfl,hx,rfl⟩
def Ww {H0:Nat->Nat->Bool}{i n:Nat}:∀m,m<=n->(∀j,i<j->j<n->H0 i j=false)->W7 H0 i m=[]
 |0,_,_=>rfl
 |m+1,hm,h=>by
  rw[GY,Ww m (by omega) h,Bb]
  .rfl
  by_cases e:i<m
  .rw[h m e (by omega)];simp
  rw[decide_eq_false e];simp
def Wx {H0:Nat->Nat->Bool}{n:Nat}(h:∀i j,i<j->j<n->H0 i j=false):∀i,i<=n->Y8 H0 n i=[]
 |0,_=>rfl
 |i+1,hi=>by show Y8 H0 n i++W7 H0 i n=[];rw[Wx h i (by omega),Ww n (AK6 _) (fun j h1 a=>h i j h1 a)];rfl
end Go.AM
namespace Go.AM
open IntKind (wrap)
open Go.Proofs
def MO {N:Nat}(hN:3000000<=N)(hW:D0 N=some true){x0:HY}(hx:QR x0):Al N x0=some true:=by
 obtain⟨⟨h,ok⟩,hM,hi,hs⟩:=Ai4 hN hx;have hi:Ej h:=hi;have hs:ok=true->ZS N x0 h:=hs;refine SO ?_;unfold Al;refine A7 hM (P0 ?_);cases ok
 .exact A0 rfl (A0 rfl (A7 hW ⟨_,rfl,rfl⟩))
 have hs:=hs rfl;have l:=hs.hist;refine A2 (by show ¬(!true)=true;decide) ?_;obtain⟨b,hb,_⟩:=ZJ hN hi (Sl.nil:Sl (Sl Eg));refine A7 hb ?_;cases b
 .exact A0 rfl (A7 hW ⟨_,rfl,rfl⟩)
 refine A2 (by decide) ?_;have hn10:=hs.n;have hm6:=hs.laws;have hon:=l.on;have hn1:=l.tree.1;dsimp only;have hrep:K6 N (Sl.of [-1]:Sl Int) (h.Laws.n:Int)=some (Sl.rep h.Laws.n (-1)):=by unfold K6;rw[Az ⟨rfl,by omega,by omega⟩,AK2];rfl
 refine A7 hrep (A0 (by omega) ?_);refine Au5 (fun v (x5:Sl Int) (x6:Sl (Sl Int)) x7=>x7=(v:Int)/\KZ h.Laws.n h.Tree.n x5 x6 v 0) h.On.n _ (by omega) ⟨rfl,⟨rfl,by show (h.On.n:Int).toNat=_;omega,fun k hk=>.inl rfl,fun u hu j hj=>Bc hj (AT0 j),fun k hk u hu e=>by exfalso;have e:(-1:Int)=(u:Int):=e;omega,fun u hu=>AT8 _⟩⟩ ?_;rintro self3 v p on x7 hv ⟨rfl,hp⟩ hs3;by_cases hvl:v<h.On.n
 .refine A0 (by simp;omega) (A0 (by omega) ?_);rw[AK2];have h5:=hs.five v (by omega);have a4:∀j,j<(h.On.g v).n->0<=(h.On.g v).g j/\(h.On.g v).g j<h.Laws.n:=fun j hj=>by
   have:=l.bad v hvl
   exact⟨Int.not_lt.1 fun g=>this ⟨j,hj,.inl g⟩,Int.not_le.1 fun g=>this ⟨j,hj,.inr g⟩⟩
  generalize h.On.g v=row at h5 a4;refine Au5 (fun j (x11:Sl Int) (x12:Sl (Sl Int)) x13=>x13=(j:Int)/\KZ h.Laws.n h.Tree.n x11 x12 v j) row.n _ (by omega) ⟨rfl,hp⟩ ?_;rintro self4 j p2 on2 x13 hj ⟨rfl,y⟩ hs4;have e1:=y.pn;have e2:=y.onn;have hdv:=y.d v (by omega);rw[Bb (AZ7 v),Az rfl]at hdv;by_cases hjl:j<row.n
  .obtain⟨g1,g2⟩:=a4 j hjl;obtain⟨k,hk⟩:∃k:Nat,row.g j=(k:Int):=⟨(row.g j).toNat,by omega⟩;refine A0 (by simp;omega) (A0 (by omega) (A0 (by omega) ?_));rw[AK2,hk,AK2];have hkl:k<h.Laws.n:=by omega
   refine A0 (by omega) ?_;by_cases a5:p2.g k<0
   .exact A0 (by simpa using a5) (A0 ⟨⟨⟨by omega,by omega⟩,by show ((on2.g v).n+1)*8<=_/\(on2.g v).n+1<=_;omega⟩,by omega⟩ (hs4 hjl _ _ _ ⟨Aa,Yg y (by omega) hkl a5⟩))
   refine A2 (by simpa using a5) (hs4 hjl _ _ _ ⟨Aa,?_⟩);rw[Ai6];exact SQ y fun u _=>by
    by_cases a:u<v
    .rw[Az a,Az a];exact AK6 _
    rw[Bb a,Bb a];by_cases a:u=v
    .rw[Az a,Az a];omega
    rw[Bb a,Bb a];exact AK6 _
  obtain rfl:j=row.n:=by omega
  refine A2 (by simp) (hs3 hvl _ _ _ ⟨Aa,SQ y fun u _=>?_⟩);by_cases a:u<v
  .rw[Az a,Aw];exact AK6 _
  rw[Bb a];by_cases a:u=v
  .rw[Az a,Aw];exact h5
  rw[Bb a];exact AT8 _
 obtain rfl:v=h.On.n:=by omega
 refine A2 (by simp) ?_;clear hs3;have hd5:∀u,u<h.Tree.n->(on.g u).n<=5:=fun u hu=>by have:=hp.d u hu;rw[Aw]at this;exact this
 have hpn:=hp.pn;have honn:=hp.onn;have hok' : KY N (⟨h.Tree,h.Laws,on⟩:A9):=by
  refine⟨l.tree,l.laws,l.dup,hp.onn,?_,fun v hv=>?_⟩
  .rintro⟨v,hv,hlong⟩;have hv:v<on.n:=hv
   have:=Km (h:=(⟨h.Tree,h.Laws,on⟩:A9)) l.tree hd5 v v (AK6 _) (by show v<h.Tree.n;omega)
   omega
  have hv:v<on.n:=hv;rintro⟨j,hj,hbad⟩;have hj:j<(on.g v).n:=hj;have hbad:(on.g v).g j<0 \/ ((h.Laws.n:Nat):Int)<=(on.g v).g j:=hbad;obtain⟨k,h1,h2,_⟩:=hp.b v (by omega) j hj;omega
 have hi' : Ej (⟨h.Tree,h.Laws,on⟩:A9):=⟨hi.laws,hi.tree,by show on.n<_;omega,fun v hv=>by have hv:v<on.n:=hv;have:=hd5 v (by omega);show (on.g v).n<_;omega⟩;obtain⟨ls,e',hl1,_,hl3⟩:=Ye hN hi.tree;rcases hl3 with⟨_,rfl,a0⟩ | ⟨g,_⟩
 case inr=>exact Bc l.tree g
 have hK:ls.n<=10:=by rw[a0];exact AO4 (UU _ _) hn10
 have hlv:T1 N (⟨h.Tree,h.Laws,on⟩:A9)=some (ls,0):=by unfold T1;rw[hl1,AL2,Bb (by show ¬((0:Int) != 0)=true;decide),Bb (by simp;omega)]
 obtain⟨⟨t,et⟩,hF,het,m,s⟩:=ZN hN hi' hok' a0 (by omega) hlv;have het:et=0:=het;subst het;have m:t.Langs=(ls.n:Int):=m;have s:t.Has.toList=ZL (⟨h.Tree,h.Laws,on⟩:A9):=s;have hHn:t.Has.n=h.Laws.n:=by rw[<- GW t.Has,s,ZL];simp
 have hHg:∀k,k<h.Laws.n->t.Has.g k=U (Up (Fi (⟨h.Tree,h.Laws,on⟩:A9) k) ls.n):=fun k hk=>by
  have e:t.Has.toList[k]? = some (t.Has.g k):=by unfold Sl.toList;rw[AK7,AW0 (by omega)];rfl
  rw[s,ZL,AK7,AW0 (show k<(⟨h.Tree,h.Laws,on⟩:A9).Laws.n from hk)]at e;rw[a0];exact (AM8 e).symm
 have c:∀k,k<h.Laws.n->∀b,b<ls.n->(Fi (⟨h.Tree,h.Laws,on⟩:A9) k b=true ↔ ∃u:Nat,p.g k=(u:Int)/\Anc h.Tree u (Z3 h b)):=fun k hk b hb=>by obtain⟨h1,_⟩:=UX (h:=h) (k:=b) (by rw[<- a0];exact hb);exact Wv (h:=(⟨h.Tree,h.Laws,on⟩:A9)) l.tree hp hk _ _ (AK6 _) h1
 refine A7 hF (A7 hl1 ?_);refine A2 (by show ¬((0:Int) != 0)=true;decide) ?_;refine A2 (by show ¬decide ((32:Int)<(ls.n:Int))=true;simp;omega) (P0 ?_);have hT:Jh t:=⟨by omega,fun k hk=>⟨_,hHg k (by omega)⟩⟩;have hbT:∀k,k<h.Laws.n->I3 t k=Up (Fi (⟨h.Tree,h.Laws,on⟩:A9) k) ls.n:=fun k hk=>by rw[I3,hHg k hk];show BitVec.ofNat 64 ((Up _ _).toNat:Int).toNat=_;rw[AK2];simp
 have hC:MH t ls.n:=⟨m,by omega,by omega,fun k hk b h1 h2=>by rw[hbT k (by omega),QP _ _ (by omega) _ h2,decide_eq_false (by omega)];rfl⟩
 refine A2 (by show ¬((0:Int) != 0)=true;decide) ?_;refine A7 (Ig (N:=N) (by omega) hT hC) ?_;refine A2 (by show ¬((0:Int) != 0)=true;decide) ?_;refine A2 (by show ¬(t.Langs != (ls.n:Int))=true;simp[m]) ?_;refine A2 (by show ¬((t.Has.n:Int) != (h.Laws.n:Int))=true;simp[hHn]) ?_;obtain⟨⟨cl,ce⟩,hc1,hc2,hc3⟩:=IK (N:=N) (by omega) hT hC;have hc3:ce=0:=hc3;subst hc3;have hc2:cl.toList=_:=hc2;have hfit:∀i j,i<h.Laws.n->j<h.Laws.n->An ls.n (I3 t i) (I3 t j)=true:=fun i j q a1=>by
  have bit:∀k,k<h.Laws.n->∀b,b<ls.n->(I3 t k).getLsbD b=Fi (⟨h.Tree,h.Laws,on⟩:A9) k b:=fun k hk b hb=>by rw[hbT k hk,QP _ _ (by omega) _ (by omega),decide_eq_true hb];rfl
  unfold An;by_cases a6:Q7 (fun k=>(I3 t i).getLsbD k&&(I3 t j).getLsbD k) ls.n=true
  .obtain⟨b,hb1,hb2⟩:=Ag8.1 a6;rw[AK5,bit i q b hb1,bit j a1 b hb1,c i q b hb1,c j a1 b hb1]at hb2;obtain⟨⟨u,hu1,hu2⟩,⟨w,hw1,hw2⟩⟩:=hb2;by_cases hle:u<=w
   .have huw:=ZU hw2 hu2 hle;have hno:Q7 (fun k=>(!(I3 t i).getLsbD k)&&(I3 t j).getLsbD k) ls.n=false:=by rw[AX2];intro h1;obtain⟨d,o,f⟩:=Ag8.1 h1;rw[AK5,bit i q d o,bit j a1 d o,c j a1 d o,AL6]at f;obtain⟨f,w',hw3,hw4⟩:=f;rw[hw1]at hw3;obtain rfl:=Bc2 hw3;rw[(c i q d o).2 ⟨u,hu1,hw4.trans huw⟩]at f;cases f
    rw[hno];simp
   have huw:=ZU hu2 hw2 (by omega);have hno:Q7 (fun k=>(I3 t i).getLsbD k && !(I3 t j).getLsbD k) ls.n=false:=by rw[AX2];intro h1;obtain⟨d,o,f⟩:=Ag8.1 h1;rw[AK5,bit i q d o,bit j a1 d o,c i q d o,AL6]at f;obtain⟨⟨u',hu3,hu4⟩,f⟩:=f;rw[hu1]at hu3;obtain rfl:=Bc2 hu3;rw[(c j a1 d o).2 ⟨w,hw1,hu4.trans huw⟩]at f;cases f
   rw[hno];simp
  rw[AT9]at a6;rw[a6];rfl
 have hcn:cl.n=0:=by rw[<- GW cl,hc2,Wx (fun i j h1 h2=>by rw[hfit i j (by omega) (by omega)];rfl) _ (AK6 _)];rfl
 refine A7 hc1 ?_;refine (A2 (by show ¬(((0:Int) != 0)||((cl.n:Int) != 0))=true;simp[hcn]) ?_);refine F8 (fun k x21=>x21=(k:Int)) p.n _ (by omega) rfl ?_;rintro self13 k x21 hk rfl hs13;by_cases hkl:k<p.n
 .refine A0 (by simp;omega) (A0 (by omega) ?_);rw[AK2];have hkm:k<h.Laws.n:=by omega
  refine D8 (fun b (x28 x29:Int)=>x29=(b:Int)/\x28=U (Up (Fi (⟨h.Tree,h.Laws,on⟩:A9) k) b)) ls.n _ (by omega) ⟨rfl,rfl⟩ ?_;rintro x b x28 x29 hb ⟨rfl,rfl⟩ hs16;by_cases hbl:b<ls.n
  .refine A0 (by simp;omega) (A0 (by show ((0:Int)<=(b:Int)/\(b:Int)<(ls.n:Int))/\(b:Int).toNat<ls.n;omega) ?_);rw[AK2];obtain⟨hlf1,hlf2⟩:=UX (h:=h) (k:=b) (by rw[<- a0];exact hbl);rw[<- a0]at hlf2;rw[hlf2];have a2:=c k hkm b hbl;have hyes:Fi (⟨h.Tree,h.Laws,on⟩:A9) k b=true->∃r,x (E3 .or .u64 (U (Up (Fi (⟨h.Tree,h.Laws,on⟩:A9) k) b)) (shI .shl .u64 1 (b:Int))) (wrap .i64 ((b:Int)+1))=some r/\r=true:=fun e=>hs16 hbl _ _ ⟨Aa,by
    have:=Wr (z:=Up (Fi (⟨h.Tree,h.Laws,on⟩:A9) k) b) (k:=b) (by omega) false
    rw[show QO (Up (Fi (⟨h.Tree,h.Laws,on⟩:A9) k) b) b false=Up (Fi (⟨h.Tree,h.Laws,on⟩:A9) k) b from rfl]at this;rw[this];show _=U (QO _ b (Fi (⟨h.Tree,h.Laws,on⟩:A9) k b));rw[e]⟩
   have hnot:Fi (⟨h.Tree,h.Laws,on⟩:A9) k b=false->∃r,x (U (Up (Fi (⟨h.Tree,h.Laws,on⟩:A9) k) b)) (wrap .i64 ((b:Int)+1))=some r/\r=true:=fun e=>hs16 hbl _ _ ⟨Aa,by show _=U (QO _ b (Fi (⟨h.Tree,h.Laws,on⟩:A9) k b));rw[e];rfl⟩
   generalize Z3 h b=w0 at hlf1 a2;rcases hp.a k hkm with a3|⟨u,hu,a3⟩
   .have hf:Fi (⟨h.Tree,h.Laws,on⟩:A9) k b=false:=by rw[AX2];intro g;obtain⟨u,hu,_⟩:=a2.1 g;omega
    obtain⟨M,rfl⟩:∃M,N=M+1:=⟨N-1,by omega⟩;rw[Q9];refine A2 (by rw[a3];simp) (A2 (by rw[a3];simp) (hnot hf))
   have a2:Fi (⟨h.Tree,h.Laws,on⟩:A9) k b=true↔Anc h.Tree u w0:=by
    rw[a2];constructor
    .rintro⟨u',h1,h2⟩;rw[a3]at h1;obtain rfl:=Bc2 h1;exact h2
    exact fun h2=>⟨u,a3,h2⟩
   refine F8 (fun i x31=>∃w:Nat,x31=(w:Int)/\w+i<=w0/\(Anc h.Tree u w↔Anc h.Tree u w0)) w0 _ (by omega) ⟨w0,rfl,by omega,AZ4⟩ ?_;rintro self17 i x31 q ⟨w,rfl,hwi,a7⟩ hs17;rw[a3];by_cases huw:u<w
   .refine A0 (by simp;omega) (A0 (by omega) ?_);rw[AK2];rcases T8 l.tree (show w<h.Tree.n by omega)with⟨e,_⟩ | ⟨r,hr,e⟩
    .omega
    rw[e];refine hs17 (by omega) _ ⟨r,rfl,by omega,?_⟩;rw[<- a7,ZT e hr];constructor
    .exact .inr
    rintro (h1|h1)
    .omega
    exact h1
   refine A2 (by simp;omega) ?_;by_cases e:w=u
   .subst e;exact A0 (by simp) (A0 (by omega) (hyes (a2.2 (a7.1 .refl))))
   refine A2 (by simp;omega) (hnot ?_);rw[AX2];intro g
   have:=(a7.2 (a2.1 g)).le
   omega
  obtain rfl:b=ls.n:=by omega
  refine A2 (by simp) (A0 (by show (0:Int)<=(k:Int)/\(k:Int)<(t.Has.n:Int);omega) (A2 ?_ (hs13 hkl _ (Aa))));show ¬(t.Has.g k != _)=true;rw[hHg k hkm];simp
 obtain rfl:k=p.n:=by omega
 exact A2 (by simp) (A7 hW ⟨_,rfl,rfl⟩)
end Go.AM
namespace Go.AM
open Go.RowKit Go.ChangeShapes Go.WideShapes Go.ChangeAt Go.Deep Go.Proofs Go.Proofs.YtfcfdofmgkpmbaaGreatDoor
section
variable {H:Type}{enc:TypeId×Value->H}{P:Program}{W:World}
theorem Av0 {cs:Array Value}{pvs:List PV}(h:CRep W (Value.agg cs).cells.toList pvs):RepP W (fun _ _=>False) (.agg cs) (.agg pvs):=by
 obtain⟨h1,a⟩:=h;have hc:(Value.agg cs).cells.toList=cs.toList:=rfl;rw[hc]at h1 a;have e:∀i,cs.toList.getD i undef=cs.getD i undef:=fun i=>by simp[AJ9,AK1]
 exact .agg cs pvs (by simpa using h1) (fun i b=>by rw[<- e];exact (a i b).2) fun i b=>by rw[<- e];exact (a i b).1
end
theorem Ai7 {n:Int}(hw:(Lit.int .u32 n).wf=true):∃p:BitVec 32,n=(p.toNat:Int):=by
 simp only[Lit.wf,IntKind.min,IntKind.max,IntKind.signed,IntKind.bits,AK5,De]at hw;refine⟨BitVec.ofNat 32 n.toNat,?_⟩;rw[AT3];have a:0<=n:=by have:=hw.1;simpa using this
 have h1:n<4294967296:=by have:=hw.2;simp at this;omega
 rw[AQ9 (by omega),Bj6 a]
end Go.AM
namespace Go.AM
open Go.RowKit Go.ChangeShapes Go.WideShapes Go.ChangeAt Go.Deep Go.Proofs Go.Proofs.YtfcfdofmgkpmbaaGreatDoor
set_option maxRecDepth 100000
def Me (x:Eg):Prop:=((Lit.int .u32 x.Plus).wf=true)/\((Lit.int .u32 x.Minus).wf=true)
def Dj (x:Eg):Nat:=1+1+1
def IL:LF Tryz.prog F1 A1 Me Dj:=by intro m pvs h;obtain⟨m0,h,a⟩:=Ct Tryz.underlying87 h;obtain⟨a0,b0,p0,q0,rfl,b,h,c⟩:=F0 h;obtain⟨x0,l0,w0,s0⟩:=P1 AX4 _ _ b;have s0:1<=a0:=s0;obtain⟨a1,b1,p1,q1,rfl,h1,h,d⟩:=F0 h;obtain⟨x1,l1,w1,s1⟩:=P1 AX4 _ _ h1;have s1:1<=a1:=s1;obtain rfl:=EZ h;exact⟨⟨x0,x1⟩,LeDs.append l0 (LeDs.append l1 LeDs.nil),⟨w0,w1⟩,by simp only[Dj];omega⟩
def ZV {x:Eg}(h:Me x):okS x:=by obtain⟨p,hp⟩:=Ai7 h.1;obtain⟨q,a⟩:=Ai7 h.2;exact⟨p,q,by cases x;simp_all [sOf]⟩
abbrev Wy (x:Pat):Prop:=okPS x
abbrev SR (x:Pat):Nat:=1
def SS:LF Tryz.prog Fj B7 Wy SR:=by
 intro m
 induction m using Nat.strongRecOn with
 |ind m ih=>
 intro pvs h;obtain⟨m0,h,d⟩:=Ct Tryz.underlying121 h;obtain⟨a0,b0,p0,q0,rfl,j,h,l⟩:=F0 h;obtain⟨x0,l0,w0,s0⟩:=P1 AR8 _ _ j;have s0:1<=a0:=s0;obtain⟨a1,b1,p1,q1,rfl,h1,h,o⟩:=F0 h;obtain⟨x1,l1,w1,s1⟩:=IL _ _ h1;have s1:Dj x1<=a1:=s1;obtain⟨a2,b2,p2,q2,rfl,q,h,r⟩:=F0 h;obtain⟨x2,l2,w2,s2⟩:=XE AU1 _ _ q;have s2:1<=a2:=s2;obtain⟨a3,b3,p3,q3,rfl,s,h,t⟩:=F0 h;obtain⟨x3,l3,w3,s3⟩:=P1 AR8 _ _ s;have s3:1<=a3:=s3;obtain⟨a4,b4,p4,q4,rfl,u,h,v⟩:=F0 h;obtain⟨x4,l4,w4,s4⟩:=P1 AR8 _ _ u;have s4:1<=a4:=s4;obtain⟨a5,b5,p5,q5,rfl,w,h,y⟩:=F0 h;obtain rfl:=EZ h;have a:Tryz.prog.cellsOf 121=7:=by kernel_rfl
 cases w with
 |int ht'=>rw[AV1]at ht';cases ht'
 |bool ht'=>rw[AV1]at ht';cases ht'
 |str ht'=>rw[AV1]at ht';cases ht'
 |struct ht'=>rw[AV1]at ht';cases ht'
 |arr ht'=>rw[AV1]at ht';cases ht'
 | @slice _ _ e' n f ms ht' hl hel hm=>rw[AV1]at ht';cases ht';rw[a];rw[Gu]at hm;obtain⟨g,c⟩:=choose_lt (α:=Pat) (p:=fun i x=>LeDs (f i) (B7 x)/\Wy x/\1<=ms i) fun i b=>ih (ms i) (by have:=Zo ms b;omega) _ (hel i b);exact⟨.mk x0 x1 x2 x3 x4 n g,LeDs.append l0 (LeDs.append l1 (LeDs.append l2 (LeDs.append l3 (LeDs.append l4 (.cons (.sl fun i b=>(c i b).1) .nil))))),⟨ZV w1,fun i b=>(c i b).2.1⟩,by show 1<=m;omega⟩
def UY (x:BD):Prop:=((Lit.int .i64 x.From).wf=true)/\((Lit.int .u32 x.Clear).wf=true)/\(Me x.Set)/\((Lit.int .u32 x.Take).wf=true)/\((Lit.int .i64 x.Of).wf=true)
def Kn (x:BD):Nat:=1+1+Dj x.Set+1+1+1
def Yh:LF Tryz.prog Zq S4 UY Kn:=by intro m pvs h;obtain⟨m0,h,a⟩:=Ct Tryz.underlying155 h;obtain⟨a0,b0,p0,q0,rfl,b,h,c⟩:=F0 h;obtain⟨x0,l0,w0,s0⟩:=P1 AR8 _ _ b;have s0:1<=a0:=s0;obtain⟨a1,b1,p1,q1,rfl,h1,h,d⟩:=F0 h;obtain⟨x1,l1,w1,s1⟩:=P1 AX4 _ _ h1;have s1:1<=a1:=s1;obtain⟨a2,b2,p2,q2,rfl,f,h,g⟩:=F0 h;obtain⟨x2,l2,w2,s2⟩:=IL _ _ f;have s2:Dj x2<=a2:=s2;obtain⟨a3,b3,p3,q3,rfl,i,h,j⟩:=F0 h;obtain⟨x3,l3,w3,s3⟩:=P1 AX4 _ _ i;have s3:1<=a3:=s3;obtain⟨a4,b4,p4,q4,rfl,l,h,n⟩:=F0 h;obtain⟨x4,l4,w4,s4⟩:=P1 AR8 _ _ l;have s4:1<=a4:=s4;obtain rfl:=EZ h;exact⟨⟨x0,x1,x2,x3,x4⟩,LeDs.append l0 (LeDs.append l1 (LeDs.append l2 (LeDs.append l3 (LeDs.append l4 LeDs.nil)))),⟨w0,w1,w2,w3,w4⟩,by simp only[Kn];omega⟩
def Wz (x:Law):Prop:=(True)/\(Wy x.Left)/\(Wy x.Right)/\(∀i,i<x.If.n->Me (x.If.g i))/\(∀i,i<x.Out.n->UY (x.Out.g i))/\((Lit.int .i64 x.Mode).wf=true)
def Jk (x:Law):Nat:=(x.Name.length+1)+SR x.Left+SR x.Right+(E6 (fun i=>Dj (x.If.g i)) x.If.n+1)+(E6 (fun i=>Kn (x.Out.g i)) x.Out.n+1)+1+1
def ZW:LF Tryz.prog DA B5 Wz Jk:=by intro m pvs h;obtain⟨m0,h,a⟩:=Ct Tryz.underlying124 h;obtain⟨a0,b0,p0,q0,rfl,b,h,c⟩:=F0 h;obtain⟨x0,l0,w0,s0⟩:=Zp AY3 _ _ b;have s0:(x0.length+1)<=a0:=s0;obtain⟨a1,b1,p1,q1,rfl,h1,h,d⟩:=F0 h;obtain⟨x1,l1,w1,s1⟩:=SS _ _ h1;have s1:SR x1<=a1:=s1;obtain⟨a2,b2,p2,q2,rfl,f,h,j⟩:=F0 h;obtain⟨x2,l2,w2,s2⟩:=SS _ _ f;have s2:SR x2<=a2:=s2;obtain⟨a3,b3,p3,q3,rfl,l,h,o⟩:=F0 h;obtain⟨x3,l3,w3,s3⟩:=T7 Tryz.underlying76 (by kernel_rfl) IL _ _ l;have s3:(E6 (fun i=>Dj (x3.g i)) x3.n+1)<=a3:=s3;obtain⟨a4,b4,p4,q4,rfl,q,h,r⟩:=F0 h;obtain⟨x4,l4,w4,s4⟩:=T7 Tryz.underlying122 (by kernel_rfl) Yh _ _ q;have s4:(E6 (fun i=>Kn (x4.g i)) x4.n+1)<=a4:=s4;obtain⟨a5,b5,p5,q5,rfl,s,h,t⟩:=F0 h;obtain⟨x5,l5,w5,s5⟩:=P1 AR8 _ _ s;have s5:1<=a5:=s5;obtain rfl:=EZ h;exact⟨⟨x0,x1,x2,x3,x4,x5⟩,LeDs.append l0 (LeDs.append l1 (LeDs.append l2 (LeDs.append l3 (LeDs.append l4 (LeDs.append l5 LeDs.nil))))),⟨w0,w1,w2,w3,w4,w5⟩,by simp only[Jk];omega⟩
end Go.AM
namespace Go.AM
def ZX {f:Nat->Nat}(h:∀i,1<=f i):∀n,n<=E6 f n
 |0=>AT8 _
 |n+1=>by
  have:=ZX h n
  have:=h n
  show n+1<=E6 f n+f n;omega
def AD5 {x:BD}(h:UY x):okO x:=⟨ZV h.2.2.1,Ai7 h.2.1,Ai7 h.2.2.2.1⟩
def Ai8 {l:Law}(h:Wz l)(hs:Jk l<=1048576):UQ l:=by obtain⟨_,h1,b,c,d,_⟩:=h;unfold Jk at hs;have g1:=ZX (f:=fun i=>Dj (l.If.g i)) (fun i=>by simp only[Dj];omega) l.If.n;have g2:=ZX (f:=fun i=>Kn (l.Out.g i)) (fun i=>by simp only[Kn];omega) l.Out.n;exact⟨⟨h1,b,fun i a=>ZV (c i a)⟩,by omega,by omega,by omega,fun i a=>AD5 (d i a)⟩
def ZY {x:Sl Law}(h:∀i,i<x.n->Wz (x.g i))(hs:E6 (fun i=>Jk (x.g i)) x.n+1<=1048576):ZB x:=fun i a=>
 Ai8 (h i a) (by have:=Zo (fun i=>Jk (x.g i)) a;have this:Jk (x.g i)<=_:=this;omega)
end Go.AM
namespace Go.AM
open Go.RowKit Go.ChangeShapes Go.WideShapes Go.ChangeAt Go.Deep Go.Proofs Go.Proofs.YtfcfdofmgkpmbaaGreatDoor
set_option maxRecDepth 100000
def WA (x:HY):Prop:=(∀i,i<x.Parents.n->(Lit.int .u8 (x.Parents.g i)).wf=true)/\(∀i,i<x.Laws.n->Wz (x.Laws.g i))/\(∀i,i<x.On.n->(Lit.int .u16 (x.On.g i)).wf=true)
def Jl (x:HY):Nat:=(E6 (fun i=>1) x.Parents.n+1)+(E6 (fun i=>Jk (x.Laws.g i)) x.Laws.n+1)+(E6 (fun i=>1) x.On.n+1)+1
def UZ:LF Tryz.prog UD Dx WA Jl:=by intro m pvs h;obtain⟨m0,h,a⟩:=Ct Tryz.underlying75 h;obtain⟨a0,b0,p0,q0,rfl,b,h,c⟩:=F0 h;obtain⟨x0,l0,w0,s0⟩:=T7 Be2 (by kernel_rfl) (P1 AQ1) _ _ b;have s0:(E6 (fun i=>1) x0.n+1)<=a0:=s0;obtain⟨a1,b1,p1,q1,rfl,h1,h,d⟩:=F0 h;obtain⟨x1,l1,w1,s1⟩:=T7 Tryz.underlying51 (by kernel_rfl) ZW _ _ h1;have s1:(E6 (fun i=>Jk (x1.g i)) x1.n+1)<=a1:=s1;obtain⟨a2,b2,p2,q2,rfl,f,h,j⟩:=F0 h;obtain⟨x2,l2,w2,s2⟩:=T7 Tryz.underlying73 (by kernel_rfl) (P1 Tryz.underlying182) _ _ f;have s2:(E6 (fun i=>1) x2.n+1)<=a2:=s2;obtain rfl:=EZ h;exact⟨⟨x0,x1,x2⟩,LeDs.append l0 (LeDs.append l1 (LeDs.append l2 LeDs.nil)),⟨w0,w1,w2⟩,by simp only[Jl];omega⟩
end Go.AM
namespace Go.AM
def AD6 {n:Int}(h:(Lit.int .u16 n).wf=true):∃k:Nat,n=(k:Int)/\k<65536:=by
 simp only[Lit.wf,IntKind.min,IntKind.max,IntKind.signed,IntKind.bits,AK5,De]at h;have a:0<=n:=by have:=h.1;simpa using this
 have h1:n<65536:=by have:=h.2;simp at this;omega
 exact⟨n.toNat,by omega,by omega⟩
def Yi {x:HY}(w:WA x)(hs:Jl x<=1048576):QR x:=by unfold Jl at hs;exact⟨fun i a=>Ai9 (w.1 i a),ZY w.2.1 (by omega),fun i a=>AD6 (w.2.2 i a)⟩
end Go.AM
namespace Go.AM
open Go.RowKit Go.ChangeShapes Go.WideShapes Go.ChangeAt Go.Deep Go.Proofs Go.Proofs.YtfcfdofmgkpmbaaGreatDoor
namespace InClades
set_option maxRecDepth 100000
def contract (H:Type)(enc:TypeId×Value->H)(W:World)(base:Nat)(args:Array Value)(ds gs:List (DataW H))(before:List MemPlace)
 (a:∀(j:Nat) t v,Tryz.f11.params[j]? = some t->args[j]? = some v->Value.okWide Tryz.prog W .any base t v)
 (m:DataW.Whole enc Tryz.prog Tryz.f11.params.toList Rows.innovCladesSpec.vars false W args.toList ds gs before) (hk:Rows.uptoSmall H (ds++gs)=true) (hL:laidMetH Tryz.prog Rows.innovCladesUptoRow.laid W) :
 Calls Tryz.prog 11 args W fun e W'=>∃v,e=.returned v/\Rows.innovCladesSpec.post enc Tryz.prog Tryz.f11 false true false false W args v W':=by
 have c:=m;obtain⟨p,q,d,o,rfl,r,s⟩:=m;have n:DataW.TrodAll enc Tryz.prog W 0 (fun _=>true) true Tryz.f11.params.toList args.toList ds p:=d;rw[Bk8]at n a;obtain⟨v0,vs0,d0,ds0,p0,q0,f,rfl,rfl,u,r0⟩:=trodAll_cons n;obtain⟨rfl,rfl,rfl⟩:=trodAll_nil r0;obtain rfl:args = #[v0]:=by cases args;simp_all
 obtain⟨rfl,rfl⟩:=trodVars_none o;have hb:=of_decide_eq_true hk;simp only[AQ0,Rows.uptoBulkAll]at hb;obtain⟨cs0,b,_⟩:=okWide_struct Tryz.underlying75 (a 0 75 v0 rfl rfl);obtain⟨fu0,g0⟩:=u;have w:WB Tryz.prog [75,72,5,51,124,9,121,3,87,85,4,119,76,122,155,73,182]=true:=by kernel_rfl
 have g:∀t∈([75,72,5,51,124,9,121,3,87,85,4,119,76,122,155,73,182]:List Nat),t<Tryz.prog.types.size:=by decide +kernel
 obtain⟨pv0,c0,sh0⟩:=Fk ZZ Aa0 w g fu0 75 _ _ (by simp) g0;obtain⟨x0,l0,w0,s0⟩:=UZ _ _ sh0;have s0:Jl x0<=Rows.uptoBulk d0:=s0;have e0:=c0.leD l0;rw[b]at e0;have e0:=Av0 e0;rw[<- b]at e0;have x:FunO (FL Tryz.prog) BX [.p (.agg (Dx x0))] [] (.p (.bb true)) [] []:=
  Kj (Ar0 _) libC (MO (N:=4194304) (by omega) LK (Yi w0 (by omega)))
 have hc:=FM (args:=[.agg (Dx x0)]) (enters_of Fa (by decide +kernel) rfl) x (W:=W) (vs:=#[v0]) (Va hL) rfl (fun i y=>by
  match i,y with
  |0,_=>exact e0
  )
 refine hc.mono fun e W' ⟨z,l⟩=>?_;subst z;exact⟨_,rfl,QS rfl (by kernel_rfl) AU1 (by kernel_rfl) (by rw[Bk8];decide +kernel) c rfl l⟩
def own:ownKnob Tryz.prog.godebug=none:=by kernel_rfl
def reads (os:Os){H:Type}(enc:TypeId×Value->H):∃places,DataW.whole enc Tryz.prog ((World.laidAll Tryz.prog os Rows.innovCladesUptoRow.laid).forCall (fun _ _=>0) ⟨#[],#[.agg #[.slice none 0 0,.slice none 0 0,.slice none 0 0]],[]⟩).memory Tryz.f11.params.toList Rows.innovCladesSpec.vars false (#[.agg #[.slice none 0 0,.slice none 0 0,.slice none 0 0]]:Array Value).toList 16=some ([.agg [.nil,.nil,.nil]],[],places):=
 ⟨[],by kernel_rfl⟩
def laid_met (os:Os):laidMet Tryz.prog Rows.innovCladesUptoRow.laid ((World.laidAll Tryz.prog os Rows.innovCladesUptoRow.laid).forCall (fun _ _=>0) ⟨#[],#[.agg #[.slice none 0 0,.slice none 0 0,.slice none 0 0]],[]⟩).memory:=
 laidMet_laidAll _ (by kernel_rfl) (by kernel_rfl)
def liftedUpto (os:Os)(started:os.Started)(H:Type)(enc:TypeId×Value->H)(F:Stop.Interp) :ReturnsInHanded {} Tryz.checked os 11 .any ((Rows.OpenSpec.upto Rows.innovCladesSpec).preRow enc Tryz.prog Tryz.f11 Rows.innovCladesUptoRow.domain false Rows.innovCladesUptoRow.laid) (((Rows.OpenSpec.upto Rows.innovCladesSpec).at F).post enc Tryz.prog Tryz.f11 false true false false):=by
 obtain⟨places,hx⟩:=reads os enc;refine returnsInHanded_of_row (C:=Tryz.checked) (s:=Rows.OpenSpec.upto Rows.innovCladesSpec) own started (by kernel_rfl) Bl9
  (witness_row_at (enc:=enc) (C:=Tryz.checked) false (World.laidAll Tryz.prog os Rows.innovCladesUptoRow.laid) #[.agg #[.slice none 0 0,.slice none 0 0,.slice none 0 0]] (World.laidAll_os _ _ _) (by kernel_rfl) (by kernel_rfl) (by kernel_rfl)
   (AZ8 16 hx (by kernel_rfl) (fun k hk=>by cases hk;kernel_rfl) (by kernel_rfl) (laid_met os))) ?_
 intro W base args ds gs before b c _ a _ hL _ _;exact contract H enc W base args ds gs before b c (a _ rfl) hL
def gA:jA_ Tryz.pinned.checked.prog 11 Tryz.f11 (Rows.OpenSpec.upto Rows.innovCladesSpec).bare Rows.innovCladesUptoRow=true:=by kernel_rfl
def gB:jB_ Tryz.pinned.checked.prog 11 Tryz.f11 (Rows.OpenSpec.upto Rows.innovCladesSpec).bare Rows.innovCladesUptoRow=true:=by kernel_rfl
def gC:jC_ Tryz.pinned.checked.prog 11 Tryz.f11 (Rows.OpenSpec.upto Rows.innovCladesSpec).bare Rows.innovCladesUptoRow=true:=by kernel_rfl
def gD:jD_ Tryz.pinned.checked.prog 11 Tryz.f11 (Rows.OpenSpec.upto Rows.innovCladesSpec).bare Rows.innovCladesUptoRow=true:=by kernel_rfl
def gE:jE_ Tryz.pinned.checked.prog 11 Tryz.f11 (Rows.OpenSpec.upto Rows.innovCladesSpec).bare Rows.innovCladesUptoRow=true:=by kernel_rfl
def gF:jF_ Tryz.pinned.checked.prog 11 Tryz.f11 (Rows.OpenSpec.upto Rows.innovCladesSpec).bare Rows.innovCladesUptoRow=true:=by kernel_rfl
def saidUpto:Rows.InnovCladesUptoSaid:=
 Ba1 11 Tryz.f11 rfl rfl rfl rfl rfl rfl rfl ⟨rfl,rfl,rfl,rfl,rfl⟩ rfl rfl rfl rfl rfl (by kernel_rfl) Bl9 (MP gA gB gC gD gE gF)
  (of_decide_eq_true (by kernel_rfl)) (by unfold Func.isWrapper;first|(rw[Az (by decide +kernel)];kernel_rfl)|(rw[Bb (by decide +kernel)];exact⟨rfl,rfl⟩))
  (fun os started H enc _ F=>by rw[Ba4];exact liftedUpto os started H enc F)
def plain (f:FuncId)(fn:Func)(b:Tryz.pinned.checked.prog.funcNamed "ablaut/ablautlaw31.InnovClades" = some f)(a:Tryz.pinned.checked.prog.funcs[f]? = some fn) :true=Tryz.pinned.checked.prog.looks []/\∀(j:Nat) t,fn.params[j]? = some t->Tryz.pinned.checked.prog.wantsStandIn t=false:=by
 obtain rfl:f=11:=AM8 ((show Tryz.prog.funcNamed "ablaut/ablautlaw31.InnovClades" = some 11 by kernel_rfl).symm.trans b) |>.symm;obtain rfl:fn=Tryz.f11:=(AM8 (Tryz.func11.symm.trans a)).symm;refine⟨by kernel_rfl,fun j t ht=>?_⟩;rw[Bk8]at ht;have hm:=AW8 ht;simp only[Bg2,AO3,Bg5,or_false]at hm;rcases hm with rfl
 exact (show Tryz.prog.wantsStandIn 75=false by kernel_rfl)
def cardUpto:Rows.InnovCladesUptoCardSaid:=
 AX6 .later [] _ _ _ _ saidUpto (fun _ h=>by cases h) (by kernel_rfl) (fun _ h=>by cases h) innovCladesUpto_row_tie rfl ⟨rfl,rfl⟩ (by kernel_rfl) rfl plain (by kernel_rfl)
end InClades
end Go.AM
