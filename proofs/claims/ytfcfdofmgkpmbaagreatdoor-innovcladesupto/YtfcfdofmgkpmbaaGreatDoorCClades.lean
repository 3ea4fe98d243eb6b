/- What a law's walk and its plain proof need, part 10: no condition of its own. -/
import Derived.Test.YtfcfdofmgkpmbaaGreatDoorNG
import Derived.Test.YtfcfdofmgkpmbaaGreatDoorNF
import Derived.Test.YtfcfdofmgkpmbaaGreatDoorNH
import Derived.Lay
set_option linter.defProp false
set_option linter.unusedSimpArgs false
set_option linter.unusedVariables false
set_option linter.unusedSectionVars false
namespace Go.AM
def Mf:=@decide_eq_true_eq
theorem Lk{c:Prop}{i:Decidable c}{α:Sort _}{a b:α}(h:¬c:=by omega):(if c then a else b)=b:=Lp h
theorem Lj{c:Prop}{i:Decidable c}{α:Sort _}{a b:α}(h:c:=by omega):(if c then a else b)=a:=Ln h
def Au1:=@Int.toNat_natCast
def Ax6:=@Bool.eq_iff_iff
def Az1:=@List.range_succ
def Az7:=@Go.Proofs.Tryz.underlying3
def Az8:=@Go.Proofs.Tryz.underlying5
def AA6:=@BitVec.eq_of_toNat_eq
def AA9:=@Nat.not_lt_zero
def AB6:=@BitVec.eq_of_getLsbD_eq
def AB7:=@BitVec.getLsbD_or
def AB8:=@List.reverse_append
def AB9:=@Go.Proofs.Tryz.underlying4
def AC4:=@Go.Proofs.Tryz.underlying119
def AD0:=@List.map_append
def AD6:=@Bool.not_eq_true
def AD9:=@BitVec.getLsbD_and
def AE5:=@Go.Proofs.Tryz.underlying85
def AE8:=@Nat.pow_le_pow_right
def AF2:=@Go.Proofs.Tryz.underlying9
def AF9:=@UInt8.toNat_ofNat'
def AG5:=@Bool.eq_false_iff
def AH0:=@List.mem_reverse
def AH1:=@Bool.or_eq_false_iff
def AH4:=@Int.ofNat.inj
def AH5:=@Nat.lt_irrefl
def AH9:=@Go.Claim7.holds_tied_plain_at
def AI2:=@Nat.shiftRight_eq_div_pow
def AI5:=@BitVec.toNat_ushiftRight
def AI6:=@List.any_eq_false
def AI7:=@Classical.not_not
def AI8:=@Go.Proofs.Tryz.underlying72
def AJ1:=@Classical.axiomOfChoice
def AJ2:=@Go.OpenSpec.preRow_of_cond
def AJ4:=@Go.OpenClaim.holds_of_cond
def AJ6:=@Go.OpenClaim.pre_eq_preRow
def AK1:=@BitVec.toNat_shiftLeft
def AK2:=@Nat.testBit_lt_two_pow
def AK3:=@List.reverse_singleton
def AK6:=@Bool.and_eq_false_iff
def AK7:=@List.singleton_append
def AL8:=@BitVec.toNat_ofInt
def AL9:=@BitVec.getLsbD_one
def AM0:=@List.filter_append
def AM1:=@List.cons.inj
def AM2:=@Go.Proofs.Tryz.params11
def AN3:=@Go.Proofs.Tryz.func11
theorem leC0:leC [] []:=⟨rfl,fun _=>.inl rfl⟩
theorem leCc {x y:PV}{xs ys:List PV}(h:leP x y)(hs:leC xs ys):leC (x::xs) (y::ys):=
 ⟨by rw[Aw7,Aw7,hs.1],fun j=>by cases j with
  |zero=>exact h
  |succ j=>exact hs.2 j⟩
theorem lePN {k:Nat}{g:Nat->List PV}:leP (.v (.slice none 0 0)) (.sl false k 0 g):=.inr (.inr (.inl ⟨_,_,rfl,rfl⟩))
theorem Al4 {xs ys:List PV}(h:leC xs ys):AV.p (.agg xs)=.p (.agg ys) \/ ∃x y,AV.p (.agg xs)=.p x/\AV.p (.agg ys)=.p y/\leQ x y:=.inr ⟨_,_,rfl,rfl,.inr (.inr ⟨_,_,rfl,rfl,h⟩)⟩
section
variable {S:Q7}{P:Program}{F:H8}{K:List It}{st:St}
section
variable {n:Nat}{rs:List ResultVar}{Q:JN->List Obj->List Bool->Prop}{l:List AV}{a:AV}
end
end
end Go.AM
namespace Go.AM
open IntKind (wrap)
def NC {n:Nat}(h:n<2 ^ 32):IntKind.u32.wrap (n:Int)=n:=by have h1:((n:Int) % (2 ^ 32:Int))=n:=AC8 (by omega) (by omega);unfold wrap;simp only[IntKind.bits,IntKind.signed,h1,AD7,Au4,Lz]
def GK (x:BitVec 32):BitVec.ofInt 32 (x.toNat:Int)=x:=by
 apply AA6;rw[AL8]
 have:=x.isLt
 omega
def JV (x y:BitVec 32):E7 .and .u32 x.toNat y.toNat=((x &&& y).toNat:Int):=by simp only[E7,IntKind.bits,GK];exact NC (x &&& y).isLt
def We (x y:BitVec 32):E7 .or .u32 x.toNat y.toNat=((x ||| y).toNat:Int):=by simp only[E7,IntKind.bits,GK];exact NC (x ||| y).isLt
def UA (x y:BitVec 32):E7 .andNot .u32 x.toNat y.toNat=((x &&& ~~~ y).toNat:Int):=by simp only[E7,IntKind.bits,GK];exact NC (x &&& ~~~ y).isLt
def ZW (x:BitVec 32)(n:Nat):shI .shr .u32 x.toNat n=((x >>> n).toNat:Int):=by
 simp only[shI,IntKind.bits,Au1];have hx:=x.isLt;rw[AI5,AI2];have e:((2:Int) ^ (min n 32))=((2 ^ (min n 32):Nat):Int):=by norm_cast
 rw[e,Int.fdiv_eq_ediv_of_nonneg _ (Int.natCast_nonneg _),<- Int.natCast_ediv];congr 1;by_cases h:n<=32
 .rw[AC9 h]
 rw[Nat.min_eq_right (by omega),AD4 hx,AD4];exact Aw0 hx (AE8 (by omega) (by omega))
end Go.AM
namespace Go.AM
namespace Sl
variable {α : Type}
end Sl
section
variable {R:Type}
variable {A B C D E F G H:Type}
theorem Co {N:Nat}{body:(A->Option R)->A->Option R}{a:A}:At (N+1) body a=body (At N body) a:=rfl
theorem Po {N:Nat}{body:(A->B->Option R)->A->B->Option R}{a:A}{b:B}:Bq (N+1) body a b=body (Bq N body) a b:=rfl
end
section
variable {R X Y:Type}{r:R}
end
section
variable {S:Q7}{P:Program}{F:H8}{K:List It}{st:St}
end
section
variable {regs:C0}{ids:List (Nat×Nat)}
variable {env r:Env}{t:Nat}{a b:AV}{x y:PV}
end
end Go.AM
namespace Go.AM
abbrev cB (b:Bool):List PV:=[.bb b]
abbrev cS (s:Str):List PV:=[.str s]
section
variable {S:Q7}{P:Program}{F:H8}{K:List It}{st:St}
end
section
variable {regs:C0}{ids:List (Nat×Nat)}
end
end Go.AM
namespace Go.AM
theorem Rk {κ ν : Type}(kP : κ -> PV)(vP : ν -> PV)(es:List (κ × ν)):(Jw kP vP es).length=es.length:=by simp[Jw]
theorem Pp {X Y:Type}(a:Y)(f:X->Y):Ac5 none a f=a:=rfl
theorem Wf {X Y:Type}(x:X)(a:Y)(f:X->Y):Ac5 (some x) a f=f x:=rfl
section
variable {R T A B C D:Type}
end
section
variable {S:Q7}{P:Program}{F:H8}{K:List It}{st:St}
end
end Go.AM
namespace Go.AM
section
variable {S:Q7}{P:Program}{all:List Oper}{k:Env->C0->Prop}
end
end Go.AM
namespace Go.AM
section
variable (P:Program)
end
section
variable {P:Program}
variable {S:Q7}{F:H8}{g:Cfg}{pr:Prop}
end
section
variable {S:Q7}{P:Program}{F:H8}{g:Cfg}{pr:Prop}
section
variable {sc:SC}{k:Env->C0->Prop}
theorem ZX:∀{env:Env}{i d:Nat}{b:AV},Yh ((i,b)::env)=true->get env d ≠ .top->d<i
 |[],_,_,_,_,h=>Lq rfl h
 |(j,c)::r,i,d,b,hd,h=>by
  simp only[Yh,Au0,Mf]at hd;by_cases e:j=d
  .subst e;exact hd.1
  simp only[get,e,Lz]at h;exact Nat.lt_trans (ZX hd.2 h) hd.1
theorem ND:∀{env:Env}{d:Nat}{a:AV},Yh env=true->get env d=a->a ≠ .top->ins d a env=env
 |[],_,_,_,h,hn=>Lq h.symm hn
 |(i,b)::r,d,a,hd,h,hn=>by
  by_cases e:i=d
  .subst e;simp only[get,Ly]at h;subst h;simp[ins]
  simp only[get,e,Lz]at h;have c:=ZX hd (by rw[h];exact hn);have f:Yh r=true:=by
   cases r with
   |nil=>rfl
   |cons p r=>simp only[Yh,Au0]at hd;exact hd.2
  simp only[ins,show ¬i<d by omega,e,Lz,ND f h hn]
def JW (v:Bool)(sc:SC):SC:=match sc.rest with
 |o::_=>match o.guard with
  |some (j,_)=>match Al5 sc.all j with
   |some d=>mkO (ins d (.p (.bb v)) sc.env) sc.regs fun env regs=>⟨sc.all,sc.cls,sc.rest,env,regs,j::sc.kn⟩
   |none=>sc
  |none=>sc
 |[]=>sc
theorem Ac6 (hc:pr){b:Bool}(ht:b=true->SG S P (JW true (Fd P sc)) k)(f:b=false->SG S P (JW false (Fd P sc)) k)(hp:pr=C9 (VZ P sc))(hb:NE (Fd P sc)=some b):SG S P sc k:=by
 refine Al6 hc ?_ hp;generalize Fd P sc=s at hb ht f;obtain⟨all,cls,rest,env,regs,kn⟩:=s;cases rest with
 |nil=>simp[NE]at hb
 |cons o rest=>
  simp only[NE]at hb;split at hb
  .rename_i j w g;split at hb
   .rename_i d i;split at hb
    .rename_i b' a;split at hb
     .rename_i c;simp only[At7]at hb;subst hb;simp only[JW,g,i,DC]at ht f;cases b' with
      |true=>have:=ht rfl;rwa [ND c a (by simp)]at this
      |false=>have:=f rfl;rwa [ND c a (by simp)]at this
     cases hb
    cases hb
   cases hb
  cases hb
end
end
section
variable {S:Q7}{P:Program}{F:H8}{g:Cfg}{pr:Prop}
section
variable {sc:SC}{k:Env->C0->Prop}
theorem Ac7 (hc:pr){b:Bool}(ht:b=true->DG S P (JW true (Fd P sc)) k)(a:b=false->DG S P (JW false (Fd P sc)) k)(hp:pr=C9 (VZ P sc):=by kernel_rfl)(hb:NE (Fd P sc)=some b:=by kernel_rfl):DG S P sc k:=
 ⟨Ac6 hc (fun h=>(ht h).out) (fun h=>(a h).out) hp hb⟩
end
end
end Go.AM
namespace Go.AM
section
variable {S:Q7}{P:Program}{F:H8}{K:List It}{st:St}{g:Cfg}{pr:Prop}
theorem Al7 {k:Nat}{g:Nat->List PV}:AV.p (.v (.slice none 0 0))=.p (.sl false k 0 g) \/ ∃x y,AV.p (.v (.slice none 0 0))=.p x/\AV.p (.sl false k 0 g)=.p y/\leQ x y:=
 .inr ⟨_,_,rfl,rfl,.inl (.inr (.inr (.inl ⟨_,_,rfl,rfl⟩)))⟩
end
end Go.AM
namespace Go.AM
open Go.RowKit Go.ChangeShapes Go.Deep
theorem LeDs.append {a b c d:List PV}(h:LeDs a b)(h' : LeDs c d):LeDs (a++c) (b++d):=by
 induction a generalizing b with
 |nil=>cases h;exact h'
 |cons x l ih=>cases h with|cons h1 h2=>exact .cons h1 (ih h2)
section
variable {P:Program}{t e:TypeId}{m:Nat}{pvs:List PV}
def IO (f:Nat->Nat):Nat->Nat
 |0=>0
 |k+1=>IO f k+f k
theorem Ac8 (f:Nat->Nat){k n:Nat}(h:k<=n):IO f k<=IO f n:=by
 induction h with
 |refl=>exact Au2 _
 |step _ ih=>simp only[IO];omega
theorem Wg (f:Nat->Nat){k n:Nat}(h:k<n):f k<=IO f n:=by
 have:=Ac8 f (show k+1<=n from h)
 simp only[IO]at this;omega
theorem Pq {f g:Nat->Nat}:∀{n:Nat},(∀i,i<n->f i<=g i)->IO f n<=IO g n
 |0,_=>Au2 _
 |n+1,h=>by have h1:=Pq (n:=n) fun i a=>h i (by omega);have b:=h n (by omega);simp only[IO];omega
theorem MI (f:Nat->Nat):∀n,Rg ((List.range n).map f)=IO f n:=by
 have app:∀a b:List Nat,Rg (a++b)=Rg a+Rg b:=by
  intro a b
  induction a with
  |nil=>simp[Rg]
  |cons x r ih=>simp only[Aw8,Pr,ih];omega
 intro n
 induction n with
 |zero=>rfl
 |succ n ih=>rw[Az1,AD0,app,ih];simp[IO,Rg]
theorem UB (ht:P.underlying t=some .bool):LT P t cB (fun _=>True) (fun _=>1):=by
 intro m pvs h;cases h with
 |int ht'=>rw[ht]at ht';cases ht'
 |str ht'=>rw[ht]at ht';cases ht'
 |slice _ ht'=>rw[ht]at ht';cases ht'
 |arr ht'=>rw[ht]at ht';cases ht'
 |struct ht'=>rw[ht]at ht';cases ht'
 |bool ht' hm=>exact⟨_,LeDs.refl _,trivial,hm⟩
theorem Wh (ht:P.underlying t=some .string):LT P t cS (fun _=>True) (fun l=>l.length+1):=by
 intro m pvs h;cases h with
 |int ht'=>rw[ht]at ht';cases ht'
 |bool ht'=>rw[ht]at ht';cases ht'
 |slice _ ht'=>rw[ht]at ht';cases ht'
 |arr ht'=>rw[ht]at ht';cases ht'
 |struct ht'=>rw[ht]at ht';cases ht'
 |str ht' hm=>exact⟨_,LeDs.refl _,trivial,hm⟩
theorem Cp {T:Type}[Inhabited T]{c:T->List PV}{W:T->Prop}{sz:T->Nat}{k:Nat}(ht:P.underlying t=some (.slice e))(hk:P.cellsOf e=k)(h:LT P e c W sz) :LT P t (cL k c) (fun s=>∀i,i<s.n->W (s.g i)) (fun s=>IO (fun i=>sz (s.g i)) s.n+1):=by
 intro m pvs hs;cases hs with
 |int ht'=>rw[ht]at ht';cases ht'
 |bool ht'=>rw[ht]at ht';cases ht'
 |str ht'=>rw[ht]at ht';cases ht'
 |arr ht'=>rw[ht]at ht';cases ht'
 |struct ht'=>rw[ht]at ht';cases ht'
 | @slice _ _ e' n f ms ht' hl hel hm=>
  rw[ht]at ht';cases ht';obtain⟨g,b⟩:=choose_lt (α:=T) (p:=fun i x=>LeDs (f i) (c x)/\W x/\sz x<=ms i) fun i a=>h _ _ (hel i a);refine⟨⟨n,g⟩,?_,fun i a=>(b i a).2.1,?_⟩
  .subst hk;exact .cons (.sl fun i a=>(b i a).1) .nil
  have h1:=Pq (n:=n) fun i a=>(b i a).2.2;rw[MI]at hm;show IO (fun i=>sz (g i)) n+1<=m;omega
theorem Br {fs:Array Field}(ht:P.underlying t=some (.struct fs))(h:GL P m t pvs):∃m',Fj P m' (fs.toList.map (·.type)) pvs/\m' + 1<=m:=by
 cases h with
 |int ht'=>rw[ht]at ht';cases ht'
 |bool ht'=>rw[ht]at ht';cases ht'
 |str ht'=>rw[ht]at ht';cases ht'
 |slice _ ht'=>rw[ht]at ht';cases ht'
 |arr ht'=>rw[ht]at ht';cases ht'
 |struct ht' h hm=>rw[ht]at ht';cases ht';exact⟨_,h,hm⟩
theorem D3 {ts:List TypeId}(h:Fj P m (t::ts) pvs):∃a b p q,pvs=p++q/\GL P a t p/\Fj P b ts q/\a+b<=m:=by
 cases h with
 |cons h h' hm=>exact⟨_,_,_,_,rfl,h,h',hm⟩
theorem DD (h:Fj P m [] pvs):pvs=[]:=by cases h;rfl
end
end Go.AM
namespace Go.AM
structure Gj where
 Parents:(Sl Int)
 Laws:(Sl Law)
 On:(Sl Int)
 deriving Inhabited
abbrev Cq (x:Gj):List PV:=[(vSl 1 (cI .u8) x.Parents),vSl 18 A9 x.Laws,vSl 1 (cI .u16) x.On]
end Go.AM
namespace Go.AM
open Go.Proofs
abbrev AX:Nat:=11
def DE:At5[AX]? = some Tryz.f11:=AN3
abbrev JX:Nat:=28
abbrev EP:Nat:=39
abbrev JY:Nat:=67
abbrev JZ:Nat:=68
abbrev MJ:Nat:=69
abbrev Ka:Nat:=86
abbrev IP:Nat:=88
abbrev MK:Nat:=100
abbrev Kb:Nat:=101
abbrev Kc:Nat:=102
abbrev FY:Nat:=103
abbrev Ei:Nat:=104
abbrev Ca:Nat:=132
abbrev ML:Nat:=133
abbrev MM:Nat:=134
abbrev Kd:Nat:=135
abbrev Ke:Nat:=136
abbrev MN:Nat:=137
abbrev Kf:Nat:=143
abbrev IQ:Nat:=156
abbrev FZ:Nat:=157
abbrev MO:Nat:=173
abbrev Rv:Nat:=75
abbrev Wi:Nat:=155
end Go.AM
namespace Go.AM
open IntKind (wrap)
def Fk {n:Nat}(h:n<2 ^ 64):IntKind.u64.wrap (n:Int)=n:=by have h1:((n:Int) % (2 ^ 64:Int))=n:=AC8 (by omega) (by omega);unfold wrap;simp only[IntKind.bits,IntKind.signed,h1,AD7,Au4,Lz]
def Rw (x:BitVec 64):BitVec.ofInt 64 (U x)=x:=by
 apply AA6;rw[AL8]
 have:=x.isLt
 show ((x.toNat:Int) % ((2 ^ 64:Nat):Int)).toNat=x.toNat;omega
def and64 (x y:BitVec 64):E7 .and .u64 (U x) (U y)=U (x &&& y):=by simp only[E7,IntKind.bits,Rw];exact Fk (x &&& y).isLt
def or64 (x y:BitVec 64):E7 .or .u64 (U x) (U y)=U (x ||| y):=by simp only[E7,IntKind.bits,Rw];exact Fk (x ||| y).isLt
def NG (x y:BitVec 64):E7 .andNot .u64 (U x) (U y)=U (x &&& ~~~ y):=by simp only[E7,IntKind.bits,Rw];exact Fk (x &&& ~~~ y).isLt
def Al8 (n:Nat)(h:n<64):shI .shl .u64 1 n=U (1#64 <<< n):=by
 simp only[shI,IntKind.bits,Au1];rw[AC9 (by omega)];show wrap .u64 (1*2 ^ n)=((1#64 <<< n).toNat:Int);rw[AK1,Nat.shiftLeft_eq];have h1:(2:Nat) ^ n<2 ^ 64:=Nat.pow_lt_pow_right (by omega) h;have e:((1:Int)*2 ^ n)=((2 ^ n:Nat):Int):=by norm_cast;omega
 rw[e,Fk h1]
 norm_cast
 rw[AB4]
 .simp
 simpa using h1
def Ac9 {i:Nat}:(1#64).getLsbD i=decide (i=0):=by rw[AL9];simp
def Ad0 {n i:Nat}(h:n<64)(a:i<64):(1#64 <<< n).getLsbD i=decide (i=n):=by rw[BitVec.getLsbD_shiftLeft,Ac9,Ax6];simp only[Au0,Av1,Mf,decide_eq_false_iff_not];omega
def Yi {x y:BitVec 64}(h:∀b,b<64->(x.getLsbD b=true↔y.getLsbD b=true)):x=y:=
 AB6 fun b hb=>Ax6.2 (h b hb)
end Go.AM
namespace Go.AM
open Go.Proofs
section
variable {S:Q7}(hS:F4 S Tryz.prog) (hL:Ig S)
include hS hL
def H9 (N:Nat)(s:Sl Int)(n:Int):Option (Sl Int):=if s.n=1/\0<=n/\n*8<=140737488355328 then some (Sl.rep n.toNat (s.g 0))else none
theorem CS {N:Nat}{s:Sl Int}{n:Int}{y:Sl Int}(h:H9 N s n=some y):FunO S I0 [.p (vSl 1 (cI .i64) s),.p (pI .i64 n)] [] (.vec 0) [.vec C4 1 y.n (fun i=>cI .i64 (y.g i)) false] []:=by
 obtain⟨⟨a,h1,b⟩,h⟩:=E2 h;obtain rfl:=B7 h
 have:=hL.repI s n.toNat a (by omega)
 rw[show ((n.toNat:Nat):Int)=n by omega]at this;exact this
end
end Go.AM
namespace Go.AM
variable {N:Nat}
open IntKind (wrap)
open Go.Proofs
set_option maxRecDepth 10000
set_option maxHeartbeats 2000000
variable {S:Q7}(hS:F4 S Tryz.prog) (hL:Ig S)
include hS hL
def T3 (N:Nat)(a:Mh):Option Bool:= At N (fun b (x1:Int)=>if (decide (x1<32)) then if ((0:Int)<=x1/\(0:Int)<=x1)then if ((((E7 .and .u32 (shI .shr .u32 a.Plus x1) 1)==1)&&((E7 .and .u32 (shI .shr .u32 a.Minus x1) 1)==1))||((((E7 .and .u32 (shI .shr .u32 a.Plus x1) 1)==1)||((E7 .and .u32 (shI .shr .u32 a.Minus x1) 1)==1))&&(decide (24<=x1)))) then some false else b (wrap .i64 (x1+1)) else none else some true) 0
theorem Kg {b:Mh}{y:Bool}(h:T3 N b=some y) :FunO S Ke [.p (.agg (A0 b))] [] (pB y) ([]) []:=by
 unfold T3 at h;refine A3 hS Tryz.func136 ?_;refine N0 hS Mg h (fun x1=>⟨[(3,pN x1),(1,.reg 2000 0)],[(2000,.cells [pU b.Plus,pU b.Minus])]⟩) (ids:=[(2000,2000)]) (fun _ _ _ _ _ c x1 d h=>?_);apply kI hS h<;>intro h
 .obtain⟨c7,h⟩:=E2 h;refine kB hS (A5 hS) c7 Mg 12 (.o (.n (.a ((E7 .and .u32 (shI .shr .u32 b.Plus x1) 1)==1)) (.a ((E7 .and .u32 (shI .shr .u32 b.Minus x1) 1)==1))) (.n (.o (.a ((E7 .and .u32 (shI .shr .u32 b.Plus x1) 1)==1)) (.a ((E7 .and .u32 (shI .shr .u32 b.Minus x1) 1)==1))) (.a (decide (24<=x1))))) ?_;apply kI hS h<;>intro h
  .cases h;exact kR hS
  exact d _ [(2000,2000)] _ (wrap .i64 (x1+1)) Mg h
 cases h;exact kR hS
def T4 (N:Nat)(a:Mh):Option Bool:= some ((((E7 .and .u32 a.Plus a.Minus)==0)&&(decide (a.Plus<16777216)))&&(decide (a.Minus<16777216)))
theorem Rx {b:Mh}{y:Bool}(h:T4 N b=some y) :FunO S Kf [.p (.agg (A0 b))] [] (pB y) ([]) []:=by unfold T4 at h;refine A3 hS Tryz.func143 ?_;refine kB hS (A5 hS) Mg Mg 9 (.n (.n (.a ((E7 .and .u32 b.Plus b.Minus)==0)) (.a (decide (b.Plus<16777216)))) (.a (decide (b.Minus<16777216)))) ?_;cases h;exact kR hS
def DF (N:Nat)(a:Pat):Option Int:= if ((decide (a.Kind<0))||(decide (6<a.Kind))) then some 2 else if ((a.Kind != 1)&&((((a.Is.Plus==0)&&(a.Is.Minus==0)) != true)||a.Not)) then some 2 else lt (fun (z1:Bool)=>if z1 then some 2 else if ((a.Kind != 5)&&((a.Min != 0)||(a.Max != 0))) then some 2 else lt (fun (z2:Bool)=>if z2 then some 2 else (T4 N a.Is).bind fun y1=>if (!y1) then some 14 else some 0) fun k2=>if (a.Kind==5) then if ((a.L.n:Int) != 1) then k2 true else if (decide (a.Min<0)) then k2 true else if (decide (32<a.Min)) then k2 true else if (a.Max != (-1)) then if (decide (a.Max<a.Min)) then k2 true else k2 (decide (32<a.Max)) else k2 false else k2 false) fun k1=>if (a.Kind != 3) then if (a.Kind != 4) then if (a.Kind != 5) then k1 (decide (0<(a.L.n:Int))) else k1 false else k1 false else k1 false
theorem UK {c:Pat}{y:Int}(h:DF N c=some y) :FunO S MO [.p (.agg (B1 c))] [] (pN y) ([]) []:=by
 unfold DF at h;refine A3 hS Tryz.func173 ?_;refine kB hS (A5 hS) Mg Mg 4 (.o (.a (decide (c.Kind<0))) (.a (decide (6<c.Kind)))) ?_;apply kI hS h<;>intro h
 .cases h;exact kR hS
 obtain⟨t1,f⟩:∃x:Bool,x=((c.Kind != 1)&&((((c.Is.Plus==0)&&(c.Is.Minus==0)) != true)||c.Not)):=⟨_,rfl⟩;refine NH hS Mg (A5 hS) 0 ⟨[(23,pB t1),(1,.reg 2000 0)],[(2000,.cells ((B1 c).map .p))]⟩ (fun M1 l=>?_) ?_
 .refine Fl hS Mg (b:=c.Kind != 1) (fun c4=>?_) (fun c4=>?_)
  .refine Fl hS (by decide +kernel:Ad1 Tryz.prog D4=true) (b:=((c.Is.Plus==0)&&(c.Is.Minus==0)) != true) (fun c5=>?_) (fun c5=>?_)
   .exact l _ [(2000,2000)] _ Mg (hle:=klR [(0,.eq (.bb true) (.bb t1))] (al1 (by simp only[f,c4,c5,Leaf.ok,pm,Ly,Lz]) al0))
   exact l _ [(2000,2000)] _ Mg (hle:=klR [(0,.eq (.bb c.Not) (.bb t1))] (al1 (by simp only[f,c4,c5,Leaf.ok,pm,Ly,Lz]) al0))
  exact l _ [(2000,2000)] _ Mg (hle:=klR [(0,.eq (.bb false) (.bb t1))] (al1 (by simp only[f,c4,Leaf.ok,pm,Ly,Lz]) al0))
 subst f;apply kI hS h<;>intro h
 .cases h;exact kR hS
 refine Ga hS Mg (A5 hS) h 0 (fun z1=>⟨[(42,pB z1),(1,.reg 2000 0)],[(2000,.cells ((B1 c).map .p))]⟩) (fun M2 k1 j h=>?_) (fun z1 h=>?_)
 .refine kG hS h (fun h=>?_) (fun h=>?_)
  .refine kG hS h (fun h=>?_) (fun h=>?_)
   .refine kG hS h (fun h=>?_) (fun h=>?_)
    .refine H3 hS Mg 40 ⟨[(39,.p (vSl 7 B1 c.L)),(37,.p (.v (.bool true))),(1,.reg 2000 0)],[(2000,.cells ((B1 c).map .p))]⟩ (ids:=[(2000,2000)]) ?_ (hle:=klR [(0,.fn c.L.n c.L.n (AY c) (fun i=>B1 (c.L.g i)))] (al1 ⟨rfl,R4 c⟩ al0));exact j _ [(2000,2000)] _ (decide (0<(c.L.n:Int))) Mg h
    exact j _ [(2000,2000)] _ false Mg h
   exact j _ [(2000,2000)] _ false Mg h
  exact j _ [(2000,2000)] _ false Mg h
 apply kI hS h<;>intro h
 .cases h;exact kR hS
 refine kB hS (A5 hS) Mg Mg 9 (.n (.a (c.Kind != 5)) (.o (.a (c.Min != 0)) (.a (c.Max != 0)))) ?_;apply kI hS h<;>intro h
 .cases h;exact kR hS
 refine Ga hS Mg (A5 hS) h 0 (fun z2=>⟨[(91,pB z2),(1,.reg 2000 0)],[(2000,.cells ((B1 c).map .p))]⟩) (fun M3 k2 d h=>?_) (fun z2 h=>?_)
 .refine kG hS h (fun h=>?_) (fun h=>?_)
  .refine H3 hS Mg 62 ⟨[(61,.p (vSl 7 B1 c.L)),(59,.p (.v (.bool true))),(1,.reg 2000 0)],[(2000,.cells ((B1 c).map .p))]⟩ (ids:=[(2000,2000)]) ?_ (hle:=klR [(0,.fn c.L.n c.L.n (AY c) (fun i=>B1 (c.L.g i)))] (al1 ⟨rfl,R4 c⟩ al0));refine kG hS h (fun h=>?_) (fun h=>?_)
   .exact d _ [(2000,2000)] _ true Mg h
   refine kG hS h (fun h=>?_) (fun h=>?_)
   .exact d _ [(2000,2000)] _ true Mg h
   refine kG hS h (fun h=>?_) (fun h=>?_)
   .exact d _ [(2000,2000)] _ true Mg h
   refine kG hS h (fun h=>?_) (fun h=>?_)
   .refine kG hS h (fun h=>?_) (fun h=>?_)
    .exact d _ [(2000,2000)] _ true Mg h
    exact d _ [(2000,2000)] _ (decide (32<c.Max)) Mg h
   exact d _ [(2000,2000)] _ false Mg h
  exact d _ [(2000,2000)] _ false Mg h
 apply kI hS h<;>intro h
 .cases h;exact kR hS
 refine kC hS h (Rx hS hL) (fun y1 h=>?_);apply kI hS h<;>intro h
 .cases h;exact kR hS
 cases h;exact kR hS
end Go.AM
namespace Go.AM
variable {N:Nat}
open IntKind (wrap)
open Go.Proofs
set_option maxRecDepth 10000
set_option maxHeartbeats 2000000
variable {S:Q7}(hS:F4 S Tryz.prog) (hL:Ig S)
include hS hL
def AD (rec:Pat->Int->Option Int)(N:Nat)(b:Pat)(a:Int):Option Int:= Bq N (fun c (x1:Int) (x2:Int)=>if ((decide (x2<(b.L.n:Int)))&&(decide (x1<=40))) then if ((0:Int)<=x2/\x2<(b.L.n:Int))then (rec (b.L.g x2.toNat) x1).bind fun y3=>c y3 (wrap .i64 (x2+1)) else none else some x1) (wrap .i64 (a+1)) 0
def Ah:Nat->Pat->Int->Option Int
 |0=>fun _ _=>none
 |N+1=>AD (Ah N) N
theorem Pu {rec:Pat->Int->Option Int}(d:∀{b:Pat}{c:Int}{y:Int},rec b c=some y->FunO S Ei [.p (.agg (B1 b)),pN c] [] (pN y) ([]) []){b:Pat}{c:Int}{y:Int}(h:AD rec N b c=some y) :FunO S Ei [.p (.agg (B1 b)),pN c] [] (pN y) ([]) []:=by
 unfold AD at h;refine A3 hS Tryz.func104 ?_;refine G9 hS Mg h (fun x1 x2=>⟨[(6,pN x2),(5,pN x1),(2,.reg 3000 0)],[(3000,.cells ((B1 b).map .p))]⟩) (ids:=[(3000,3000)]) (fun _ _ _ _ _ f x1 x2 j h=>?_);refine H3 hS Mg 12 ⟨[(11,.p (vSl 7 B1 b.L)),(9,pN x2),(6,pN x2),(5,pN x1),(2,.reg 3000 0)],[(3000,.cells ((B1 b).map .p))]⟩ (ids:=[(3000,3000)]) ?_ (hle:=klR [(0,.fn b.L.n b.L.n (AY b) (fun i=>B1 (b.L.g i)))] (al1 ⟨rfl,R4 b⟩ al0));refine kB hS (A5 hS) Mg Mg 3 (.n (.a (decide (x2<(b.L.n:Int)))) (.a (decide (x1<=40)))) ?_;apply kI hS h<;>intro h
 .refine H3 hS Mg 23 ⟨[(22,pN x2),(21,.p (vSl 7 B1 b.L)),(6,pN x2),(5,pN x1),(2,.reg 3000 0)],[(3000,.cells ((B1 b).map .p))]⟩ (ids:=[(3000,3000)]) ?_ (hle:=klR [(1,.fn b.L.n b.L.n (AY b) (fun i=>B1 (b.L.g i)))] (al1 ⟨rfl,R4 b⟩ al0));obtain⟨c6,h⟩:=E2 h;obtain⟨y3,e3,h⟩:=B5 h;refine B4 hS [] (And.intro c6 (by decide:(7:Nat)<=7)) (d e3) ?_;exact j _ [(3000,3000)] _ y3 (wrap .i64 (x2+1)) Mg h
 cases h;exact kR hS
theorem RA {b:Pat}{a:Int}{y:Int}(h:Ah N b a=some y) :FunO S Ei [.p (.agg (B1 b)),pN a] [] (pN y) ([]) []:=by
 induction N generalizing b a y with
 |zero=>cases (show (none:Option Int)=some y from h)
 |succ N ih=>exact Pu hS hL (fun e=>ih e) h
def V8 (N:Nat)(a:Pat):Option Int:= (Ah N a 0).bind fun y1=>some y1
theorem DH {a:Pat}{y:Int}(h:V8 N a=some y) :FunO S MJ [.p (.agg (B1 a))] [] (pN y) ([]) []:=by unfold V8 at h;refine A3 hS Tryz.func69 ?_;refine kC hS h (RA hS hL) (fun y1 h=>?_);cases h;exact kR hS
def T5 (rec:Pat->Option Int)(N:Nat)(a:Pat):Option Int:= Bq N (fun b (x1:Int) (x2:Int)=>if (decide (x2<(a.L.n:Int))) then if ((0:Int)<=x2/\x2<(a.L.n:Int))then (rec (a.L.g x2.toNat)).bind fun y3=>b (wrap .i64 (x1+y3)) (wrap .i64 (x2+1)) else none else some x1) (if (a.Kind==5) then 1 else 0) 0
def V9:Nat->Pat->Option Int
 |0=>fun _=>none
 |N+1=>T5 (V9 N) N
theorem LU {rec:Pat->Option Int}(d:∀{a:Pat}{y:Int},rec a=some y->FunO S Ca [.p (.agg (B1 a))] [] (pN y) ([]) []){a:Pat}{y:Int}(h:T5 rec N a=some y) :FunO S Ca [.p (.agg (B1 a))] [] (pN y) ([]) []:=by
 unfold T5 at h;refine A3 hS Tryz.func132 ?_;obtain⟨t1,c⟩:∃x:Int,x=(if (a.Kind==5) then 1 else 0):=⟨_,rfl⟩;refine NH hS Mg (A5 hS) 0 ⟨[(3,pN t1),(1,.reg 2000 0)],[(2000,.cells ((B1 a).map .p))]⟩ (fun M1 f=>?_) ?_
 .refine D1 hS Mg (b:=a.Kind==5) (fun c2=>?_) (fun c2=>?_)
  .exact f _ [(2000,2000)] _ Mg (hle:=klR [(0,.eq (pI .i64 1) (pI .i64 t1))] (al1 (by simp only[c,c2,Leaf.ok,pm,Ly,Lz]) al0))
  exact f _ [(2000,2000)] _ Mg (hle:=klR [(0,.eq (pI .i64 0) (pI .i64 t1))] (al1 (by simp only[c,c2,Leaf.ok,pm,Ly,Lz]) al0))
 subst c;refine G9 hS Mg h (fun x1 x2=>⟨[(4,pN x2),(3,pN x1),(1,.reg 2000 0)],[(2000,.cells ((B1 a).map .p))]⟩) (ids:=[(2000,2000)]) (fun _ _ _ _ _ j x1 x2 l h=>?_);refine H3 hS Mg 11 ⟨[(10,.p (vSl 7 B1 a.L)),(8,pN x2),(4,pN x2),(3,pN x1),(1,.reg 2000 0)],[(2000,.cells ((B1 a).map .p))]⟩ (ids:=[(2000,2000)]) ?_ (hle:=klR [(0,.fn a.L.n a.L.n (AY a) (fun i=>B1 (a.L.g i)))] (al1 ⟨rfl,R4 a⟩ al0));apply kI hS h<;>intro h
 .refine H3 hS Mg 19 ⟨[(18,pN x2),(17,.p (vSl 7 B1 a.L)),(15,pN x1),(4,pN x2),(1,.reg 2000 0)],[(2000,.cells ((B1 a).map .p))]⟩ (ids:=[(2000,2000)]) ?_ (hle:=klR [(1,.fn a.L.n a.L.n (AY a) (fun i=>B1 (a.L.g i)))] (al1 ⟨rfl,R4 a⟩ al0));obtain⟨c8,h⟩:=E2 h;obtain⟨y3,e3,h⟩:=B5 h;refine B4 hS [] (And.intro c8 (by decide:(7:Nat)<=7)) (d e3) ?_;exact l _ [(2000,2000)] _ (wrap .i64 (x1+y3)) (wrap .i64 (x2+1)) Mg h
 cases h;exact kR hS
theorem NI {a:Pat}{y:Int}(h:V9 N a=some y) :FunO S Ca [.p (.agg (B1 a))] [] (pN y) ([]) []:=by
 induction N generalizing a y with
 |zero=>cases (show (none:Option Int)=some y from h)
 |succ N ih=>exact LU hS hL (fun e=>ih e) h
def Cj (N:Nat)(a:Sl Law):Option Int:= Bq N (fun c (x3:Int) (x4:Int)=>if ((decide (x4<(a.n:Int)))&&(decide (x4<=300))) then if (((0:Int)<=x4/\x4<(a.n:Int))/\((0:Int)<=x4/\x4<(a.n:Int)))then Bq N (fun b (x7:Int) (x8:Int)=>if (decide (x8<((Sl.of [(a.g x4.toNat).Left,(a.g x4.toNat).Right]:Sl Pat).n:Int))) then if ((0:Int)<=x8/\x8<((Sl.of [(a.g x4.toNat).Left,(a.g x4.toNat).Right]:Sl Pat).n:Int))then (V8 N ((Sl.of [(a.g x4.toNat).Left,(a.g x4.toNat).Right]:Sl Pat).g x8.toNat)).bind fun d=>if (decide (d<=40)) then (V9 N ((Sl.of [(a.g x4.toNat).Left,(a.g x4.toNat).Right]:Sl Pat).g x8.toNat)).bind fun f=>b (wrap .i64 (x7+f)) (wrap .i64 (x8+1)) else b x7 (wrap .i64 (x8+1)) else none else c (if x3<x7 then x7 else x3) (wrap .i64 (x4+1))) 0 0 else none else some x3) 0 0
theorem UL {b:Sl Law}{y:Int}(h:Cj N b=some y) :FunO S MK [.p (vSl 18 A9 b)] [] (pN y) ([]) []:=by
 unfold Cj at h;refine A3 hS Tryz.func100 ?_;refine G9 hS Mg h (fun x3 x4=>⟨[(4,pN x4),(3,pN x3),(0,.p (vSl 18 A9 b))],[]⟩) (ids:=[]) (fun _ _ _ _ _ d x3 x4 f h=>?_);refine kB hS (A5 hS) Mg Mg 3 (.n (.a (decide (x4<(b.n:Int)))) (.a (decide (x4<=300)))) ?_;apply kI hS h<;>intro h
 .refine G8 hS Mg [2,4,7,9] ?_;obtain⟨c24,h⟩:=E2 h;refine AE (And.intro (And.intro (And.intro c24.1 (by decide:(7:Nat)<=17)) c24.2) (by decide:(7:Nat)<=10)) (x:=.sl true 7 2 (D0 [pI .i64 0,pI .u32 0,pI .u32 0,.v (.bool false),pI .i64 0,pI .i64 0,E9] [(0,B1 (b.g x4.toNat).Left),(1,B1 (b.g x4.toNat).Right)])) ?_;refine O5 Mg ?_;refine G9 hS Mg h (fun x7 x8=>⟨[(30,pN x8),(29,pN ((Sl.of [(b.g x4.toNat).Left,(b.g x4.toNat).Right]:Sl Pat).n:Int)),(28,.p (vSl 7 B1 (Sl.of [(b.g x4.toNat).Left,(b.g x4.toNat).Right]:Sl Pat))),(5,pN x7),(4,pN x4),(3,pN x3),(0,.p (vSl 18 A9 b))],[]⟩) (ids:=[]) (fun _ _ _ _ _ j x7 x8 c h=>?_) (hle:=klR [(2,.fn 2 (Sl.of [(b.g x4.toNat).Left,(b.g x4.toNat).Right]:Sl Pat).n (D0 [pI .i64 0,pI .u32 0,pI .u32 0,.v (.bool false),pI .i64 0,pI .i64 0,E9] [(0,B1 (b.g x4.toNat).Left),(1,B1 (b.g x4.toNat).Right)]) (fun i=>B1 ((Sl.of [(b.g x4.toNat).Left,(b.g x4.toNat).Right]:Sl Pat).g i)))] (al1 ⟨rfl,(fun i l=>match i,l with|0,_=>rfl|1,_=>rfl|_+2,l=>Lq l (by omega))⟩ al0));apply kI hS h<;>intro h
  .obtain⟨c32,h⟩:=E2 h;refine I1 hS (And.intro c32 (by decide:(7:Nat)<=7)) 34 8000 (B1 ((Sl.of [(b.g x4.toNat).Left,(b.g x4.toNat).Right]:Sl Pat).g x8.toNat)) ?_;obtain⟨o,e17,h⟩:=B5 h;refine B4 hS [] (by decide:(7:Nat)<=7) (DH hS hL e17) ?_;apply kI hS h<;>intro h
   .obtain⟨m,e18,h⟩:=B5 h;refine B4 hS [] (by decide:(7:Nat)<=7) (NI hS hL e18) ?_;exact c _ [] _ (wrap .i64 (x7+m)) (wrap .i64 (x8+1)) Mg h
   exact c _ [] _ x7 (wrap .i64 (x8+1)) Mg h
  exact f _ [] _ (if x3<x7 then x7 else x3) (wrap .i64 (x4+1)) Mg h
 cases h;exact kR hS
def T6 (rec:Pat->Int->Option (Int×Int))(N:Nat)(b:Pat)(a:Int):Option (Int×Int):= if (a==40) then some (a,12) else (DF N b).bind fun y1=>if (y1 != 0) then some (a,y1) else Bq N (fun c (x1:Int) (x2:Int)=>if (decide (x2<(b.L.n:Int))) then if ((0:Int)<=x2/\x2<(b.L.n:Int))then (rec (b.L.g x2.toNat) x1).bind fun y4=>if (y4.2 != 0) then some (y4.1,y4.2) else c y4.1 (wrap .i64 (x2+1)) else none else some (x1,0)) (wrap .i64 (a+1)) 0
def Ck:Nat->Pat->Int->Option (Int×Int)
 |0=>fun _ _=>none
 |N+1=>T6 (Ck N) N
theorem RB {rec:Pat->Int->Option (Int×Int)}(c:∀{a:Pat}{b:Int}{y:Int×Int},rec a b=some y->FunO S FZ [.p (.agg (B1 a)),pN b] [] (.tup [pN y.1,pN y.2]) ([]) []){a:Pat}{b:Int}{y:Int×Int}(h:T6 rec N a b=some y) :FunO S FZ [.p (.agg (B1 a)),pN b] [] (.tup [pN y.1,pN y.2]) ([]) []:=by
 unfold T6 at h;refine A3 hS Tryz.func157 ?_;apply kI hS h<;>intro h
 .cases h;exact kR hS
 refine kC hS h (UK hS hL) (fun y1 h=>?_);apply kI hS h<;>intro h
 .cases h;exact kR hS
 refine G9 hS Mg h (fun x1 x2=>⟨[(8,pN x2),(7,pN x1),(2,.reg 3000 0)],[(3000,.cells ((B1 a).map .p))]⟩) (ids:=[(3000,3000)]) (fun _ _ _ _ _ d x1 x2 f h=>?_);refine H3 hS Mg 23 ⟨[(22,.p (vSl 7 B1 a.L)),(20,pN x2),(8,pN x2),(7,pN x1),(2,.reg 3000 0)],[(3000,.cells ((B1 a).map .p))]⟩ (ids:=[(3000,3000)]) ?_ (hle:=klR [(0,.fn a.L.n a.L.n (AY a) (fun i=>B1 (a.L.g i)))] (al1 ⟨rfl,R4 a⟩ al0));apply kI hS h<;>intro h
 .refine H3 hS Mg 31 ⟨[(30,pN x2),(29,.p (vSl 7 B1 a.L)),(8,pN x2),(7,pN x1),(2,.reg 3000 0)],[(3000,.cells ((B1 a).map .p))]⟩ (ids:=[(3000,3000)]) ?_ (hle:=klR [(1,.fn a.L.n a.L.n (AY a) (fun i=>B1 (a.L.g i)))] (al1 ⟨rfl,R4 a⟩ al0));obtain⟨c10,h⟩:=E2 h;obtain⟨y4,e4,h⟩:=B5 h;refine B4 hS [] (And.intro c10 (by decide:(7:Nat)<=7)) (c e4) ?_;apply kI hS h<;>intro h
  .cases h;exact kR hS
  exact f _ [(3000,3000)] _ y4.1 (wrap .i64 (x2+1)) Mg h
 cases h;exact kR hS
theorem UM {b:Pat}{a:Int}{y:Int×Int}(h:Ck N b a=some y) :FunO S FZ [.p (.agg (B1 b)),pN a] [] (.tup [pN y.1,pN y.2]) ([]) []:=by
 induction N generalizing b a y with
 |zero=>cases (show (none:Option (Int×Int))=some y from h)
 |succ N ih=>exact RB hS hL (fun e=>ih e) h
def AZ (N:Nat)(a:Pat):Option Int:= (Ck N a 0).bind fun y1=>some y1.2
theorem Kh {a:Pat}{y:Int}(h:AZ N a=some y) :FunO S Kd [.p (.agg (B1 a))] [] (pN y) ([]) []:=by unfold AZ at h;refine A3 hS Tryz.func135 ?_;refine kC hS h (UM hS hL) (fun y1 h=>?_);cases h;exact kR hS
theorem UN {b:Str}{y:Bool}(h:Ba N b=some y) :FunO S MM [.p (.str b)] [] (pB y) ([]) []:=by
 unfold Ba at h;refine A3 hS Tryz.func134 ?_;refine N0 hS Mg h (fun x1=>⟨[(3,pN x1),(0,.p (.str b))],[]⟩) (ids:=[]) (fun _ _ _ _ _ c x1 d h=>?_);apply kI hS h<;>intro h
 .obtain⟨c8,h⟩:=E2 h;refine kB hS (A5 hS) c8 Mg 23 (.o (.o (.o (.n (.a (decide (97<=(Y2 b x1)))) (.a (decide ((Y2 b x1)<=122)))) (.n (.a (decide (65<=(Y2 b x1)))) (.a (decide ((Y2 b x1)<=90))))) (.n (.a (decide (48<=(Y2 b x1)))) (.a (decide ((Y2 b x1)<=57))))) (.a ((Y2 b x1)==45))) ?_;apply kI hS h<;>intro h
  .cases h;exact kR hS
  exact d _ [] _ (wrap .i64 (x1+1)) Mg h
 refine kB hS (A5 hS) Mg Mg 4 (.n (.a (decide (1<=(b.length:Int)))) (.a (decide ((b.length:Int)<=24)))) ?_;cases h;exact kR hS
def DI (N:Nat)(p_x:AC)(a:Int):Option Bool:= lt (fun (z1:Bool)=>if z1 then some false else if ((((E7 .and .u32 p_x.Clear (E7 .or .u32 p_x.Set.Plus p_x.Set.Minus)) != 0)||((E7 .and .u32 p_x.Take (E7 .or .u32 p_x.Set.Plus p_x.Set.Minus)) != 0))||((E7 .and .u32 p_x.Take p_x.Clear) != 0)) then some false else if (p_x.Take==0) then some (p_x.Of==0) else some ((decide (0<=p_x.Of))&&(decide (p_x.Of<a)))) fun k1=>if (decide (p_x.From<(-1))) then k1 true else if (decide (a<=p_x.From)) then k1 true else (T3 N p_x.Set).bind fun y2=>if (!y2) then k1 true else if ((E7 .andNot .u32 p_x.Clear 16777215) != 0) then k1 true else k1 ((E7 .andNot .u32 p_x.Take 16777215) != 0)
theorem UO {p_x:AC}{c:Int}{y:Bool}(h:DI N p_x c=some y) :FunO S MN [.p (.agg (O7 p_x)),pN c] [] (pB y) ([]) []:=by
 unfold DI at h;refine A3 hS Tryz.func137 ?_;refine Ga hS Mg (A5 hS) h 0 (fun z1=>⟨[(32,pB z1),(2,.reg 3000 0),(1,pN c)],[(3000,.cells ((O7 p_x).map .p))]⟩) (fun M1 k1 b h=>?_) (fun z1 h=>?_)
 .refine kG hS h (fun h=>?_) (fun h=>?_)
  .exact b _ [(3000,3000)] _ true Mg h
  refine kG hS h (fun h=>?_) (fun h=>?_)
  .exact b _ [(3000,3000)] _ true Mg h
  refine kC hS h (Kg hS hL) (fun y2 h=>?_);refine kG hS h (fun h=>?_) (fun h=>?_)
  .exact b _ [(3000,3000)] _ true Mg h
  refine kG hS h (fun h=>?_) (fun h=>?_)
  .exact b _ [(3000,3000)] _ true Mg h
  exact b _ [(3000,3000)] _ ((E7 .andNot .u32 p_x.Take 16777215) != 0) Mg h
 apply kI hS h<;>intro h
 .cases h;exact kR hS
 refine kB hS (A5 hS) Mg Mg 14 (.o (.o (.a ((E7 .and .u32 p_x.Clear (E7 .or .u32 p_x.Set.Plus p_x.Set.Minus)) != 0)) (.a ((E7 .and .u32 p_x.Take (E7 .or .u32 p_x.Set.Plus p_x.Set.Minus)) != 0))) (.a ((E7 .and .u32 p_x.Take p_x.Clear) != 0))) ?_;apply kI hS h<;>intro h
 .cases h;exact kR hS
 apply kI hS h<;>intro h
 .cases h;exact kR hS
 refine kB hS (A5 hS) Mg Mg 5 (.n (.a (decide (0<=p_x.Of))) (.a (decide (p_x.Of<c)))) ?_;cases h;exact kR hS
def Bb (N:Nat)(a:Law):Option Int:= (Ba N a.Name).bind fun y1=>lt (fun (z1:Bool)=>if z1 then some 17 else if (((((decide (4<(a.If.n:Int)))||(decide (6<(a.Out.n:Int))))||((wrap .i64 ((a.If.n:Int)+(a.Out.n:Int)))==0))||(decide (a.Mode<1)))||(decide (3<a.Mode))) then some 17 else At N (fun b (x2:Int)=>if (decide (x2<(a.If.n:Int))) then if ((0:Int)<=x2/\x2<(a.If.n:Int))then (T3 N (a.If.g x2.toNat)).bind fun y8=>if (!y8) then some 17 else b (wrap .i64 (x2+1)) else none else At N (fun c (x3:Int)=>if (decide (x3<(a.Out.n:Int))) then if ((0:Int)<=x3/\x3<(a.Out.n:Int))then (DI N (a.Out.g x3.toNat) (a.If.n:Int)).bind fun d=>if (!d) then some 17 else c (wrap .i64 (x3+1)) else none else some 0) 0) 0) fun k1=>if (!y1) then k1 true else (AZ N a.Left).bind fun y4=>if (y4 != 0) then k1 true else (AZ N a.Right).bind fun y5=>k1 (y5 != 0)
theorem RC {b:Law}{y:Int}(h:Bb N b=some y) :FunO S Kc [.p (.agg (A9 b))] [] (pN y) ([]) []:=by
 unfold Bb at h;refine A3 hS Tryz.func102 ?_;refine I1 hS Mg 2 2000 (A9 b) ?_;refine kC hS h (UN hS hL) (fun y1 h=>?_);refine Ga hS Mg (A5 hS) h 0 (fun z1=>⟨[(20,pB z1),(1,.p (.ptr (A9 b)))],[]⟩) (fun M1 k1 c h=>?_) (fun z1 h=>?_)
 .refine kG hS h (fun h=>?_) (fun h=>?_)
  .exact c _ [] _ true Mg h
  obtain⟨y4,e4,h⟩:=B5 h;refine B4 hS [] (by decide:(7:Nat)<=17) (Kh hS hL e4) ?_;refine kG hS h (fun h=>?_) (fun h=>?_)
  .exact c _ [] _ true Mg h
  obtain⟨y5,e5,h⟩:=B5 h;refine B4 hS [] (by decide:(7:Nat)<=10) (Kh hS hL e5) ?_;exact c _ [] _ (y5 != 0) Mg h
 apply kI hS h<;>intro h
 .cases h;exact kR hS
 refine kB hS (A5 hS) Mg Mg 25 (.o (.o (.o (.o (.a (decide (4<(b.If.n:Int)))) (.a (decide (6<(b.Out.n:Int))))) (.a ((wrap .i64 ((b.If.n:Int)+(b.Out.n:Int)))==0))) (.a (decide (b.Mode<1)))) (.a (decide (3<b.Mode)))) ?_;apply kI hS h<;>intro h
 .cases h;exact kR hS
 refine N0 hS Mg h (fun x2=>⟨[(3,pN x2),(1,.p (.ptr (A9 b)))],[]⟩) (ids:=[]) (fun _ _ _ _ _ d x2 f h=>?_);apply kI hS h<;>intro h
 .obtain⟨c15,h⟩:=E2 h;obtain⟨y8,e8,h⟩:=B5 h;refine B4 hS [] (And.intro c15 (by decide:(2:Nat)<=2)) (Kg hS hL e8) ?_;apply kI hS h<;>intro h
  .cases h;exact kR hS
  exact f _ [] _ (wrap .i64 (x2+1)) Mg h
 refine N0 hS Mg h (fun x3=>⟨[(4,pN x3),(1,.p (.ptr (A9 b)))],[]⟩) (ids:=[]) (fun _ _ _ _ _ g x3 i h=>?_);apply kI hS h<;>intro h
 .refine G8 hS Mg [1,3,4,6,8] ?_;obtain⟨c24,h⟩:=E2 h;obtain⟨j,e11,h⟩:=B5 h;refine AF (And.intro c24 (by decide:(6:Nat)<=6)) (UO hS hL e11) ?_;refine O5 Mg ?_;apply kI hS h<;>intro h
  .cases h;exact kR hS
  exact i _ [] _ (wrap .i64 (x3+1)) Mg h
 cases h;exact kR hS
end Go.AM
namespace Go.AM
variable {N:Nat}
open IntKind (wrap)
open Go.Proofs
set_option maxRecDepth 10000
set_option maxHeartbeats 2000000
variable {S:Q7}(hS:F4 S Tryz.prog) (hL:Ig S)
include hS hL
def Fm (N:Nat)(a:Int):Option Bool:= some (((((decide (97<=a))&&(decide (a<=122)))||((decide (65<=a))&&(decide (a<=90))))||((decide (48<=a))&&(decide (a<=57))))||(a==45))
theorem Pv {b:Int}{y:Bool}(h:Fm N b=some y) :FunO S IQ [.p (pI .u8 b)] [] (pB y) ([]) []:=by unfold Fm at h;refine A3 hS Tryz.func156 ?_;refine kB hS (A5 hS) Mg Mg 23 (.o (.o (.o (.n (.a (decide (97<=b))) (.a (decide (b<=122)))) (.n (.a (decide (65<=b))) (.a (decide (b<=90))))) (.n (.a (decide (48<=b))) (.a (decide (b<=57))))) (.a (b==45))) ?_;cases h;exact kR hS
def Cl (N:Nat)(a:Str):Option Bool:= At N (fun b (x1:Int)=>if (decide (x1<(a.length:Int))) then if ((0:Int)<=x1/\x1<(a.length:Int))then (Fm N (Y2 a x1)).bind fun y3=>if (!y3) then some false else b (wrap .i64 (x1+1)) else none else some ((decide (1<=(a.length:Int)))&&(decide ((a.length:Int)<=24)))) 0
theorem MP {b:Str}{y:Bool}(h:Cl N b=some y) :FunO S ML [.p (.str b)] [] (pB y) ([]) []:=by
 unfold Cl at h;refine A3 hS Tryz.func133 ?_;refine N0 hS Mg h (fun x1=>⟨[(3,pN x1),(0,.p (.str b))],[]⟩) (ids:=[]) (fun _ _ _ _ _ c x1 d h=>?_);apply kI hS h<;>intro h
 .obtain⟨c8,h⟩:=E2 h;obtain⟨y3,e3,h⟩:=B5 h;refine B4 hS [] c8 (Pv hS hL e3) ?_;apply kI hS h<;>intro h
  .cases h;exact kR hS
  exact d _ [] _ (wrap .i64 (x1+1)) Mg h
 refine kB hS (A5 hS) Mg Mg 4 (.n (.a (decide (1<=(b.length:Int)))) (.a (decide ((b.length:Int)<=24)))) ?_;cases h;exact kR hS
def Ai (N:Nat)(a:Sl F0):Option Int:= if ((decide ((a.n:Int)<1))=false->((decide (63<(a.n:Int)))=false->((0:Int)<=0/\0<(a.n:Int))))then if (((decide ((a.n:Int)<1))||(decide (63<(a.n:Int))))||((a.g 0).Parent != (-1))) then some 16 else At N (fun b (x3:Int)=>if (decide (x3<(a.n:Int))) then lt (fun (z3:Bool)=>if z3 then some 16 else At N (fun c (x7:Int)=>if (decide (x7<x3)) then if (((0:Int)<=x7/\x7<(a.n:Int))/\((0:Int)<=x3/\x3<(a.n:Int)))then if (((a.g x7.toNat).Name==(a.g x3.toNat).Name) != false) then some 16 else c (wrap .i64 (x7+1)) else none else b (wrap .i64 (x3+1))) 0) fun k3=>if (decide (0<x3)) then if ((0:Int)<=x3/\x3<(a.n:Int))then if (decide ((a.g x3.toNat).Parent<0)) then k3 true else if ((0:Int)<=x3/\x3<(a.n:Int))then if (decide (x3<=(a.g x3.toNat).Parent)) then k3 true else if ((0:Int)<=x3/\x3<(a.n:Int))then (Cl N (a.g x3.toNat).Name).bind fun d=>k3 (!d) else none else none else none else if ((0:Int)<=x3/\x3<(a.n:Int))then (Cl N (a.g x3.toNat).Name).bind fun f=>k3 (!f) else none else some 0) 0 else none
theorem RD {c:Sl F0}{y:Int}(h:Ai N c=some y) :FunO S Kb [.p (vSl 2 D5 c)] [] (pN y) ([]) []:=by
 unfold Ai at h;refine A3 hS Tryz.func101 ?_;obtain⟨c1,h⟩:=E2 h;refine kB hS (A5 hS) Mg c1 11 (.o (.o (.a (decide ((c.n:Int)<1))) (.a (decide (63<(c.n:Int))))) (.a ((c.g 0).Parent != (-1)))) ?_;apply kI hS h<;>intro h
 .cases h;exact kR hS
 refine N0 hS Mg h (fun x3=>⟨[(3,pN x3),(0,.p (vSl 2 D5 c))],[]⟩) (ids:=[]) (fun _ _ _ _ _ f x3 i h=>?_);apply kI hS h<;>intro h
 .refine Ga hS Mg (A5 hS) h 0 (fun z3=>⟨[(53,pB z3),(3,pN x3),(0,.p (vSl 2 D5 c))],[]⟩) (fun M3 k3 d h=>?_) (fun z3 h=>?_)
  .refine kG hS h (fun h=>?_) (fun h=>?_)
   .obtain⟨c71,h⟩:=E2 h;refine Fl hS c71 (b:=decide ((c.g x3.toNat).Parent<0)) (fun c72=>?_) (fun c72=>?_)
    .replace h:=itT c72 h;exact d _ [] _ true Mg h
    replace h:=itF c72 h;obtain⟨c73,h⟩:=E2 h;refine Fl hS c73 (b:=decide (x3<=(c.g x3.toNat).Parent)) (fun c74=>?_) (fun c74=>?_)
    .replace h:=itT c74 h;exact d _ [] _ true Mg h
    replace h:=itF c74 h;obtain⟨c75,h⟩:=E2 h;obtain⟨j,e11,h⟩:=B5 h;refine B4 hS [] c75 (MP hS hL e11) ?_;exact d _ [] _ (!j) Mg h
   obtain⟨c76,h⟩:=E2 h;obtain⟨l,e12,h⟩:=B5 h;refine B4 hS [] c76 (MP hS hL e12) ?_;exact d _ [] _ (!l) Mg h
  apply kI hS h<;>intro h
  .cases h;exact kR hS
  refine N0 hS Mg h (fun x7=>⟨[(4,pN x7),(3,pN x3),(0,.p (vSl 2 D5 c))],[]⟩) (ids:=[]) (fun _ _ _ _ _ m x7 q h=>?_);apply kI hS h<;>intro h
  .refine G8 hS Mg [2,4,7,9] ?_;obtain⟨c85,h⟩:=E2 h;refine O5 c85 ?_;apply kI hS h<;>intro h
   .cases h;exact kR hS
   exact q _ [] _ (wrap .i64 (x7+1)) Mg h
  exact i _ [] _ (wrap .i64 (x3+1)) Mg h
 cases h;exact kR hS
theorem RE {rec:A6->Int->Option (Sl Int)}(d:∀{a:A6}{b:Int}{y:Sl Int},rec a b=some y->FunO S FY [.p (.agg (A8 a)),pN b] [] (.vec 0) ([.vec C4 1 y.n (fun i=>cI .i64 (y.g i)) true]) []){a:A6}{b:Int}{y:Sl Int}(h:T7 rec N a b=some y) :FunO S FY [.p (.agg (A8 a)),pN b] [] (.vec 0) ([.vec C4 1 y.n (fun i=>cI .i64 (y.g i)) true]) []:=by
 unfold T7 at h;refine A3 hS Tryz.func103 ?_;refine I1 hS Mg 4 3000 (A8 a) ?_;apply kI hS h<;>intro h
 .obtain rfl:=B7 h;exact A7 hS Mg ⟨[(4,.vec 5700)],[(5700,.vec C4 1 (Sl.nil:Sl Int).n (fun i=>cI .i64 ((Sl.nil:Sl Int).g i)) true)]⟩ [5700] (ids:=[]) ⟨rfl,rfl,rfl⟩
 refine G8 hS Mg [0,2,4,6,9,11,12] ?_;obtain⟨c2,h⟩:=E2 h;obtain⟨y1,e1,h⟩:=B5 h;refine Th [] (And.intro (by decide:(3:Nat)<=3) c2) (d e1) ?_;obtain⟨c3,h⟩:=E2 h;refine O5 c3 ?_;obtain rfl:=B7 h;exact A7 hS Mg ⟨[(4,.vec 21000)],[(21000,.vec C4 1 (y1.app (a.On.g b.toNat)).n (fun i=>cI .i64 ((y1.app (a.On.g b.toNat)).g i)) true)]⟩ [21000] (ids:=[(21000,21000)]) ⟨rfl,rfl,rfl⟩ (hle:=klR [(0,.fn (y1.n+(a.On.g b.toNat).n) (y1.app (a.On.g b.toNat)).n (AA y1.n (fun i=>cI .i64 (y1.g i)) (fun i=>cI .i64 ((a.On.g b.toNat).g i))) (fun i=>cI .i64 ((y1.app (a.On.g b.toNat)).g i)))] (al1 ⟨rfl,Al9 (c:=cI .i64) (v:=y1) (w:=a.On.g b.toNat) same rfl same rfl⟩ al0))
theorem UP {a:A6}{b:Int}{y:Sl Int}(h:Au N a b=some y) :FunO S FY [.p (.agg (A8 a)),pN b] [] (.vec 0) ([.vec C4 1 y.n (fun i=>cI .i64 (y.g i)) true]) []:=by
 induction N generalizing a b y with
 |zero=>cases (show (none:Option (Sl Int))=some y from h)
 |succ N ih=>exact RE hS hL (fun e=>ih e) h
def Aj (N:Nat)(a:A6):Option Int:= (Ai N a.Tree).bind fun y1=>if (y1 != 0) then some 16 else if (decide (64<(a.Laws.n:Int))) then some 12 else At N (fun d (x1:Int)=>if (decide (x1<(a.Laws.n:Int))) then if ((0:Int)<=x1/\x1<(a.Laws.n:Int))then (Bb N (a.Laws.g x1.toNat)).bind fun y4=>if (y4 != 0) then some 17 else d (wrap .i64 (x1+1)) else none else At N (fun f (x3:Int)=>if (decide (x3<(a.Laws.n:Int))) then At N (fun i (x5:Int)=>if (decide (x5<x3)) then if (((0:Int)<=x3/\x3<(a.Laws.n:Int))/\((0:Int)<=x5/\x5<(a.Laws.n:Int)))then if (((a.Laws.g x3.toNat).Name==(a.Laws.g x5.toNat).Name) != false) then some 6 else i (wrap .i64 (x5+1)) else none else f (wrap .i64 (x3+1))) 0 else if ((a.On.n:Int) != (a.Tree.n:Int)) then some 2 else At N (fun j (x6:Int)=>if (decide (x6<(a.On.n:Int))) then (Au N a x6).bind fun y7=>if (decide (64<(y7.n:Int))) then some 2 else j (wrap .i64 (x6+1)) else At N (fun l (x8:Int)=>if (decide (x8<(a.On.n:Int))) then At N (fun c (b:Int)=>if ((0:Int)<=x8/\x8<(a.On.n:Int))then if (decide (b<((a.On.g x8.toNat).n:Int))) then if (((0:Int)<=x8/\x8<(a.On.n:Int))/\((0:Int)<=b/\b<((a.On.g x8.toNat).n:Int)))then if (decide (((a.On.g x8.toNat).g b.toNat)<0)) then some 3 else if (((0:Int)<=x8/\x8<(a.On.n:Int))/\((0:Int)<=b/\b<((a.On.g x8.toNat).n:Int)))then if (decide ((a.Laws.n:Int)<=((a.On.g x8.toNat).g b.toNat))) then some 3 else c (wrap .i64 (b+1)) else none else none else l (wrap .i64 (x8+1)) else none) 0 else some 0) 0) 0) 0) 0
theorem RF {a:A6}{y:Int}(h:Aj N a=some y) :FunO S JZ [.p (.agg (A8 a))] [] (pN y) ([]) []:=by
 unfold Aj at h;refine A3 hS Tryz.func68 ?_;refine I1 hS Mg 2 2000 (A8 a) ?_;refine kC hS h (RD hS hL) (fun y1 h=>?_);apply kI hS h<;>intro h
 .cases h;exact kR hS
 apply kI hS h<;>intro h
 .cases h;exact kR hS
 refine N0 hS Mg h (fun x1=>⟨[(3,pN x1),(1,.p (.ptr (A8 a)))],[]⟩) (ids:=[]) (fun _ _ _ _ _ i x1 j h=>?_);apply kI hS h<;>intro h
 .obtain⟨c10,h⟩:=E2 h;obtain⟨y4,e4,h⟩:=B5 h;refine B4 hS [] (And.intro c10 (by decide:(18:Nat)<=18)) (RC hS hL e4) ?_;apply kI hS h<;>intro h
  .cases h;exact kR hS
  exact j _ [] _ (wrap .i64 (x1+1)) Mg h
 refine N0 hS Mg h (fun x3=>⟨[(4,pN x3),(1,.p (.ptr (A8 a)))],[]⟩) (ids:=[]) (fun _ _ _ _ _ l x3 m h=>?_);apply kI hS h<;>intro h
 .refine N0 hS Mg h (fun x5=>⟨[(5,pN x5),(4,pN x3),(1,.p (.ptr (A8 a)))],[]⟩) (ids:=[]) (fun _ _ _ _ _ o x5 q h=>?_);apply kI hS h<;>intro h
  .refine G8 hS Mg [1,3,5,7,9,11] ?_;obtain⟨c40,h⟩:=E2 h;refine O5 c40 ?_;apply kI hS h<;>intro h
   .cases h;exact kR hS
   exact q _ [] _ (wrap .i64 (x5+1)) Mg h
  exact m _ [] _ (wrap .i64 (x3+1)) Mg h
 apply kI hS h<;>intro h
 .cases h;exact kR hS
 refine N0 hS Mg h (fun x6=>⟨[(6,pN x6),(1,.p (.ptr (A8 a)))],[]⟩) (ids:=[]) (fun _ _ _ _ _ r x6 s h=>?_);apply kI hS h<;>intro h
 .obtain⟨y7,e7,h⟩:=B5 h;refine B4 hS [] (by decide:(3:Nat)<=3) (UP hS hL e7) ?_;apply kI hS h<;>intro h
  .cases h;exact kR hS
  exact s _ [] _ (wrap .i64 (x6+1)) Mg h
 refine N0 hS Mg h (fun x8=>⟨[(7,pN x8),(1,.p (.ptr (A8 a)))],[]⟩) (ids:=[]) (fun _ _ _ _ _ t x8 u h=>?_);apply kI hS h<;>intro h
 .refine N0 hS Mg h (fun c=>⟨[(8,pN c),(7,pN x8),(1,.p (.ptr (A8 a)))],[]⟩) (ids:=[]) (fun _ _ _ _ _ f c d h=>?_);obtain⟨c100,h⟩:=E2 h;refine D1 hS c100 (b:=decide (c<((a.On.g x8.toNat).n:Int))) (fun c101=>?_) (fun c101=>?_)
  .replace h:=itT c101 h;refine G8 hS Mg [1,3,4,6,7,11,13,14,16,17,19] ?_;obtain⟨c102,h⟩:=E2 h;refine Ac7 c102 (b:=decide (((a.On.g x8.toNat).g c.toNat)<0)) (fun c103=>?_) (fun c103=>?_)
   .replace h:=itT c103 h;refine O5 Mg ?_;cases h;exact kR hS
   replace h:=itF c103 h;obtain⟨c104,h⟩:=E2 h;refine O5 c104 ?_;apply kI hS h<;>intro h
   .cases h;exact kR hS
   exact d _ [] _ (wrap .i64 (c+1)) Mg h
  replace h:=itF c101 h;exact u _ [] _ (wrap .i64 (x8+1)) Mg h
 cases h;exact kR hS
def MQ (N:Nat)(b:A6)(a:Int):Option Bool:= some ((decide (0<=a))&&(decide (a<(b.Tree.n:Int))))
def Ii (N:Nat)(a:A6)(b:Int):Option ((Sl Int)×Int):= (Aj N a).bind fun y1=>if (y1 != 0) then some ((Sl.nil:Sl Int),y1) else (MQ N a b).bind fun y2=>if (!y2) then some ((Sl.nil:Sl Int),3) else (Au N a b).bind fun y3=>some (y3,0)
end Go.AM
namespace Go.AM
open IntKind (wrap)
open Go.Proofs
set_option maxRecDepth 10000
set_option maxHeartbeats 2000000
variable {S:Q7}(hS:F4 S Tryz.prog) (hL:Ig S)
include hS hL
def Dg (N:Nat)(b:Sl F0)(c:Int):Option (Sl Int):= Bq N (fun a (x1:Sl Int) (x2:Int)=>if (decide (x2<(b.n:Int))) then if ((0:Int)<=x2/\x2<(b.n:Int))then if ((b.g x2.toNat).Parent==c) then if ((x1.n+(Sl.of [x2]:Sl Int).n)*8<=140737488355328/\x1.n+(Sl.of [x2]:Sl Int).n<=140737488355328)then a (x1.push x2) (wrap .i64 (x2+1)) else none else a x1 (wrap .i64 (x2+1)) else none else some x1) (Sl.nil:Sl Int) 0
def IR (N:Nat)(b:Sl F0):Option ((Sl Int)×Int):= (Ai N b).bind fun y1=>if (y1 != 0) then some ((Sl.nil:Sl Int),y1) else Bq N (fun a (x1:Sl Int) (x2:Int)=>if (decide (x2<(b.n:Int))) then (Dg N b x2).bind fun y4=>if ((y4.n:Int)==0) then if ((x1.n+(Sl.of [x2]:Sl Int).n)*8<=140737488355328/\x1.n+(Sl.of [x2]:Sl Int).n<=140737488355328)then a (x1.push x2) (wrap .i64 (x2+1)) else none else a x1 (wrap .i64 (x2+1)) else some (x1,0)) (Sl.nil:Sl Int) 0
end Go.AM
namespace Go.AM
variable {N:Nat}
open IntKind (wrap)
open Go.Proofs
set_option maxRecDepth 10000
set_option maxHeartbeats 2000000
variable {S:Q7}(hS:F4 S Tryz.prog) (hL:Ig S)
include hS hL
def Bc (N:Nat)(a:A6):Option Bool:= if (((decide (70<(a.Tree.n:Int)))||(decide (70<(a.Laws.n:Int))))||(decide (70<(a.On.n:Int)))) then some false else At N (fun b (x1:Int)=>if (decide (x1<(a.On.n:Int))) then if ((0:Int)<=x1/\x1<(a.On.n:Int))then if (decide (70<((a.On.g x1.toNat).n:Int))) then some false else b (wrap .i64 (x1+1)) else none else At N (fun c (x3:Int)=>if (decide (x3<(a.Laws.n:Int))) then if (((0:Int)<=x3/\x3<(a.Laws.n:Int))/\((0:Int)<=x3/\x3<=(wrap .i64 (x3+1))/\(wrap .i64 (x3+1))<=(a.Laws.n:Int)))then (Cj N (a.Laws.sub x3.toNat (wrap .i64 (x3+1)).toNat)).bind fun d=>lt (fun (z3:Bool)=>if z3 then some false else c (wrap .i64 (x3+1))) fun k3=>if (decide (4<d)) then k3 true else if (decide (20<((a.Laws.g x3.toNat).If.n:Int))) then k3 true else if (decide (20<((a.Laws.g x3.toNat).Out.n:Int))) then k3 true else (V8 N (a.Laws.g x3.toNat).Left).bind fun f=>if (decide (41<f)) then k3 true else (V8 N (a.Laws.g x3.toNat).Right).bind fun i=>k3 (decide (41<i)) else none else some true) 0) 0
theorem Ki {c:A6}{y:Bool}(h:Bc N c=some y) :FunO S JY [.p (.agg (A8 c))] [] (pB y) ([]) []:=by
 unfold Bc at h;refine A3 hS Tryz.func67 ?_;refine kB hS (A5 hS) Mg Mg 11 (.o (.o (.a (decide (70<(c.Tree.n:Int)))) (.a (decide (70<(c.Laws.n:Int))))) (.a (decide (70<(c.On.n:Int))))) ?_;apply kI hS h<;>intro h
 .cases h;exact kR hS
 refine N0 hS Mg h (fun x1=>⟨[(3,pN x1),(1,.reg 2000 0)],[(2000,.cells ((A8 c).map .p))]⟩) (ids:=[(2000,2000)]) (fun _ _ _ _ _ f x1 i h=>?_);apply kI hS h<;>intro h
 .obtain⟨c9,h⟩:=E2 h;refine D1 hS c9 (b:=decide (70<((c.On.g x1.toNat).n:Int))) (fun c10=>?_) (fun c10=>?_)
  .replace h:=itT c10 h;cases h;exact kR hS
  replace h:=itF c10 h;exact i _ [(2000,2000)] _ (wrap .i64 (x1+1)) Mg h
 refine N0 hS Mg h (fun x3=>⟨[(4,pN x3),(1,.reg 2000 0)],[(2000,.cells ((A8 c).map .p))]⟩) (ids:=[(2000,2000)]) (fun _ _ _ _ _ j x3 l h=>?_);apply kI hS h<;>intro h
 .obtain⟨c40,h⟩:=E2 h;obtain⟨q,e11,h⟩:=B5 h;refine B4 hS [] (And.intro (And.intro c40.1 (by decide:(18:Nat)<=18)) c40.2) (UL hS hL e11) ?_;refine Ga hS Mg (A5 hS) h 0 (fun z3=>⟨[(79,pB z3),(4,pN x3),(1,.reg 2000 0)],[(2000,.cells ((A8 c).map .p))]⟩) (fun M3 k3 d h=>?_) (fun z3 h=>?_)
  .refine kG hS h (fun h=>?_) (fun h=>?_)
   .exact d _ [(2000,2000)] _ true Mg h
   refine kG hS h (fun h=>?_) (fun h=>?_)
   .exact d _ [(2000,2000)] _ true Mg h
   refine kG hS h (fun h=>?_) (fun h=>?_)
   .exact d _ [(2000,2000)] _ true Mg h
   refine kC hS h (DH hS hL) (fun r h=>?_);refine kG hS h (fun h=>?_) (fun h=>?_)
   .exact d _ [(2000,2000)] _ true Mg h
   refine kC hS h (DH hS hL) (fun m h=>?_);exact d _ [(2000,2000)] _ (decide (41<m)) Mg h
  apply kI hS h<;>intro h
  .cases h;exact kR hS
  exact l _ [(2000,2000)] _ (wrap .i64 (x3+1)) Mg h
 cases h;exact kR hS
def Cr (N:Nat)(a:A6)(b:Sl (Sl Mh)):Option Bool:= (Bc N a).bind fun y1=>if ((!y1)||(decide (300<(b.n:Int)))) then some false else Bq N (fun c (x1:Int) (x2:Int)=>if (decide (x2<(b.n:Int))) then if ((0:Int)<=x2/\x2<(b.n:Int))then if (decide (50<((b.g x2.toNat).n:Int))) then some false else c (wrap .i64 (x1+(wrap .i64 ((wrap .i64 (((b.g x2.toNat).n:Int)+1))*(wrap .i64 (((b.g x2.toNat).n:Int)+1)))))) (wrap .i64 (x2+1)) else none else if ((decide ((b.n:Int)<=256))&&(decide (1500<x1))) then some false else (Aj N a).bind fun y2=>if (y2 != 0) then some true else Bq N (fun d (x3:Int) (x4:Int)=>if (decide (x4<(a.Laws.n:Int))) then if ((0:Int)<=x4/\x4<(a.Laws.n:Int))then (V8 N (a.Laws.g x4.toNat).Left).bind fun y7=>(V8 N (a.Laws.g x4.toNat).Right).bind fun y8=>d (wrap .i64 (x3+(wrap .i64 ((wrap .i64 (y7+y8))-2)))) (wrap .i64 (x4+1)) else none else Bq N (fun f (x5:Int) (x6:Int)=>if (decide (x6<(a.On.n:Int))) then if ((0:Int)<=x6/\x6<(a.On.n:Int))then f (wrap .i64 (x5+((a.On.g x6.toNat).n:Int))) (wrap .i64 (x6+1)) else none else some (decide ((wrap .i64 (x3*x5))<=1200))) 0 0) 4 0) 0 0
theorem RG {c:A6}{d:Sl (Sl Mh)}{y:Bool}(h:Cr N c d=some y) :FunO S JX [.p (.agg (A8 c)),.p (vSl 1 (cL 2 A0) d)] [] (pB y) ([]) []:=by
 unfold Cr at h;refine A3 hS Tryz.func28 ?_;refine I1 hS Mg 4 3000 (A8 c) ?_;obtain⟨y1,e1,h⟩:=B5 h;refine B4 hS [] (by decide:(3:Nat)<=3) (Ki hS hL e1) ?_;refine kB hS (A5 hS) Mg Mg 4 (.o (.a (!y1)) (.a (decide (300<(d.n:Int))))) ?_;apply kI hS h<;>intro h
 .cases h;exact kR hS
 refine G9 hS Mg h (fun x1 x2=>⟨[(24,pN x2),(23,pN (d.n:Int)),(22,.p (vSl 1 (cL 2 A0) d)),(5,pN x1),(2,.p (.ptr (A8 c))),(1,.p (vSl 1 (cL 2 A0) d))],[]⟩) (ids:=[]) (fun _ _ _ _ _ f x1 x2 i h=>?_);apply kI hS h<;>intro h
 .obtain⟨c9,h⟩:=E2 h;refine D1 hS c9 (b:=decide (50<((d.g x2.toNat).n:Int))) (fun c10=>?_) (fun c10=>?_)
  .replace h:=itT c10 h;cases h;exact kR hS
  replace h:=itF c10 h;exact i _ [] _ (wrap .i64 (x1+(wrap .i64 ((wrap .i64 (((d.g x2.toNat).n:Int)+1))*(wrap .i64 (((d.g x2.toNat).n:Int)+1)))))) (wrap .i64 (x2+1)) Mg h
 refine kB hS (A5 hS) Mg Mg 3 (.n (.a (decide ((d.n:Int)<=256))) (.a (decide (1500<x1)))) ?_;apply kI hS h<;>intro h
 .cases h;exact kR hS
 obtain⟨y2,e2,h⟩:=B5 h;refine B4 hS [] (by decide:(3:Nat)<=3) (RF hS hL e2) ?_;apply kI hS h<;>intro h
 .cases h;exact kR hS
 refine G9 hS Mg h (fun x3 x4=>⟨[(54,pN x4),(53,pN (c.Laws.n:Int)),(52,.p (vSl 18 A9 c.Laws)),(9,pN 0),(8,pN x3),(2,.p (.ptr (A8 c)))],[]⟩) (ids:=[]) (fun _ _ _ _ _ j x3 x4 l h=>?_);apply kI hS h<;>intro h
 .obtain⟨c18,h⟩:=E2 h;refine RH hS (And.intro c18 (by decide:(18:Nat)<=18)) 12000 (A9 (c.Laws.g x4.toNat)) ?_;refine G8 hS Mg [2,3,5,6] ?_;obtain⟨y7,e7,h⟩:=B5 h;refine AF (by decide:(7:Nat)<=17) (DH hS hL e7) ?_;obtain⟨y8,e8,h⟩:=B5 h;refine AF (by decide:(7:Nat)<=10) (DH hS hL e8) ?_;refine O5 Mg ?_;exact l _ [] _ (wrap .i64 (x3+(wrap .i64 ((wrap .i64 (y7+y8))-2)))) (wrap .i64 (x4+1)) Mg h
 refine G9 hS Mg h (fun x5 x6=>⟨[(72,pN x6),(71,pN (c.On.n:Int)),(70,.p (vSl 1 (cL 1 (cI .i64)) c.On)),(9,pN x5),(8,pN x3)],[]⟩) (ids:=[]) (fun _ _ _ _ _ m x5 x6 q h=>?_);apply kI hS h<;>intro h
 .obtain⟨c22,h⟩:=E2 h;exact q _ [] _ (wrap .i64 (x5+((c.On.g x6.toNat).n:Int))) (wrap .i64 (x6+1)) c22 h
 cases h;exact kR hS
def Bs (N:Nat)(b:Sl Int)(a:Int):Option Int:= if (decide (a<(b.n:Int))) then if ((0:Int)<=a/\a<(b.n:Int))then some (wrap .i64 (b.g a.toNat)) else none else some 0
theorem Pw {a:Sl Int}{b:Int}{y:Int}(h:Bs N a b=some y) :FunO S IP [.p (vSl 1 (cI .u16) a),pN b] [] (pN y) ([]) []:=by
 unfold Bs at h;refine A3 hS Tryz.func88 ?_;apply kI hS h<;>intro h
 .obtain⟨c2,h⟩:=E2 h;obtain rfl:=B7 h;exact UQ hS c2 [] ⟨rfl,rfl,rfl⟩
 cases h;exact kR hS
def Cs (N:Nat)(a:Law):Option Bool:= (Bc N (⟨(Sl.nil:Sl F0),(Sl.of [a]:Sl Law),(Sl.nil:Sl (Sl Int))⟩:A6)).bind fun y1=>some y1
theorem RI {a:Law}{y:Bool}(h:Cs N a=some y) :FunO S Ka [.p (.agg (A9 a))] [] (pB y) ([]) []:=by unfold Cs at h;refine A3 hS Tryz.func86 ?_;refine H3 hS (rfl:true=true) 5 ⟨[(4,.p (vSl 18 A9 (Sl.of [a]:Sl Law)))],[]⟩ (ids:=[]) ?_ (hle:=klR [(0,.fn 1 (Sl.of [a]:Sl Law).n (D0 [.str [],pI .i64 0,pI .u32 0,pI .u32 0,.v (.bool false),pI .i64 0,pI .i64 0,E9,pI .i64 0,pI .u32 0,pI .u32 0,.v (.bool false),pI .i64 0,pI .i64 0,E9,E9,E9,pI .i64 0] [(0,A9 a)]) (fun i=>A9 ((Sl.of [a]:Sl Law).g i)))] (al1 ⟨rfl,(fun i b=>match i,b with|0,_=>rfl|_+1,b=>Lq b (by omega))⟩ al0));obtain⟨y1,e1,h⟩:=B5 h;refine B4 hS [] Mg (FunO.le hS (args:=[(.p (.agg [E9,vSl 18 A9 (Sl.of [a]:Sl Law),E9]))]) (by exact⟨Al4 (leCc lePN (leCc (.inl rfl) (leCc lePN leC0))),trivial⟩) (Ki hS hL e1)) ?_;cases h;exact kR hS
def R8 (N:Nat)(p_x:Gj):Option (A6×Bool):= Bq N (fun d (x1:Sl F0) (x2:Int)=>if ((decide (x2<=(p_x.Parents.n:Int)))&&(decide (x2<10))) then if (((0:Int)<=(wrap .i64 (x2-1))/\(wrap .i64 (x2-1))<(p_x.Parents.n:Int))/\x2≠0)then if ((x1.n+(Sl.of [(⟨(wrap .i64 (p_x.Parents.g (wrap .i64 (x2-1)).toNat)).tmod x2,[UInt8.ofNat (wrap .u8 (97+(wrap .u8 x2))).toNat]⟩:F0)]:Sl F0).n)*24<=140737488355328/\x1.n+(Sl.of [(⟨(wrap .i64 (p_x.Parents.g (wrap .i64 (x2-1)).toNat)).tmod x2,[UInt8.ofNat (wrap .u8 (97+(wrap .u8 x2))).toNat]⟩:F0)]:Sl F0).n<=140737488355328)then d (x1.push (⟨(wrap .i64 (p_x.Parents.g (wrap .i64 (x2-1)).toNat)).tmod x2,[UInt8.ofNat (wrap .u8 (97+(wrap .u8 x2))).toNat]⟩:F0)) (wrap .i64 (x2+1)) else none else none else Bq N (fun f (x4:Sl Law) (x5:Int)=>if ((decide (x5<(p_x.Laws.n:Int)))&&(decide (x5<6))) then if ((0:Int)<=x5/\x5<(p_x.Laws.n:Int))then (Cs N (⟨[UInt8.ofNat (wrap .u8 (65+(wrap .u8 x5))).toNat],(p_x.Laws.g x5.toNat).Left,(p_x.Laws.g x5.toNat).Right,(p_x.Laws.g x5.toNat).If,(p_x.Laws.g x5.toNat).Out,(p_x.Laws.g x5.toNat).Mode⟩:Law)).bind fun y7=>lt (fun (z3:Bool)=>if z3 then some ((⟨(Sl.nil:Sl F0),(Sl.nil:Sl Law),(Sl.nil:Sl (Sl Int))⟩:A6),false) else if ((x4.n+(Sl.of [(⟨[UInt8.ofNat (wrap .u8 (65+(wrap .u8 x5))).toNat],(p_x.Laws.g x5.toNat).Left,(p_x.Laws.g x5.toNat).Right,(p_x.Laws.g x5.toNat).If,(p_x.Laws.g x5.toNat).Out,(p_x.Laws.g x5.toNat).Mode⟩:Law)]:Sl Law).n)*200<=140737488355328/\x4.n+(Sl.of [(⟨[UInt8.ofNat (wrap .u8 (65+(wrap .u8 x5))).toNat],(p_x.Laws.g x5.toNat).Left,(p_x.Laws.g x5.toNat).Right,(p_x.Laws.g x5.toNat).If,(p_x.Laws.g x5.toNat).Out,(p_x.Laws.g x5.toNat).Mode⟩:Law)]:Sl Law).n<=140737488355328)then f (x4.push (⟨[UInt8.ofNat (wrap .u8 (65+(wrap .u8 x5))).toNat],(p_x.Laws.g x5.toNat).Left,(p_x.Laws.g x5.toNat).Right,(p_x.Laws.g x5.toNat).If,(p_x.Laws.g x5.toNat).Out,(p_x.Laws.g x5.toNat).Mode⟩:Law)) (wrap .i64 (x5+1)) else none) fun k3=>if (!y7) then k3 true else (R5 N (⟨[UInt8.ofNat (wrap .u8 (65+(wrap .u8 x5))).toNat],(p_x.Laws.g x5.toNat).Left,(p_x.Laws.g x5.toNat).Right,(p_x.Laws.g x5.toNat).If,(p_x.Laws.g x5.toNat).Out,(p_x.Laws.g x5.toNat).Mode⟩:Law)).bind fun y9=>k3 (y9 != 0) else none else Bq N (fun i (c:Sl (Sl Int)) (j:Int)=>if (decide (j<(x1.n:Int))) then (Bs N p_x.On j).bind fun m=>Bq N (fun l (a:Sl Int) (b:Int)=>if (wrap .i64 ((x4.n:Int)+1))≠0 then if (((b.tmod (wrap .i64 ((x4.n:Int)+1))) != 0)&&(decide ((a.n:Int)<5))) then if (((wrap .i64 ((x4.n:Int)+1))≠0/\((a.n+(Sl.of [wrap .i64 ((b.tmod (wrap .i64 ((x4.n:Int)+1)))-1)]:Sl Int).n)*8<=140737488355328/\a.n+(Sl.of [wrap .i64 ((b.tmod (wrap .i64 ((x4.n:Int)+1)))-1)]:Sl Int).n<=140737488355328))/\(wrap .i64 ((x4.n:Int)+1))≠0)then l (a.push (wrap .i64 ((b.tmod (wrap .i64 ((x4.n:Int)+1)))-1))) (wrap .i64 (b.tdiv (wrap .i64 ((x4.n:Int)+1)))) else none else if ((c.n+(Sl.of [a]:Sl (Sl Int)).n)*24<=140737488355328/\c.n+(Sl.of [a]:Sl (Sl Int)).n<=140737488355328)then i (c.push a) (wrap .i64 (j+1)) else none else none) (Sl.nil:Sl Int) m else some ((⟨x1,x4,c⟩:A6),true)) (Sl.nil:Sl (Sl Int)) 0) (Sl.nil:Sl Law) 0) (Sl.of [(⟨-1,[114]⟩:F0)]:Sl F0) 1
theorem Jy {p_x:Gj}{y:A6×Bool}(h:R8 N p_x=some y) :FunO S EP [.p (.agg (Cq p_x))] [] (.tup [.p (.agg (A8 y.1)),pB y.2]) ([]) []:=by
 unfold R8 at h;refine A3 hS Tryz.func39 ?_;refine I1 hS Mg 2 2000 (Cq p_x) ?_;refine G9 hS (rfl:true=true) h (fun x1 x2=>⟨[(5,pN x2),(4,.reg 5000 0),(2,.reg 3000 0),(1,.p (.ptr (Cq p_x)))],[(5500,.vec Av 2 x1.n (fun i=>D5 (x1.g i)) false),(5000,.cells [.vec 5500,.p E9,.p E9]),(3000,.cells [.p E9,.p E9,.p E9])]⟩) (ids:=[(3000,3000),(5000,5000),(5500,13000)]) (fun _ _ _ _ _ o x1 x2 q h=>?_) (hle:=klR [(2,.fn 1 (Sl.of [(⟨-1,[114]⟩:F0)]:Sl F0).n (D0 [pI .i64 0,.str []] [(0,D5 (⟨-1,[114]⟩:F0))]) (fun i=>D5 ((Sl.of [(⟨-1,[114]⟩:F0)]:Sl F0).g i)))] (al1 ⟨rfl,(fun i j=>match i,j with|0,_=>rfl|_+1,j=>Lq j (by omega))⟩ al0));refine kB hS (A5 hS) Mg Mg 3 (.n (.a (decide (x2<=(p_x.Parents.n:Int)))) (.a (decide (x2<10)))) ?_;apply kI hS h<;>intro h
 .refine G8 hS Mg [3,6,7] ?_;obtain⟨c8,h⟩:=E2 h;refine AE c8 (x:=.sl true 1 1 (D0 [pI .u8 0] [(0,cI .u8 (wrap .u8 (97+(wrap .u8 x2))))])) ?_;refine AE ((fun i j=>match i,j with|0,_=>rfl|_+1,j=>Lq j (by omega)):∀i:Nat,i<1->(DJ (D0 [pI .u8 0] [(0,cI .u8 (wrap .u8 (97+(wrap .u8 x2))))] i)).isSome=true) (x:=.sl true 2 1 (D0 [pI .i64 0,.str []] [(0,D5 (⟨(wrap .i64 (p_x.Parents.g (wrap .i64 (x2-1)).toNat)).tmod x2,[UInt8.ofNat (wrap .u8 (97+(wrap .u8 x2))).toNat]⟩:F0))])) ?_;obtain⟨c9,h⟩:=E2 h;refine O5 c9 ?_;exact q _ [(3000,3000),(5000,5000),(5500,44000)] _ (x1.push (⟨(wrap .i64 (p_x.Parents.g (wrap .i64 (x2-1)).toNat)).tmod x2,[UInt8.ofNat (wrap .u8 (97+(wrap .u8 x2))).toNat]⟩:F0)) (wrap .i64 (x2+1)) Mg h (hle:=klR [(2,.fn (x1.n+1) (x1.push (⟨(wrap .i64 (p_x.Parents.g (wrap .i64 (x2-1)).toNat)).tmod x2,[UInt8.ofNat (wrap .u8 (97+(wrap .u8 x2))).toNat]⟩:F0)).n (AA x1.n (fun i=>D5 (x1.g i)) (D0 [pI .i64 0,.str []] [(0,D5 (⟨(wrap .i64 (p_x.Parents.g (wrap .i64 (x2-1)).toNat)).tmod x2,[UInt8.ofNat (wrap .u8 (97+(wrap .u8 x2))).toNat]⟩:F0))])) (fun i=>D5 ((x1.push (⟨(wrap .i64 (p_x.Parents.g (wrap .i64 (x2-1)).toNat)).tmod x2,[UInt8.ofNat (wrap .u8 (97+(wrap .u8 x2))).toNat]⟩:F0)).g i)))] (al1 ⟨rfl,Kj (c:=D5) (v:=x1) (x:=(⟨(wrap .i64 (p_x.Parents.g (wrap .i64 (x2-1)).toNat)).tmod x2,[UInt8.ofNat (wrap .u8 (97+(wrap .u8 x2))).toNat]⟩:F0)) (z:=[(pI .i64 0),.str []]) same rfl rfl⟩ al0))
 refine G9 hS Mg h (fun x4 x5=>⟨[(6,pN x5),(4,.reg 5000 0),(2,.reg 3000 0),(1,.p (.ptr (Cq p_x)))],[(5501,.vec Ct 18 x4.n (fun i=>A9 (x4.g i)) false),(5500,.vec Av 2 x1.n (fun i=>D5 (x1.g i)) false),(5000,.cells [.vec 5500,.vec 5501,.p E9]),(3000,.cells [.p E9,.p E9,.p E9])]⟩) (ids:=[(3000,3000),(5000,5000),(5500,5500)]) (fun _ _ _ _ _ r x4 x5 s h=>?_);refine kB hS (A5 hS) Mg Mg 3 (.n (.a (decide (x5<(p_x.Laws.n:Int)))) (.a (decide (x5<6)))) ?_;apply kI hS h<;>intro h
 .obtain⟨c23,h⟩:=E2 h;obtain⟨y7,e7,h⟩:=B5 h;refine B4 hS [] (And.intro (And.intro (And.intro c23 (by decide:(18:Nat)<=18)) (rfl:true=true)) ((fun i j=>match i,j with|0,_=>rfl|_+1,j=>Lq j (by omega)):∀i:Nat,i<1->(DJ (D0 [pI .u8 0] [(0,cI .u8 (wrap .u8 (65+(wrap .u8 x5))))] i)).isSome=true)) (RI hS hL e7) ?_;refine Ga hS Mg (A5 hS) h 0 (fun z3=>⟨[(74,pB z3),(7,.reg 8000 0),(6,pN x5),(4,.reg 5000 0),(2,.reg 3000 0),(1,.p (.ptr (Cq p_x)))],[(8000,.cells [.p (.str [UInt8.ofNat (wrap .u8 (65+(wrap .u8 x5))).toNat]),pN (p_x.Laws.g x5.toNat).Left.Kind,pU (p_x.Laws.g x5.toNat).Left.Is.Plus,pU (p_x.Laws.g x5.toNat).Left.Is.Minus,pB (p_x.Laws.g x5.toNat).Left.Not,pN (p_x.Laws.g x5.toNat).Left.Min,pN (p_x.Laws.g x5.toNat).Left.Max,.p (.sl false 7 (p_x.Laws.g x5.toNat).Left.L.n (AY (p_x.Laws.g x5.toNat).Left)),pN (p_x.Laws.g x5.toNat).Right.Kind,pU (p_x.Laws.g x5.toNat).Right.Is.Plus,pU (p_x.Laws.g x5.toNat).Right.Is.Minus,pB (p_x.Laws.g x5.toNat).Right.Not,pN (p_x.Laws.g x5.toNat).Right.Min,pN (p_x.Laws.g x5.toNat).Right.Max,.p (.sl false 7 (p_x.Laws.g x5.toNat).Right.L.n (AY (p_x.Laws.g x5.toNat).Right)),.p (vSl 2 A0 (p_x.Laws.g x5.toNat).If),.p (vSl 6 O7 (p_x.Laws.g x5.toNat).Out),pN (p_x.Laws.g x5.toNat).Mode]),(5501,.vec Ct 18 x4.n (fun i=>A9 (x4.g i)) false),(5500,.vec Av 2 x1.n (fun i=>D5 (x1.g i)) false),(5000,.cells [.vec 5500,.vec 5501,.p E9]),(3000,.cells [.p E9,.p E9,.p E9])]⟩) (fun M3 k3 m h=>?_) (fun z3 h=>?_)
  .refine kG hS h (fun h=>?_) (fun h=>?_)
   .exact m _ [(3000,3000),(5000,5000),(5500,5500),(5501,5501),(8000,8000)] _ true Mg h
   refine kC hS h (Ej hS hL) (fun y9 h=>?_);exact m _ [(3000,3000),(5000,5000),(5500,5500),(5501,5501),(8000,8000)] _ (y9 != 0) Mg h
  apply kI hS h<;>intro h
  .obtain rfl:=B7 h;exact A7 hS Mg ⟨[(3,pB false),(2,.reg 3000 0)],[(3000,.cells [.p (vSl 2 D5 (Sl.nil:Sl F0)),.p (vSl 18 A9 (Sl.nil:Sl Law)),.p (vSl 1 (cL 1 (cI .i64)) (Sl.nil:Sl (Sl Int)))])]⟩ [] (ids:=[(3000,3000)]) ⟨rfl,rfl,rfl⟩
  obtain⟨c28,h⟩:=E2 h;exact s _ [(3000,3000),(5000,5000),(5500,5500),(5501,81000)] _ (x4.push (⟨[UInt8.ofNat (wrap .u8 (65+(wrap .u8 x5))).toNat],(p_x.Laws.g x5.toNat).Left,(p_x.Laws.g x5.toNat).Right,(p_x.Laws.g x5.toNat).If,(p_x.Laws.g x5.toNat).Out,(p_x.Laws.g x5.toNat).Mode⟩:Law)) (wrap .i64 (x5+1)) (And.intro (rfl:true=true) c28) h (hle:=klR [(2,.fn (x4.n+1) (x4.push (⟨[UInt8.ofNat (wrap .u8 (65+(wrap .u8 x5))).toNat],(p_x.Laws.g x5.toNat).Left,(p_x.Laws.g x5.toNat).Right,(p_x.Laws.g x5.toNat).If,(p_x.Laws.g x5.toNat).Out,(p_x.Laws.g x5.toNat).Mode⟩:Law)).n (AA x4.n (fun i=>A9 (x4.g i)) (D0 [.str [],pI .i64 0,pI .u32 0,pI .u32 0,.v (.bool false),pI .i64 0,pI .i64 0,E9,pI .i64 0,pI .u32 0,pI .u32 0,.v (.bool false),pI .i64 0,pI .i64 0,E9,E9,E9,pI .i64 0] [(0,A9 (⟨[UInt8.ofNat (wrap .u8 (65+(wrap .u8 x5))).toNat],(p_x.Laws.g x5.toNat).Left,(p_x.Laws.g x5.toNat).Right,(p_x.Laws.g x5.toNat).If,(p_x.Laws.g x5.toNat).Out,(p_x.Laws.g x5.toNat).Mode⟩:Law))])) (fun i=>A9 ((x4.push (⟨[UInt8.ofNat (wrap .u8 (65+(wrap .u8 x5))).toNat],(p_x.Laws.g x5.toNat).Left,(p_x.Laws.g x5.toNat).Right,(p_x.Laws.g x5.toNat).If,(p_x.Laws.g x5.toNat).Out,(p_x.Laws.g x5.toNat).Mode⟩:Law)).g i)))] (al1 ⟨rfl,Kj (c:=A9) (v:=x4) (x:=(⟨[UInt8.ofNat (wrap .u8 (65+(wrap .u8 x5))).toNat],(p_x.Laws.g x5.toNat).Left,(p_x.Laws.g x5.toNat).Right,(p_x.Laws.g x5.toNat).If,(p_x.Laws.g x5.toNat).Out,(p_x.Laws.g x5.toNat).Mode⟩:Law)) (z:=[(.str []),pI .i64 0,pI .u32 0,pI .u32 0,.v (.bool false),pI .i64 0,pI .i64 0,E9,pI .i64 0,pI .u32 0,pI .u32 0,.v (.bool false),pI .i64 0,pI .i64 0,E9,E9,E9,pI .i64 0]) same rfl rfl⟩ al0))
 refine G9 hS Mg h (fun d l=>⟨[(8,pN l),(4,.reg 5000 0),(2,.reg 3000 0),(1,.p (.ptr (Cq p_x)))],[(5502,.vec AG 1 d.n (fun i=>cL 1 (cI .i64) (d.g i)) false),(5501,.vec Ct 18 x4.n (fun i=>A9 (x4.g i)) false),(5500,.vec Av 2 x1.n (fun i=>D5 (x1.g i)) false),(5000,.cells [.vec 5500,.vec 5501,.vec 5502]),(3000,.cells [.p E9,.p E9,.p E9])]⟩) (ids:=[(3000,3000),(5000,5000),(5500,5500),(5501,5501)]) (fun _ _ _ _ _ t d l u h=>?_);apply kI hS h<;>intro h
 .refine kC hS h (Pw hS hL) (fun a1 h=>?_);refine G9 hS Mg h (fun b f=>⟨[(10,pN f),(9,.vec 10500),(8,pN l),(4,.reg 5000 0),(2,.reg 3000 0),(1,.p (.ptr (Cq p_x)))],[(10500,.vec C4 1 b.n (fun i=>cI .i64 (b.g i)) false),(5502,.vec AG 1 d.n (fun i=>cL 1 (cI .i64) (d.g i)) false),(5501,.vec Ct 18 x4.n (fun i=>A9 (x4.g i)) false),(5500,.vec Av 2 x1.n (fun i=>D5 (x1.g i)) false),(5000,.cells [.vec 5500,.vec 5501,.vec 5502]),(3000,.cells [.p E9,.p E9,.p E9])]⟩) (ids:=[(3000,3000),(5000,5000),(5500,5500),(5501,5501),(5502,5502)]) (fun _ _ _ _ _ w b f a0 h=>?_);obtain⟨c50,h⟩:=E2 h;refine kB hS (A5 hS) c50 Mg 4 (.n (.a ((f.tmod (wrap .i64 ((x4.n:Int)+1))) != 0)) (.a (decide ((b.n:Int)<5)))) ?_;apply kI hS h<;>intro h
  .obtain⟨c52,h⟩:=E2 h;exact a0 _ [(3000,3000),(5000,5000),(5500,5500),(5501,5501),(5502,5502),(10500,121000)] _ (b.push (wrap .i64 ((f.tmod (wrap .i64 ((x4.n:Int)+1)))-1))) (wrap .i64 (f.tdiv (wrap .i64 ((x4.n:Int)+1)))) (And.intro (And.intro (And.intro c52.1.1 (rfl:true=true)) c52.1.2) c52.2) h (hle:=klR [(3,.fn (b.n+1) (b.push (wrap .i64 ((f.tmod (wrap .i64 ((x4.n:Int)+1)))-1))).n (AA b.n (fun i=>cI .i64 (b.g i)) (D0 [pI .i64 0] [(0,cI .i64 (wrap .i64 ((f.tmod (wrap .i64 ((x4.n:Int)+1)))-1)))])) (fun i=>cI .i64 ((b.push (wrap .i64 ((f.tmod (wrap .i64 ((x4.n:Int)+1)))-1))).g i)))] (al1 ⟨rfl,Kj (c:=cI .i64) (v:=b) (x:=wrap .i64 ((f.tmod (wrap .i64 ((x4.n:Int)+1)))-1)) (z:=[(pI .i64 0)]) same rfl rfl⟩ al0))
  obtain⟨c53,h⟩:=E2 h;exact u _ [(3000,3000),(5000,5000),(5500,5500),(5501,5501),(5502,126000)] _ (d.push b) (wrap .i64 (l+1)) (And.intro (rfl:true=true) c53) h (hle:=klR [(2,.fn (d.n+1) (d.push b).n (AA d.n (fun i=>cL 1 (cI .i64) (d.g i)) (D0 [E9] [(0,cL 1 (cI .i64) b)])) (fun i=>cL 1 (cI .i64) ((d.push b).g i)))] (al1 ⟨rfl,Kj (c:=cL 1 (cI .i64)) (v:=d) (x:=b) (z:=[E9]) same rfl rfl⟩ al0))
 obtain rfl:=B7 h;exact A7 hS Mg ⟨[(3,pB true),(2,.reg 3000 0)],[(3000,.cells [.p (vSl 2 D5 x1),.p (vSl 18 A9 x4),.p (vSl 1 (cL 1 (cI .i64)) d)])]⟩ [] (ids:=[(3000,3000)]) ⟨rfl,rfl,rfl⟩
end Go.AM
namespace Go.AM
open IntKind (wrap)
open Go.Proofs
set_option maxRecDepth 10000
set_option maxHeartbeats 2000000
variable {S:Q7}(hS:F4 S Tryz.prog) (hL:Ig S)
include hS hL
def W3 (N:Nat)(p_x:Gj):Option Bool:= (R8 N p_x).bind fun y1=>lt (fun (z1:Bool)=>if z1 then (G7 N ).bind fun y4=>some y4 else (H9 N (Sl.of [-1]:Sl Int) (y1.1.Laws.n:Int)).bind fun y5=>if ((0:Int)<=(y1.1.On.n:Int)/\(y1.1.On.n:Int)<=(y1.1.On.n:Int)/\(y1.1.On.n:Int)*24<=140737488355328/\(y1.1.On.n:Int)<=140737488355328)then Yj N (fun q (x5:Sl Int) (x6:Sl (Sl Int)) (x7:Int)=>if (decide (x7<(y1.1.On.n:Int))) then if ((0:Int)<=x7/\x7<(y1.1.On.n:Int))then Yj N (fun j (f:Sl Int) (c:Sl (Sl Int)) (a:Int)=>if (decide (a<((y1.1.On.g x7.toNat).n:Int))) then if ((0:Int)<=a/\a<((y1.1.On.g x7.toNat).n:Int))then if x7.toNat<c.n then if (((0:Int)<=((y1.1.On.g x7.toNat).g a.toNat)/\((y1.1.On.g x7.toNat).g a.toNat)<(f.n:Int))/\((y1.1.On.g x7.toNat).g a.toNat).toNat<f.n)then if (decide ((f.g ((y1.1.On.g x7.toNat).g a.toNat).toNat)<0)) then if ((((((0:Int)<=((y1.1.On.g x7.toNat).g a.toNat)/\((y1.1.On.g x7.toNat).g a.toNat)<(f.n:Int))/\((y1.1.On.g x7.toNat).g a.toNat).toNat<f.n)/\((0:Int)<=x7/\x7<(c.n:Int)))/\(((c.g x7.toNat).n+(Sl.of [(y1.1.On.g x7.toNat).g a.toNat]:Sl Int).n)*8<=140737488355328/\(c.g x7.toNat).n+(Sl.of [(y1.1.On.g x7.toNat).g a.toNat]:Sl Int).n<=140737488355328))/\((0:Int)<=x7/\x7<(c.n:Int)))then j (f.upd ((y1.1.On.g x7.toNat).g a.toNat).toNat x7) (c.upd x7.toNat ((c.g x7.toNat).push ((y1.1.On.g x7.toNat).g a.toNat))) (wrap .i64 (a+1)) else none else j f (c.upd x7.toNat (c.g x7.toNat)) (wrap .i64 (a+1)) else none else none else none else q f c (wrap .i64 (x7+1))) x5 x6 0 else none else (T8 N (⟨y1.1.Tree,y1.1.Laws,x6⟩:A6)).bind fun y6=>(W4 N y1.1.Tree).bind fun y7=>if (y7.2 != 0) then some false else if (decide (32<(y7.1.n:Int))) then lt (fun (z2:Bool)=>some z2) fun k2=>if (y6.2==12) then (G7 N ).bind fun y9=>k2 y9 else k2 false else lt (fun (z3:Bool)=>if z3 then some false else (N6 N y6.1).bind fun s=>if ((s.2 != 0)||((s.1.n:Int) != 0)) then some false else At N (fun m (b:Int)=>if (decide (b<(x5.n:Int))) then if (((0:Int)<=b/\b<(x5.n:Int))/\b.toNat<x5.n)then Bq N (fun i (r:Int) (d:Int)=>if (decide (d<(y7.1.n:Int))) then if (((0:Int)<=d/\d<(y7.1.n:Int))/\d.toNat<y7.1.n)then At N (fun o (l:Int)=>if ((decide (0<=(x5.g b.toNat)))&&(decide ((x5.g b.toNat)<l))) then if ((0:Int)<=l/\l<(y1.1.Tree.n:Int))then o (y1.1.Tree.g l.toNat).Parent else none else if ((decide (0<=(x5.g b.toNat)))&&(l==(x5.g b.toNat))) then if (0:Int)<=d then i (E7 .or .u64 r (shI .shl .u64 1 d)) (wrap .i64 (d+1)) else none else i r (wrap .i64 (d+1))) (y7.1.g d.toNat) else none else if ((0:Int)<=b/\b<(y6.1.Has.n:Int))then if ((y6.1.Has.g b.toNat) != r) then some false else m (wrap .i64 (b+1)) else none) 0 0 else none else (G7 N ).bind fun t=>some t) 0) fun k3=>if (y6.2 != 0) then k3 true else (H4 N y6.1).bind fun u=>if (u != 0) then k3 true else if (y6.1.Langs != (y7.1.n:Int)) then k3 true else k3 ((y6.1.Has.n:Int) != (y1.1.Laws.n:Int))) y5 (Sl.rep (y1.1.On.n:Int).toNat (Sl.nil:Sl Int):Sl (Sl Int)) 0 else none) fun k1=>if (!y1.2) then k1 true else (Cr N y1.1 (Sl.nil:Sl (Sl Mh))).bind fun y3=>k1 (!y3)
theorem Ij {N:Nat}{p_x:Gj}{y:Bool}(h:W3 N p_x=some y) :FunO S AX [.p (.agg (Cq p_x))] [] (pB y) ([]) []:=by
 unfold W3 at h;refine A3 hS DE ?_;refine kC hS h (Jy hS hL) (fun y1 h=>?_);refine Ga hS Mg (A5 hS) h 0 (fun z1=>⟨[(34,pB z1),(3,.reg 4000 0)],[(4000,.cells ((A8 y1.1).map .p))]⟩) (fun M1 k1 a0 h=>?_) (fun z1 h=>?_)
 .refine kG hS h (fun h=>?_) (fun h=>?_)
  .exact a0 _ [(4000,4000)] _ true Mg h
  obtain⟨y3,e3,h⟩:=B5 h;refine B4 hS [] Mg (FunO.le hS (args:=[(.p (.agg (A8 y1.1))),.p E9]) (by exact⟨.inl rfl,⟨Al7,trivial⟩⟩) (RG hS hL e3)) ?_;exact a0 _ [(4000,4000)] _ (!y3) Mg h
 apply kI hS h<;>intro h
 .refine kC hS h (N7 hS hL) (fun y4 h=>?_);cases h;exact kR hS
 refine Cu hS (rfl:true=true) ⟨[(39,pN (y1.1.Laws.n:Int)),(36,.vec 37000),(3,.reg 4000 0)],[(37000,.vec C4 1 (Sl.of [-1]:Sl Int).n (fun i=>cI .i64 ((Sl.of [-1]:Sl Int).g i)) false),(4000,.cells ((A8 y1.1).map .p))]⟩ (ids:=[(4000,4000),(37000,37000)]) ?_ (hle:=klR [(1,.fn 1 (Sl.of [-1]:Sl Int).n (D0 [pI .i64 0] [(0,cI .i64 (-1))]) (fun i=>cI .i64 ((Sl.of [-1]:Sl Int).g i)))] (al1 ⟨rfl,(fun i hi=>match i,hi with|0,_=>rfl|_+1,hi=>Lq hi (by omega))⟩ al0));refine kC hS h (CS hS hL) (fun y5 h=>?_);obtain⟨c5,h⟩:=E2 h;refine Hf hS c5 45 (.fam 45000 46901 fun i=>IS C4 1 (cI .i64) ((Sl.rep (y1.1.On.n:Int).toNat (Sl.nil:Sl Int):Sl (Sl Int)).g i)) (⟨by decide,fun i _=>rfl⟩:1000<=46901/\∀i,i<(Sl.rep (y1.1.On.n:Int).toNat (Sl.nil:Sl Int):Sl (Sl Int)).n->Ti [E9] (IS C4 1 (cI .i64) ((Sl.rep (y1.1.On.n:Int).toNat (Sl.nil:Sl Int):Sl (Sl Int)).g i))) ?_;refine Kk hS Mg h (fun x5 x6 x7=>⟨[(48,pN x7),(47,pN (y1.1.On.n:Int)),(46,.p (vSl 1 (cL 1 (cI .i64)) y1.1.On)),(6,.vec 45000),(5,.vec 41000),(3,.reg 4000 0)],[(45000,.fam AG x6.n 7501 none),(41000,.vec C4 1 x5.n (fun i=>cI .i64 (x5.g i)) false),(7501,.rows x6.n (fun i=>IS C4 1 (cI .i64) (x6.g i))),(4000,.cells ((A8 y1.1).map .p))]⟩) (ids:=[(4000,4000),(7501,46901),(41000,41000),(45000,45000)]) (fun _ _ _ _ _ self3 x5 x6 x7 hb4 h=>?_);apply kI hS h<;>intro h
 .obtain⟨c47,h⟩:=E2 h;refine Kk hS c47 h (fun j d f=>⟨[(55,pN f),(54,pN ((y1.1.On.g x7.toNat).n:Int)),(53,.p (vSl 1 (cI .i64) (y1.1.On.g x7.toNat))),(48,pN x7),(47,pN (y1.1.On.n:Int)),(46,.p (vSl 1 (cL 1 (cI .i64)) y1.1.On)),(7,pN x7),(6,.vec 45000),(5,.vec 41000),(3,.reg 4000 0)],[(45000,.fam AG d.n 7500 none),(41000,.vec C4 1 j.n (fun i=>cI .i64 (j.g i)) false),(7500,.rows d.n (fun i=>IS C4 1 (cI .i64) (d.g i))),(4000,.cells ((A8 y1.1).map .p))]⟩) (ids:=[(4000,4000),(7500,7501),(41000,41000),(45000,45000)]) (fun _ _ _ _ _ self4 j d f a1 h=>?_);apply kI hS h<;>intro h
  .obtain⟨c61,h⟩:=E2 h;obtain⟨c62,h⟩:=E2 h;refine Hf hS c61 59 (.take 45000 x7.toNat 60801) (⟨⟨by decide,rfl⟩,c62⟩:(1000<=60801/\d.n=d.n)/\x7.toNat<d.n) ?_;obtain⟨c63,h⟩:=E2 h;refine D1 hS c63 (b:=decide ((j.g ((y1.1.On.g x7.toNat).g f.toNat).toNat)<0)) (fun c64=>?_) (fun c64=>?_)
   .replace h:=itT c64 h;obtain⟨c65,h⟩:=E2 h;refine H3 hS (And.intro (And.intro (And.intro (And.intro (And.intro (And.intro (And.intro c65.1.1.1.1 (And.intro (rfl:(1:Nat)=1) (And.intro c65.1.1.1.2 (by decide:(1:Nat)<=1)))) c65.1.1.2) (And.intro c62 (rfl:x7.toNat=x7.toNat))) (rfl:true=true)) c65.1.2) c65.2) (And.intro c62 (rfl:x7.toNat=x7.toNat))) 78 ⟨[(55,pN f),(54,pN ((y1.1.On.g x7.toNat).n:Int)),(53,.p (vSl 1 (cI .i64) (y1.1.On.g x7.toNat))),(48,pN x7),(47,pN (y1.1.On.n:Int)),(46,.p (vSl 1 (cL 1 (cI .i64)) y1.1.On)),(7,pN x7),(6,.vec 45000),(5,.vec 41000),(3,.reg 4000 0)],[(77000,.vec C4 1 ((d.g x7.toNat).push ((y1.1.On.g x7.toNat).g f.toNat)).n (fun i=>cI .i64 (((d.g x7.toNat).push ((y1.1.On.g x7.toNat).g f.toNat)).g i)) false),(45000,.fam AG d.n 7500 (some (x7.toNat,.vec 77000))),(41000,.vec C4 1 (j.upd ((y1.1.On.g x7.toNat).g f.toNat).toNat x7).n (fun i=>cI .i64 ((j.upd ((y1.1.On.g x7.toNat).g f.toNat).toNat x7).g i)) false),(7500,.rows d.n (fun l=>if l=x7.toNat then .dead else IS C4 1 (cI .i64) (d.g l))),(4000,.cells ((A8 y1.1).map .p))]⟩ (ids:=[(4000,4000),(7500,7500),(41000,41000),(45000,45000),(77000,77000)]) ?_ (hle:=klR [(7,.fn ((d.g x7.toNat).n+1) ((d.g x7.toNat).push ((y1.1.On.g x7.toNat).g f.toNat)).n (AA (d.g x7.toNat).n (fun i=>cI .i64 ((d.g x7.toNat).g i)) (D0 [pI .i64 0] [(0,cI .i64 ((y1.1.On.g x7.toNat).g f.toNat))])) (fun i=>cI .i64 (((d.g x7.toNat).push ((y1.1.On.g x7.toNat).g f.toNat)).g i))),(10,.fn j.n (j.upd ((y1.1.On.g x7.toNat).g f.toNat).toNat x7).n (fun l=>if l=((y1.1.On.g x7.toNat).g f.toNat).toNat then splice ((fun i=>cI .i64 (j.g i)) l) 0 [pI .i64 x7]else (fun i=>cI .i64 (j.g i)) l) (fun i=>cI .i64 ((j.upd ((y1.1.On.g x7.toNat).g f.toNat).toNat x7).g i)))] (al1 ⟨rfl,Kj (c:=cI .i64) (v:=d.g x7.toNat) (x:=(y1.1.On.g x7.toNat).g f.toNat) (z:=[(pI .i64 0)]) same rfl rfl⟩ (al1 ⟨rfl,Ak6 (c:=cI .i64) (v:=j) (x:=x7) same (fun _=>by first|rfl|(dsimp only;split<;>rfl))⟩ al0)));refine Hf hS Mg 78 (.put 45000 79911) (⟨⟨by decide,rfl⟩,c62⟩:(1000<=79911/\d.n=d.n)/\x7.toNat<d.n) ?_;exact a1 _ [(4000,4000),(7500,79911),(41000,41000),(45000,45000)] _ (j.upd ((y1.1.On.g x7.toNat).g f.toNat).toNat x7) (d.upd x7.toNat ((d.g x7.toNat).push ((y1.1.On.g x7.toNat).g f.toNat))) (wrap .i64 (f+1)) Mg h (hle:=klR [(10,.ob d.n (fun q=>if q=x7.toNat then IS C4 1 (cI .i64) ((d.g x7.toNat).push ((y1.1.On.g x7.toNat).g f.toNat))else if q=x7.toNat then .dead else IS C4 1 (cI .i64) (d.g q)) (fun i=>IS C4 1 (cI .i64) ((d.upd x7.toNat ((d.g x7.toNat).push ((y1.1.On.g x7.toNat).g f.toNat))).g i)))] (al1 Ad2 al0))
   replace h:=itF c64 h;refine Hf hS Mg 78 (.put 45000 79911) (⟨⟨by decide,rfl⟩,c62⟩:(1000<=79911/\d.n=d.n)/\x7.toNat<d.n) ?_;exact a1 _ [(4000,4000),(7500,79911),(41000,41000),(45000,45000)] _ j (d.upd x7.toNat (d.g x7.toNat)) (wrap .i64 (f+1)) Mg h (hle:=klR [(10,.ob d.n (fun q=>if q=x7.toNat then IS C4 1 (cI .i64) (d.g x7.toNat)else if q=x7.toNat then .dead else IS C4 1 (cI .i64) (d.g q)) (fun i=>IS C4 1 (cI .i64) ((d.upd x7.toNat (d.g x7.toNat)).g i)))] (al1 Ad2 al0))
  exact hb4 _ [(4000,4000),(7501,7500),(41000,41000),(45000,45000)] _ j d (wrap .i64 (x7+1)) Mg h
 refine Hf hS Mg 80 (.pub 45000) (⟨rfl,fun i _=>rfl⟩:x6.n=x6.n/\∀i,i<x6.n->(UR (IS C4 1 (cI .i64) (x6.g i))).isSome=true) ?_;refine H3 hS Mg 83 ⟨[(5,.vec 41000),(3,.reg 4000 0)],[(41000,.vec C4 1 x5.n (fun i=>cI .i64 (x5.g i)) false),(4000,.cells [.p (vSl 2 D5 y1.1.Tree),.p (vSl 18 A9 y1.1.Laws),.p (vSl 1 (cL 1 (cI .i64)) x6)])]⟩ (ids:=[(4000,4000),(41000,41000)]) ?_ (hle:=klR [(3,.fn x6.n x6.n (fun i=>[(UR (IS C4 1 (cI .i64) (x6.g i))).getD default]) (fun i=>cL 1 (cI .i64) (x6.g i)))] (al1 ⟨rfl,fun _ _=>rfl⟩ al0));refine kC hS h (Fn hS hL) (fun y6 h=>?_);refine kC hS h (Hg hS hL) (fun y7 h=>?_);apply kI hS h<;>intro h
 .cases h;exact kR hS
 apply kI hS h<;>intro h
 .refine Ga hS Mg (A5 hS) h 0 (fun z2=>⟨[(2,pB z2)],[]⟩) (fun M2 k2 a2 h=>?_) (fun z2 h=>?_)
  .refine kG hS h (fun h=>?_) (fun h=>?_)
   .refine kC hS h (N7 hS hL) (fun y9 h=>?_);exact a2 _ [] _ y9 Mg h
   exact a2 _ [] _ false Mg h
  cases h;exact kR hS
 refine Ga hS Mg (A5 hS) h 0 (fun z3=>⟨[(125,pB z3),(13,.vec 91000),(11,.reg 12000 0),(5,.vec 41000),(3,.reg 4000 0)],[(91000,.vec C4 1 y7.1.n (fun i=>cI .i64 (y7.1.g i)) true),(41000,.vec C4 1 x5.n (fun i=>cI .i64 (x5.g i)) false),(12000,.cells [pN y6.1.Langs,.p (vSl 1 (cI .u64) y6.1.Has)]),(4000,.cells [.p (vSl 2 D5 y1.1.Tree),.p (vSl 18 A9 y1.1.Laws),.p (vSl 1 (cL 1 (cI .i64)) x6)])]⟩) (fun M3 k3 u h=>?_) (fun z3 h=>?_)
 .refine kG hS h (fun h=>?_) (fun h=>?_)
  .exact u _ [(4000,4000),(12000,12000),(41000,41000),(91000,91000)] _ true Mg h
  refine kC hS h (R6 hS hL) (fun y11 h=>?_);refine kG hS h (fun h=>?_) (fun h=>?_)
  .exact u _ [(4000,4000),(12000,12000),(41000,41000),(91000,91000)] _ true Mg h
  refine kG hS h (fun h=>?_) (fun h=>?_)
  .exact u _ [(4000,4000),(12000,12000),(41000,41000),(91000,91000)] _ true Mg h
  exact u _ [(4000,4000),(12000,12000),(41000,41000),(91000,91000)] _ ((y6.1.Has.n:Int) != (y1.1.Laws.n:Int)) Mg h
 apply kI hS h<;>intro h
 .cases h;exact kR hS
 refine kC hS h (DK hS hL) (fun a3 h=>?_);refine kB hS (A5 hS) Mg Mg 4 (.o (.a (a3.2 != 0)) (.a ((a3.1.n:Int) != 0))) ?_;apply kI hS h<;>intro h
 .cases h;exact kR hS
 refine N0 hS Mg h (fun m=>⟨[(140,pN m),(139,pN (x5.n:Int)),(138,.vec 41000),(13,.vec 91000),(11,.reg 12000 0),(3,.reg 4000 0)],[(91000,.vec C4 1 y7.1.n (fun i=>cI .i64 (y7.1.g i)) true),(41000,.vec C4 1 x5.n (fun i=>cI .i64 (x5.g i)) false),(12000,.cells [pN y6.1.Langs,.p (vSl 1 (cI .u64) y6.1.Has)]),(4000,.cells [.p (vSl 2 D5 y1.1.Tree),.p (vSl 18 A9 y1.1.Laws),.p (vSl 1 (cL 1 (cI .i64)) x6)])]⟩) (ids:=[(4000,4000),(12000,12000),(41000,41000),(91000,91000)]) (fun _ _ _ _ _ a6 m a4 h=>?_);apply kI hS h<;>intro h
 .obtain⟨c133,h⟩:=E2 h;refine G9 hS c133 h (fun s r=>⟨[(147,pN r),(146,pN (y7.1.n:Int)),(145,.vec 91000),(140,pN m),(139,pN (x5.n:Int)),(138,.vec 41000),(19,.p (pI .u64 s)),(18,pN (x5.g m.toNat)),(17,pN m),(13,.vec 91000),(11,.reg 12000 0),(3,.reg 4000 0)],[(91000,.vec C4 1 y7.1.n (fun i=>cI .i64 (y7.1.g i)) true),(41000,.vec C4 1 x5.n (fun i=>cI .i64 (x5.g i)) false),(12000,.cells [pN y6.1.Langs,.p (vSl 1 (cI .u64) y6.1.Has)]),(4000,.cells [.p (vSl 2 D5 y1.1.Tree),.p (vSl 18 A9 y1.1.Laws),.p (vSl 1 (cL 1 (cI .i64)) x6)])]⟩) (ids:=[(4000,4000),(12000,12000),(41000,41000),(91000,91000)]) (fun _ _ _ _ _ a7 s r w h=>?_);apply kI hS h<;>intro h
  .obtain⟨c149,h⟩:=E2 h;refine N0 hS c149 h (fun t=>⟨[(147,pN r),(146,pN (y7.1.n:Int)),(145,.vec 91000),(140,pN m),(139,pN (x5.n:Int)),(138,.vec 41000),(22,pN t),(20,pN r),(19,.p (pI .u64 s)),(18,pN (x5.g m.toNat)),(17,pN m),(13,.vec 91000),(11,.reg 12000 0),(3,.reg 4000 0)],[(91000,.vec C4 1 y7.1.n (fun i=>cI .i64 (y7.1.g i)) true),(41000,.vec C4 1 x5.n (fun i=>cI .i64 (x5.g i)) false),(12000,.cells [pN y6.1.Langs,.p (vSl 1 (cI .u64) y6.1.Has)]),(4000,.cells [.p (vSl 2 D5 y1.1.Tree),.p (vSl 18 A9 y1.1.Laws),.p (vSl 1 (cL 1 (cI .i64)) x6)])]⟩) (ids:=[(4000,4000),(12000,12000),(41000,41000),(91000,91000)]) (fun _ _ _ _ _ a8 t a5 h=>?_);refine kB hS (A5 hS) Mg Mg 4 (.n (.a (decide (0<=(x5.g m.toNat)))) (.a (decide ((x5.g m.toNat)<t)))) ?_;apply kI hS h<;>intro h
   .obtain⟨c153,h⟩:=E2 h;exact a5 _ [(4000,4000),(12000,12000),(41000,41000),(91000,91000)] _ (y1.1.Tree.g t.toNat).Parent c153 h
   refine kB hS (A5 hS) Mg Mg 4 (.n (.a (decide (0<=(x5.g m.toNat)))) (.a (t==(x5.g m.toNat)))) ?_;apply kI hS h<;>intro h
   .obtain⟨c155,h⟩:=E2 h;exact w _ [(4000,4000),(12000,12000),(41000,41000),(91000,91000)] _ (E7 .or .u64 s (shI .shl .u64 1 r)) (wrap .i64 (r+1)) c155 h
   exact w _ [(4000,4000),(12000,12000),(41000,41000),(91000,91000)] _ s (wrap .i64 (r+1)) Mg h
  obtain⟨c156,h⟩:=E2 h;refine D1 hS c156 (b:=(y6.1.Has.g m.toNat) != s) (fun c157=>?_) (fun c157=>?_)
  .replace h:=itT c157 h;cases h;exact kR hS
  replace h:=itF c157 h;exact a4 _ [(4000,4000),(12000,12000),(41000,41000),(91000,91000)] _ (wrap .i64 (m+1)) Mg h
 refine kC hS h (N7 hS hL) (fun y13 h=>?_);cases h;exact kR hS
end Go.AM
namespace Go.AM
set_option maxRecDepth 1000000
def US:G7 4194304=some true:=by decide +kernel
end Go.AM
namespace Go.AM
open IntKind (wrap)
open Go.Proofs
def Yk {A R:Type}{body:(A->Option R)->A->Option R}(I:Nat->A->Prop)(n:Nat)(H8:R->Prop)
 (b:∀self i a,i<=n->I i a->(i<n->∀a',I (i+1) a' -> ∃r,self a' = some r/\H8 r)->∃r,body self a=some r/\H8 r) :
 ∀(N i:Nat) (a:A),i<=n->I i a->n-i<N->∃r,At N body a=some r/\H8 r
 |0,_,_,_,_,h=>by omega
 |N+1,i,a,hi,hI,h=>by rw[Co];exact b _ i a hi hI fun c a' d=>Yk I n H8 b N (i+1) a' c d (by omega)
def DL {A R:Type}{body:(A->Option R)->A->Option R}(I:Nat->A->Prop)(n:Nat)(H8:R->Prop){N:Nat}(c:n<N){a:A}(d:I 0 a)
 (b:∀self i a,i<=n->I i a->(i<n->∀a',I (i+1) a' -> ∃r,self a' = some r/\H8 r)->∃r,body self a=some r/\H8 r):∃r,At N body a=some r/\H8 r:=
 Yk I n H8 b N 0 a (AC5 _) d c
def Cb {A B R:Type}{body:(A->B->Option R)->A->B->Option R}(I:Nat->A->B->Prop)(n:Nat)(H8:R->Prop){N:Nat}(g:n<N){a:A}{b:B}(j:I 0 a b)
 (d:∀c i a b,i<=n->I i a b->(i<n->∀a' b',I (i+1) a' b' -> ∃r,c a' b' = some r/\H8 r)->∃r,body c a b=some r/\H8 r):∃r,Bq N body a b=some r/\H8 r:=
 Yk (fun i x=>I i x.1 x.2) n H8 (fun c i x l m h=>d (fun a b=>c (a,b)) i x.1 x.2 l m fun hl a' b' f=>h hl (a',b') f) N 0 (a,b) (AC5 _) j g
def Ad3 {A B C R:Type}{body:(A->B->C->Option R)->A->B->C->Option R}(I:Nat->A->B->C->Prop)(n:Nat)(H8:R->Prop){N:Nat}(j:n<N){a:A}{b:B}{c:C}(l:I 0 a b c)
 (f:∀d i a b c,i<=n->I i a b c->(i<n->∀a' b' c',I (i+1) a' b' c' -> ∃r,d a' b' c' = some r/\H8 r)->∃r,body d a b c=some r/\H8 r):∃r,Yj N body a b c=some r/\H8 r:=
 Yk (fun i x=>I i x.1 x.2.1 x.2.2) n H8 (fun d i x m o h=>f (fun a b c=>d (a,b,c)) i x.1 x.2.1 x.2.2 m o fun hl a' b' c' g=>h hl (a',b',c') g) N 0 (a,b,c) (AC5 _) l j
def G5 {X R:Type}{Q:R->Prop}{o:Option X}{f:X->Option R}{x:X}(h:o=some x)(a:∃r,f x=some r/\Q r):∃r,o.bind f=some r/\Q r:=by subst h;exact a
def ltX {R A:Type}{Q:R->Prop}{k:A->Option R}{f:(A->Option R)->Option R}(h:∃r,f k=some r/\Q r):∃r,lt k f=some r/\Q r:=h
def ifT {R:Type}{Q:R->Prop}{p:Prop}[Decidable p]{a b:Option R}(h:p)(c:∃r,a=some r/\Q r):∃r,(if p then a else b)=some r/\Q r:=by rw[Ln h];exact c
def Bh{R:Type}{Q:R->Prop}{p:Prop}[Decidable p]{a b:Option R}(h2:∃ r,a=some r/\Q r)(h:p:=by decide):∃ r,(if p then a else b)=some r/\Q r:=ifT h h2
def An{R:Type}{Q:R->Prop}{p:Prop}[Decidable p]{a b:Option R}(h2:∃ r,a=some r/\Q r)(h:p:=by simp):∃ r,(if p then a else b)=some r/\Q r:=ifT h h2
def Ab{R:Type}{Q:R->Prop}{p:Prop}[Decidable p]{a b:Option R}(h2:∃ r,a=some r/\Q r)(h:p:=by simp;omega):∃ r,(if p then a else b)=some r/\Q r:=ifT h h2
def Aa{R:Type}{Q:R->Prop}{p:Prop}[Decidable p]{a b:Option R}(h2:∃ r,a=some r/\Q r)(h:p:=by omega):∃ r,(if p then a else b)=some r/\Q r:=ifT h h2
def ifF {R:Type}{Q:R->Prop}{p:Prop}[Decidable p]{a b:Option R}(h:¬p)(c:∃r,b=some r/\Q r):∃r,(if p then a else b)=some r/\Q r:=by rw[Lp h];exact c
def K8{R:Type}{Q:R->Prop}{p:Prop}[Decidable p]{a b:Option R}(h2:∃ r,b=some r/\Q r)(h:¬p:=by decide):∃ r,(if p then a else b)=some r/\Q r:=ifF h h2
def Jx{R:Type}{Q:R->Prop}{p:Prop}[Decidable p]{a b:Option R}(h2:∃ r,b=some r/\Q r)(h:¬p:=by simp):∃ r,(if p then a else b)=some r/\Q r:=ifF h h2
def Fa{R:Type}{Q:R->Prop}{p:Prop}[Decidable p]{a b:Option R}(h2:∃ r,b=some r/\Q r)(h:¬p:=by simp;omega):∃ r,(if p then a else b)=some r/\Q r:=ifF h h2
def Dm{R:Type}{Q:R->Prop}{p:Prop}[Decidable p]{a b:Option R}(h2:∃ r,b=some r/\Q r)(h:¬p:=by omega):∃ r,(if p then a else b)=some r/\Q r:=ifF h h2
def Q1 {n:Int}(h : -9223372036854775808<=n)(h' : n<=9223372036854775807):IntKind.i64.wrap n=n:=by
 by_cases a:0<=n
 .have h1:n % (2 ^ 64:Int)=n:=AC8 a (by omega);unfold wrap;simp only[IntKind.bits,IntKind.signed,h1];rw[Lp];simp;omega
 have h1:n % (2 ^ 64:Int)=n+2 ^ 64:=by rw[<- Int.add_emod_right];exact AC8 (by omega) (by omega)
 unfold wrap;simp only[IntKind.bits,IntKind.signed,h1];rw[Ln]
 .omega
 simp;omega
def J5 {i:Nat}(h:i<1000000000000000000):IntKind.i64.wrap ((i:Int)+1)=((i+1:Nat):Int):=by rw[Q1 (by omega) (by omega)];rfl
def Li{i:Nat}(h:i<1000000000000000000:=by omega):IntKind.i64.wrap ((i:Int)+1)=((i+1:Nat):Int):=J5 h
def Am0 {i:Nat}(a:1<=i)(h:i<1000000000000000000):IntKind.i64.wrap ((i:Int)-1)=((i-1:Nat):Int):=by rw[Q1 (by omega) (by omega)];omega
def Am1 {i j:Nat}(h:i+j<1000000000000000000):IntKind.i64.wrap ((i:Int)+(j:Int))=((i+j:Nat):Int):=by rw[Q1 (by omega) (by omega)];rfl
end Go.AM
namespace Go.AM
variable {N:Nat}
open IntKind (wrap)
open Go.Proofs
def RJ {α : Type}(s:Sl α)(a : α):(s.push a).toList=s.toList++[a]:=by
 unfold Sl.toList;rw[Az1,AD0];congr 1
 .exact Aw4 fun i b=>by rw[Aw6]at b;show (if i<s.n then s.g i else a)=s.g i;rw[Ln b]
 show [if s.n<s.n then s.g s.n else a]=[a];rw[Lk]
def Wj {α : Type}(s:Sl α):s.toList.length=s.n:=by simp[Sl.toList]
def okT (t:A2):Prop:=t.Has.n<=100/\∀i,i<t.Has.n->∃x:BitVec 64,t.Has.g i=U x
def bT (t:A2)(i:Nat):BitVec 64:=BitVec.ofNat 64 (t.Has.g i).toNat
def Ad4 {t:A2}(h:okT t){i:Nat}(a:i<t.Has.n):t.Has.g i=U (bT t i):=by obtain⟨x,e⟩:=h.2 i a;rw[bT,e];show U x=U (BitVec.ofNat 64 (x.toNat:Int).toNat);rw[Au1];simp
def Am2 (L:Nat):BitVec 64:=BitVec.ofNat 64 (2 ^ L-1)
def Yl {L k:Nat}(hk:k<64):(Am2 L).getLsbD k=decide (k<L):=by unfold Am2;rw[BitVec.getLsbD_ofNat];simp[hk,Nat.testBit_two_pow_sub_one]
def Ym {t:A2}{L:Nat}(hL:t.Langs=L)(h:L<=32):I4 N t=some (U (Am2 L)):=by
 unfold I4;rw[hL,Lj,Al8 L (by omega)];have a:2 ^ L<=2 ^ 32:=AE8 (by decide) h;have b:0<2 ^ L:=Nat.pow_pos (by decide);have h1:(1#64 <<< L).toNat=2 ^ L:=by rw[AK1,Nat.shiftLeft_eq];simp only[AF5];omega
 have e:U (1#64 <<< L)-1=((2 ^ L-1:Nat):Int):=by show (((1#64 <<< L).toNat:Nat):Int)-1=_;rw[h1];omega
 rw[e,Fk (by omega)];show some ((2 ^ L-1:Nat):Int)=some (((BitVec.ofNat 64 (2 ^ L-1)).toNat:Nat):Int);rw[AF5,AB4 (by omega)]
def Yn {s:Sl Int}{f:Int->Option Bool}{p:Nat->Bool}(hn:s.n<N)(hb:s.n<1000000)(m:∀i,i<s.n->f (s.g i)=some (p i)) :∃r,At N (fun b (x1:Int)=>
  if (decide (x1<(s.n:Int))) then
   if ((0:Int)<=x1/\x1<(s.n:Int))then
    (f (s.g x1.toNat)).bind fun y3=>
    if y3 then some x1 else b (wrap .i64 (x1+1))
   else none
  else some (-1)) 0=some r/\(decide (0<=r)=(List.range s.n).any p):=by
 refine DL (fun i x=>x=(i:Int)/\∀j,j<i->p j=false) s.n _ hn ⟨rfl,fun j d=>Lq d (by omega)⟩ ?_;rintro l i x o ⟨rfl,hp⟩ hs;by_cases c:i<s.n
 .refine Ab (Aa ?_);rw[Au1];refine G5 (m i c) ?_;by_cases a:p i=true
  .refine ifT a ⟨_,rfl,?_⟩;rw[decide_eq_true (by omega),eq_comm,AD5];exact⟨i,Aw6.2 c,a⟩
  refine ifF a (hs c _ ⟨Li,fun j d=>?_⟩);by_cases e:j=i
  .subst e;simpa using a
  exact hp j (by omega)
 refine Fa ⟨_,rfl,?_⟩;rw[decide_eq_false (by decide),eq_comm,AI6];intro j d;rw[Aw6]at d;simp[hp j (by omega)]
def LW {s:Sl Int}{f:Int->Option Bool}{p:Nat->Bool}(hn:s.n<N)(hb:s.n<1000000)(a:∀i,i<s.n->f (s.g i)=some (p i)) :B6 N s f=some ((List.range s.n).any p):=by obtain⟨r,h1,b⟩:=Yn hn hb a;unfold B6 E5;rw[h1];show some (decide (0<=r))=_;rw[b]
def FL (p:Nat->Bool)(n:Nat):List Int:=((List.range n).filter p).map fun (i:Nat)=>(i:Int)
def Ad5 (p:Nat->Bool)(n:Nat):FL p (n+1)=FL p n++if p n then [(n:Int)]else []:=by
 unfold FL;rw[Az1,AM0,AD0];congr 1;by_cases h:p n=true
 .simp[h]
 simp[h]
def ZY (p:Nat->Bool):∀n,(FL p n).length<=n
 |0=>by simp[FL]
 |n+1=>by rw[Ad5,Aw1];have:=ZY p n;split<;>simp<;>omega
def MR {t:A2}{q:Int->Option Bool}{p:Nat->Bool}(hb:t.Has.n<1000000)(b:∀i,i<t.Has.n->q (t.Has.g i)=some (p i)) :∀(k i:Nat),i+k=t.Has.n->∀N,k<N->At N (fun a (x1:Int)=>
  if (decide (x1<(t.Has.n:Int))) then
   if ((0:Int)<=x1/\x1<(t.Has.n:Int))then
    (q (t.Has.g x1.toNat)).bind fun y3=>
    if y3 then Fo x1 (a (wrap .i64 (x1+1)))else a (wrap .i64 (x1+1))
   else none
  else some []) (i:Int)=some (((List.range' i k).filter p).map fun (i:Nat)=>(i:Int))
 |0,i,hi,N+1,_=>by rw[Co,Lp (by simp;omega)];rfl
 |k+1,i,hi,N+1,hN=>by
  rw[Co,Ln (by simp;omega),Lj,Au1,b i (by omega)];show (if p i then _ else _)=_;rw[Li,MR hb b k (i+1) (by omega) N (by omega),List.range'_succ];by_cases h:p i=true
  .rw[Ln h,List.filter_cons_of_pos h];rfl
  rw[Lp h,List.filter_cons_of_neg h]
def Wk {t:A2}{q:Int->Option Bool}{p:Nat->Bool}(hn:t.Has.n<N)(hb:t.Has.n<1000000)(a:∀i,i<t.Has.n->q (t.Has.g i)=some (p i)) :E4 N t q=some (FL p t.Has.n):=by
 have:=MR hb a t.Has.n 0 (by omega) N hn
 rw[<- AL1]at this;exact this
end Go.AM
namespace Go.AM
open Go.Proofs
def Am3 (x:BitVec 64):Nat->Nat
 |0=>0
 |L+1=>Am3 x L+if x.getLsbD L then 1 else 0
def cntB_zero {x:BitVec 64}:∀{L:Nat},Am3 x L=0 ↔ ∀k,k<L->x.getLsbD k=false
 |0=>⟨fun _ k hk=>Lq hk (by omega),fun _=>rfl⟩
 |L+1=>by
  simp only[Am3];constructor
  .intro h k hk;by_cases e:k=L
   .subst e;cases hb:x.getLsbD k with
    |true=>simp[hb]at h
    |false=>rfl
   have h1:Am3 x L=0:=by omega
   exact cntB_zero.1 h1 k (by omega)
  intro h;rw[cntB_zero.2 fun k hk=>h k (by omega),h L (by omega)];rfl
def ZZ {x:BitVec 64}:U x=0↔x=0#64:=⟨fun h=>AA6 (by have:(x.toNat:Int)=0:=h;simp;omega),fun h=>by subst h;rfl⟩
def Kl {x:BitVec 64}:x=0#64 ↔ ∀k,k<64->x.getLsbD k=false:=
 ⟨fun h k _=>by subst h;simp,fun h=>Yi fun b hb=>by rw[h b hb];simp⟩
def Am4 (L:Nat)(x:BitVec 64):Prop:=∀k,L<=k->k<64->x.getLsbD k=false
def Am5 {L:Nat}{x:BitVec 64}(hs:Am4 L x)(hL:L<=64):x=0#64↔Am3 x L=0:=by rw[Kl,cntB_zero];exact⟨fun h k hk=>h k (by omega),fun h k hk=>by by_cases h1:k<L;exact h k h1;exact hs k (by omega) hk⟩
def UT (f:Nat->Bool)(L:Nat):Bool:=(List.range L).any f
def Wl {L:Nat}{x:BitVec 64}(hs:Am4 L x)(hL:L<=64):(U x==0) = !UT x.getLsbD L:=by
 rw[Ax6,beq_iff_eq,ZZ,Av1,Kl,UT,AI6];exact⟨fun h k hk=>by rw[h k (by have:=Aw6.1 hk;omega)];simp,fun h k hk=>by
  by_cases h1:k<L
  .simpa using h k (Aw6.2 h1)
  exact hs k (by omega) hk⟩
def Yo (L:Nat)(x y:BitVec 64):Bool:=((!UT (fun k=>x.getLsbD k&&y.getLsbD k) L)||(!UT (fun k=>x.getLsbD k && !y.getLsbD k) L))||(!UT (fun k=>(!x.getLsbD k)&&y.getLsbD k) L)
def Ik {f g:Nat->Bool}{L:Nat}(h:∀k,k<L->f k=g k):UT f L=UT g L:=by unfold UT;rw[Ax6,AD5,AD5];exact⟨fun⟨k,h1,a⟩=>⟨k,h1,by rw[<- h k (Aw6.1 h1)];exact a⟩,fun⟨k,h1,a⟩=>⟨k,h1,by rw[h k (Aw6.1 h1)];exact a⟩⟩
def Ad6 {N L:Nat}{x y:BitVec 64}(hx:Am4 L x)(hy:Am4 L y)(hL:L<=64):Cv N (U x) (U y)=some (Yo L x y):=by
 unfold Cv Yo;rw[and64,NG,NG,Wl (L:=L) (fun k h1 a=>by simp[hx k h1 a]) hL,Wl (L:=L) (fun k h1 a=>by simp[hx k h1 a]) hL,Wl (L:=L) (fun k h1 a=>by simp[hy k h1 a]) hL];rw[Ik (f:=(x &&& y).getLsbD) (g:=fun k=>x.getLsbD k&&y.getLsbD k) fun k _=>by simp,
  Ik (f:=(x &&& ~~~ y).getLsbD) (g:=fun k=>x.getLsbD k && !y.getLsbD k) fun k hk=>by simp[show k<64 by omega],
  Ik (f:=(y &&& ~~~ x).getLsbD) (g:=fun k=>(!x.getLsbD k)&&y.getLsbD k) fun k hk=>by simp[show k<64 by omega,Bool.and_comm]]
end Go.AM
namespace Go.AM
open Go.Proofs
def okC (t:A2)(L:Nat):Prop:=t.Langs=L/\L<=32/\t.Has.n<=64/\∀i,i<t.Has.n->Am4 L (bT t i)
end Go.AM
namespace Go.AM
open Go.Proofs
def Yg (nf:Nat->Nat->Bool)(i m:Nat):List E8:=((List.range m).filter fun j=>decide (i<j)&&nf i j).map fun (j:Nat)=>⟨(i:Int),(j:Int)⟩
def Px (nf:Nat->Nat->Bool)(i m:Nat):Yg nf i (m+1)=Yg nf i m++if (decide (i<m)&&nf i m) then [⟨(i:Int),(m:Int)⟩]else []:=by
 unfold Yg;rw[Az1,AM0,AD0];congr 1;by_cases h:(decide (i<m)&&nf i m)=true
 .simp only[AF1,List.filter_nil,h,Ly,Av8,AC2]
 rw[AD6]at h;simp only[AF1,List.filter_nil,h,Au4,Lz,AC2]
def Tj (nf:Nat->Nat->Bool)(i:Nat):∀m,(Yg nf i m).length<=m
 |0=>by simp[Yg]
 |m+1=>by rw[Px,Aw1];have:=Tj nf i m;split<;>simp<;>omega
def Ad7 (nf:Nat->Nat->Bool)(i m:Nat):((FL (nf i) m).filter fun x=>decide ((i:Int)<x)).map (fun x=>(⟨(i:Int),x⟩:E8))=Yg nf i m:=by unfold FL Yg;rw[List.filter_map,AA7,List.filter_filter];congr 1;refine List.filter_congr fun j a=>?_;show (decide ((i:Int)<(j:Int))&&nf i j)=_;congr 1;rw[Ax6];simp
def Py (nf:Nat->Nat->Bool)(n:Nat):Nat->List E8
 |0=>[]
 |i+1=>Py nf n i++Yg nf i n
def Tk (nf:Nat->Nat->Bool)(n:Nat):∀i,(Py nf n i).length<=i*n
 |0=>by simp[Py]
 |i+1=>by
  rw[Py,Aw1,AG6]
  have:=Tk nf n i;have:=Tj nf i n;omega
def Km:∀(M:List Int) (i:Nat) (z:Sl E8) (k:Sl E8->Option (Sl E8×Int)) (Q:Sl E8×Int->Prop),z.n+M.length<1000000 ->
 (∀z' : Sl E8,z'.toList=z.toList++((M.filter fun x=>decide ((i:Int)<x)).map fun x=>(⟨(i:Int),x⟩:E8))->∃r,k z' = some r/\Q r) ->
 ∃r,Z2 M (fun a (x7:Int) (z3:Sl E8)=>
  if (decide ((i:Int)<x7)) then
   if ((z3.n+(Sl.of [(⟨(i:Int),x7⟩:E8)]:Sl E8).n)*16<=140737488355328/\z3.n+(Sl.of [(⟨(i:Int),x7⟩:E8)]:Sl E8).n<=140737488355328)then
    a (z3.push (⟨(i:Int),x7⟩:E8))
   else none
  else a z3) k z=some r/\Q r
 |[],i,z,k,Q,_,hk=>hk z (by simp)
 |x::M,i,z,k,Q,hl,hk=>by
  simp only[Aw7]at hl;by_cases hx:(decide ((i:Int)<x))=true
  .show ∃r,(if (decide ((i:Int)<x)) then _ else _)=some r/\Q r;refine ifT hx (ifT (by show (z.n+1)*16<=_/\z.n+1<=_;omega) (Km M i (z.push ⟨i,x⟩) k Q (by show z.n+1+_<_;omega) fun z' b=>hk z' ?_));rw[b,RJ];simp only[AF1,hx,Ly,Av8,AD1,Aw8,AF6]
  show ∃r,(if (decide ((i:Int)<x)) then _ else _)=some r/\Q r;refine ifF hx (Km M i z k Q (by omega) fun z' b=>hk z' ?_);rw[AD6]at hx;rw[b];simp only[AF1,hx,Au4,Lz]
end Go.AM
namespace Go.AM
open Go.Proofs
def Tl {N L:Nat}{t:A2}(f:1000<=N)(h:okT t)(d:okC t L):H4 N t=some 0:=by
 obtain⟨hL,b,hn,hs⟩:=d;have h1:B6 N t.Has (fun (u1:Int)=>T9 N u1 t)=some ((List.range t.Has.n).any fun i=>U (bT t i &&& ~~~ Am2 L) != 0):=
  LW (by omega) (by omega) fun i c=>by unfold T9;rw[Ym hL b,Ad4 h c];show some _=_;rw[NG]
 have a:((List.range t.Has.n).any fun i=>U (bT t i &&& ~~~ Am2 L) != 0)=false:=by
  rw[AI6];intro i c
  have:=hs i (Aw6.1 c)
  rw[bne_iff_ne,Ne,ZZ,Kl,AI7];intro k a;rw[AD9,BitVec.getLsbD_not,Yl a];by_cases h1:k<L
  .simp[h1]
  simp[this k (by omega) a]
 unfold H4;rw[Lp (by simp;omega),Lp (by simp;omega),h1,a];rfl
end Go.AM
namespace Go.AM
open Go.Proofs
def anyN_iff {f:Nat->Bool}{L:Nat}:UT f L=true ↔ ∃k,k<L/\f k=true:=by unfold UT;rw[AD5];simp only[Aw6]
end Go.AM
namespace Go.AM
variable {N:Nat}
open Go.Proofs
def okS (s:Mh):Prop:=∃p m:BitVec 32,s=sOf p m
def eq0 (x:BitVec 32):((x.toNat:Int)==0)=decide (x=0#32):=by
 rw[Ax6];simp only[beq_iff_eq,Mf];constructor
 .intro h;apply AA6;show x.toNat=0;omega
 rintro rfl;rfl
def z32 (x:BitVec 32):x=0#32 ↔ ∀i,i<32->x.getLsbD i=false:=by
 constructor
 .rintro rfl i a;simp
 intro h;apply AB6;intro i a;rw[h i a];simp
def Am6 (x:BitVec 32)(i:Nat):(E7 .and .u32 (shI .shr .u32 (x.toNat:Int) (i:Int)) 1==1)=x.getLsbD i:=by
 rw[ZW,show (1:Int)=((1#32).toNat:Int) from rfl,JV];have h:(x >>> i &&& 1#32)=(BitVec.ofBool (x.getLsbD i)).setWidth 32:=by
  apply AB6;intro j b;simp only[AD9,BitVec.getLsbD_ushiftRight,BitVec.getLsbD_setWidth,BitVec.getLsbD_ofBool];by_cases a:j=0
  .subst a;simp
  have:(1#32).getLsbD j=false:=by rw[AL9];simp[a]
  simp[this,a]
 rw[h];cases x.getLsbD i<;>rfl
def Kn (x:BitVec 32):x.toNat<16777216 ↔ ∀i,24<=i->i<32->x.getLsbD i=false:=by
 constructor
 .intro h i a b;exact AK2 (Aw0 h (AE8 (n:=2) (i:=24) (by omega) a))
 intro h;refine Nat.lt_pow_two_of_testBit (n:=24) _ fun i a=>?_;by_cases c:i<32
 .exact h i a c
 exact AK2 (Aw0 x.isLt (AE8 (by omega) (by omega)))
def Tm (p m:BitVec 32):vB p m=true ↔ ∀i,i<32->¬(p.getLsbD i=true/\m.getLsbD i=true)/\(24<=i->p.getLsbD i=false/\m.getLsbD i=false):=by rw[vB,Mf];exact⟨fun h i a=>h ⟨i,a⟩,fun h i=>h i.1 i.2⟩
def Tn (p m:BitVec 32):p &&& m=0#32 ↔ ∀i,i<32->¬(p.getLsbD i=true/\m.getLsbD i=true):=by rw[z32];refine forall_congr' fun i=>forall_congr' fun a=>?_;rw[AD9,AK6];cases p.getLsbD i<;>cases m.getLsbD i<;>simp
def Am7 (p m:BitVec 32):vB p m=true↔p &&& m=0#32/\(p ||| m).toNat<16777216:=by
 rw[Tm,Tn,Kn];constructor
 .intro h;refine⟨fun i a=>(h i a).1,fun i h1 b=>?_⟩
  have:=(h i b).2 h1
  rw[AB7,this.1,this.2];rfl
 rintro⟨h1,b⟩ i a;refine⟨h1 i a,fun c=>?_⟩
 have:=b i c a
 rw[AB7,AH1]at this;exact this
def Am8 (p m:BitVec 32):vB p m=true↔p &&& m=0#32/\p.toNat<16777216/\m.toNat<16777216:=by rw[Tm,Tn,Kn,Kn];exact⟨fun h=>⟨fun i a=>(h i a).1,fun i h1 b=>((h i b).2 h1).1,fun i h1 b=>((h i b).2 h1).2⟩,fun⟨h1,b,d⟩ i a=>⟨h1 i a,fun c=>⟨b i c a,d i c a⟩⟩⟩
def Pz (p m:BitVec 32):F5 N (sOf p m)=some (vB p m):=by unfold F5;rw[JV,We,eq0];congr 1;rw[Ax6,Am7];simp only[Au0,Mf];exact⟨fun h=>⟨h.1,by have:=h.2;omega⟩,fun h=>⟨h.1,by have:=h.2;omega⟩⟩
def shr24 (x:BitVec 32):(shI .shr .u32 (x.toNat:Int) 24==0)=decide (x.toNat<16777216):=by
 rw[show (24:Int)=((24:Nat):Int) from rfl,ZW,Ax6];simp only[beq_iff_eq,Mf,AI5,AI2]
 have:=Nat.div_eq_zero_iff (a:=x.toNat) (b:=2 ^ 24)
 omega
def Wm (p m:BitVec 32):Bt N (sOf p m)=some (vB p m):=by unfold Bt;rw[JV,We,eq0,shr24];congr 1;rw[Ax6,Am7];simp only[Au0,Mf]
def Wn (p m:BitVec 32):N1 N (sOf p m)=some (vB p m):=Wm (N:=N) p m
def UU (p m:BitVec 32):T4 N (sOf p m)=some (vB p m):=by unfold T4;rw[JV,eq0];congr 1;rw[Ax6,Am8];simp only[Au0,Mf];exact⟨fun h=>⟨h.1.1,by have:=h.1.2;omega,by have:=h.2;omega⟩,fun h=>⟨⟨h.1,by have:=h.2.1;omega⟩,by have:=h.2.2;omega⟩⟩
def MS (p m:BitVec 32)(n:1000<=N):T3 N (sOf p m)=some (vB p m):=by
 suffices h:∃r,T3 N (sOf p m)=some r/\r=vB p m by obtain⟨r,h,rfl⟩:=h;exact h
 unfold T3;refine DL (fun i x1=>x1=(i:Int)/\∀j,j<i->¬(p.getLsbD j=true/\m.getLsbD j=true)/\(24<=j->p.getLsbD j=false/\m.getLsbD j=false)) 32 _ (by omega) ⟨rfl,fun j d=>Lq d (by omega)⟩ ?_;rintro g i x1 o ⟨rfl,h1⟩ hs;by_cases hl:i<32
 .refine Ab (Aa ?_);simp only[Am6];have e24:decide ((24:Int)<=(i:Int))=decide (24<=i):=decide_eq_decide.2 (by omega);rw[e24];by_cases hb:¬(p.getLsbD i=true/\m.getLsbD i=true)/\(24<=i->p.getLsbD i=false/\m.getLsbD i=false)
  .refine ifF ?_ (hs hl _ ⟨Li,fun j d=>?_⟩)
   .intro h;obtain⟨l,f⟩:=hb;revert h l f;by_cases c:24<=i
    .intro h l f;obtain⟨a,b⟩:=f c;simp[a,b]at h
    cases p.getLsbD i<;>cases m.getLsbD i<;>simp[c]
   by_cases e:j=i
   .subst e;exact hb
   exact h1 j (by omega)
  refine ifT ?_ ⟨false,rfl,?_⟩
  .revert hb;by_cases c:24<=i
   .cases p.getLsbD i<;>cases m.getLsbD i<;>simp[c]
   cases p.getLsbD i<;>cases m.getLsbD i<;>simp[c]
  symm;rw[<- AD6,Tm];exact fun h=>hb (h i hl)
 refine Fa ⟨true,rfl,?_⟩;symm;rw[Tm];exact fun j d=>h1 j (by omega)
end Go.AM
namespace Go.AM
open Go.Proofs
def Yp {s:Mh}{p m:BitVec 32}(h:s=sOf p m):vS s↔vB p m=true:=by
 constructor
 .rintro⟨q,r,e,a⟩;rw[h]at e;have e1:(p.toNat:Int)=q.toNat:=congrArg Mh.Plus e;have e2:(m.toNat:Int)=r.toNat:=congrArg Mh.Minus e;rw[AA6 (show p.toNat=q.toNat by omega),AA6 (show m.toNat=r.toNat by omega)];exact a
 exact fun a=>⟨p,m,h,a⟩
def okPS:Pat->Prop
 |.nil=>True
 |.mk _ is _ _ _ n g=>okS is/\∀i,i<n->okPS (g i)
def okPS.is {p:Pat}(h:okPS p):okS p.Is:=by
 cases p with
 |nil=>exact⟨0#32,0#32,rfl⟩
 |mk _ is _ _ _ n g=>exact h.1
def okPS.L {p:Pat}(h:okPS p){i:Nat}(a:i<p.L.n):okPS (p.L.g i):=by
 cases p with
 |nil=>exact Lq a (by show ¬i<0;omega)
 |mk _ is _ _ _ n g=>exact h.2 i a
def Wo:∀k,chk k []
 |0=>rfl
 |_+1=>trivial
def RK:∀(k:Nat) (l:List Pat),chk k l->l.length<=k
 |0,l,h=>by rw[show l=[] from h];exact Au2 _
 |k+1,[],_=>AC5 _
 |k+1,p::l,⟨_,h⟩=>by
  have:=RK k _ h
  rw[Aw1]at this;simp only[Aw7];omega
def Gb {α : Type}(s:Sl α):s.toList.length=s.n:=by simp[Sl.toList]
def Yq {N:Nat}{p:Pat}(hp:okS p.Is):∃e,DF N p=some e/\(e=0↔LX p):=by
 obtain⟨a,b,f⟩:=hp;have i:=Yp f;unfold DF LX;by_cases h1:0<=p.Kind/\p.Kind<=6
 case neg=>exact Ab ⟨2,rfl,by simp;omega⟩
 refine Fa ?_;have e0:((p.Is.Plus==0)&&(p.Is.Minus==0))=decide (p.Is.Plus=0/\p.Is.Minus=0):=by rw[Ax6];simp
 rw[e0];by_cases c:p.Kind≠1->(p.Is.Plus=0/\p.Is.Minus=0)/\p.Not=false
 case neg=>
  refine ifT ?_ ⟨2,rfl,by simp[c]⟩;simp only[Au0,Aw5,bne_iff_ne,ne_eq,AD6,decide_eq_false_iff_not];rw[Classical.not_imp]at c;refine⟨c.1,?_⟩;by_cases h:p.Is.Plus=0/\p.Is.Minus=0
  .right
   cases hn:p.Not
   .exact Lq ⟨h,hn⟩ c.2
   rfl
  exact .inl h
 refine ifF ?_ (ltX ?_)
 .simp only[Au0,Aw5,bne_iff_ne,ne_eq,AD6,decide_eq_false_iff_not];rintro⟨g1,g2⟩;obtain⟨g3,g4⟩:=c g1;rcases g2 with g2|g2
  .exact g2 g3
  rw[g4]at g2;cases g2
 have rest:(p.Kind≠3->p.Kind≠4->p.Kind≠5->p.L.n=0)->∃e,(if ((p.Kind != 5)&&((p.Min != 0)||(p.Max != 0))) then some (2:Int)else
  lt (fun (z2:Bool)=>if z2 then some 2 else (T4 N p.Is).bind fun y1=>if (!y1) then some 14 else some 0) fun k2=>
   if (p.Kind==5) then if (((p.L.n:Nat):Int) != 1) then k2 true else if (decide (p.Min<0)) then k2 true else if (decide (32<p.Min)) then k2 true else
    if (p.Max != (-1)) then if (decide (p.Max<p.Min)) then k2 true else k2 (decide (32<p.Max))else k2 false else k2 false)=some e /\
  (e=0↔(0<=p.Kind/\p.Kind<=6)/\(p.Kind≠1->(p.Is.Plus=0/\p.Is.Minus=0)/\p.Not=false)/\(p.Kind≠3->p.Kind≠4->p.Kind≠5->p.L.n=0)/\(p.Kind≠5->p.Min=0/\p.Max=0) /\
   (p.Kind=5->p.L.n=1/\0<=p.Min/\p.Min<=32/\(p.Max = -1 \/ (p.Min<=p.Max/\p.Max<=32)))/\vS p.Is):=by
  intro j;by_cases d:p.Kind≠5->p.Min=0/\p.Max=0
  case neg=>refine ifT ?_ ⟨2,rfl,by simp[d]⟩;rw[Classical.not_imp]at d;simp only[Au0,Aw5,bne_iff_ne,ne_eq];omega
  refine ifF ?_ (ltX ?_)
  .simp only[Au0,Aw5,bne_iff_ne,ne_eq];rintro⟨g1,g2⟩
   have:=d g1
   omega
  have last:(p.Kind=5->p.L.n=1/\0<=p.Min/\p.Min<=32/\(p.Max = -1 \/ (p.Min<=p.Max/\p.Max<=32)))->∃e,(if false then some (2:Int)else (T4 N p.Is).bind fun y1=>if (!y1) then some 14 else some 0)=some e /\
   (e=0↔(0<=p.Kind/\p.Kind<=6)/\(p.Kind≠1->(p.Is.Plus=0/\p.Is.Minus=0)/\p.Not=false)/\(p.Kind≠3->p.Kind≠4->p.Kind≠5->p.L.n=0)/\(p.Kind≠5->p.Min=0/\p.Max=0) /\
    (p.Kind=5->p.L.n=1/\0<=p.Min/\p.Min<=32/\(p.Max = -1 \/ (p.Min<=p.Max/\p.Max<=32)))/\vS p.Is):=by
   intro g;refine Jx ?_;rw[i,f,UU];refine G5 rfl ?_;cases l:vB a b
   .exact ifT rfl ⟨14,rfl,by simp⟩
   exact Jx ⟨0,rfl,by rw[<- f];exact⟨fun _=>⟨h1,c,j,d,g,rfl⟩,fun _=>rfl⟩⟩
  have bad:¬(p.Kind=5->p.L.n=1/\0<=p.Min/\p.Min<=32/\(p.Max = -1 \/ (p.Min<=p.Max/\p.Max<=32)))->∃e,(if true then some (2:Int)else (T4 N p.Is).bind fun y1=>if (!y1) then some 14 else some 0)=some e /\
   (e=0↔(0<=p.Kind/\p.Kind<=6)/\(p.Kind≠1->(p.Is.Plus=0/\p.Is.Minus=0)/\p.Not=false)/\(p.Kind≠3->p.Kind≠4->p.Kind≠5->p.L.n=0)/\(p.Kind≠5->p.Min=0/\p.Max=0) /\
    (p.Kind=5->p.L.n=1/\0<=p.Min/\p.Min<=32/\(p.Max = -1 \/ (p.Min<=p.Max/\p.Max<=32)))/\vS p.Is):=fun g=>ifT rfl ⟨2,rfl,⟨fun h=>Lq h (by decide),fun h=>Lq h.2.2.2.2.1 g⟩⟩
  by_cases k5:p.Kind=5
  .refine ifT (by simp[k5]) ?_;by_cases g1:p.L.n=1
   case neg=>exact Ab (bad fun h=>g1 (h k5).1)
   refine Fa ?_;by_cases g2:p.Min<0
   .exact ifT (by simpa using g2) (bad fun h=>by have:=h k5;omega)
   refine ifF (by simpa using g2) ?_;by_cases g3:32<p.Min
   .exact ifT (by simpa using g3) (bad fun h=>by have:=h k5;omega)
   refine ifF (by simpa using g3) ?_;by_cases g4:p.Max = -1
   .exact ifF (by simp[g4]) (last fun _=>⟨g1,by omega,by omega,.inl g4⟩)
   refine ifT (by simp[g4]) ?_;by_cases g5:p.Max<p.Min
   .exact ifT (by simpa using g5) (bad fun h=>by have:=h k5;omega)
   refine ifF (by simpa using g5) ?_;by_cases g6:32<p.Max
   .rw[decide_eq_true g6];exact bad fun h=>by have:=h k5;omega
   rw[decide_eq_false g6];exact last fun _=>⟨g1,by omega,by omega,.inr ⟨by omega,by omega⟩⟩
  exact ifF (by simp[k5]) (last fun h=>Lq h k5)
 by_cases k3:p.Kind=3
 .exact ifF (by simp[k3]) (Jx (rest fun h=>Lq k3 h))
 refine ifT (by simp[k3]) ?_;by_cases k4:p.Kind=4
 .exact ifF (by simp[k4]) (Jx (rest fun _ h=>Lq k4 h))
 refine ifT (by simp[k4]) ?_;by_cases k5:p.Kind=5
 .exact ifF (by simp[k5]) (Jx (rest fun _ _ h=>Lq k5 h))
 refine ifT (by simp[k5]) ?_;by_cases hn:p.L.n=0
 .exact Fa (rest fun _ _ _=>hn)
 exact Ab ⟨2,rfl,⟨fun h=>Lq h (by decide),fun h=>Lq (h.2.2.1 k3 k4 k5) hn⟩⟩
def GM {α : Type}(s:Sl α){i:Nat}(h:i<s.n):s.toList.drop i=s.g i::s.toList.drop (i+1):=by
 have hl:i<s.toList.length:=by rw[Gb];exact h
 rw[AE9 hl];simp[Sl.toList]
def Fp {α : Type}(s:Sl α):s.toList.drop s.n=[]:=Az6 (by rw[Gb];exact Au2 _)
def Wp {N:Nat}(o:1000<=N):∀(d:Nat),d<=40->∀(p:Pat),okPS p->∀M,N+d+1<=M->∃r,Ck M p ((40-d:Nat):Int)=some r /\
 ∃k:Nat,r.1=(k:Int)/\40-d<=k/\k<=40/\(r.2=0->40-d<k/\∀l,chk d (p::l)↔chk (40-k) l)/\(r.2≠0->∀l,¬chk d (p::l))
 |d,hd,p,hp,0,hM=>by omega
 |0,hd,p,hp,M+1,hM=>by show ∃r,T6 (Ck M) M p _=some r/\_;unfold T6;exact An ⟨_,rfl,40,rfl,by omega,by omega,fun h=>Lq h (by decide),fun _ l h=>by cases h⟩
 |d+1,hd,p,hp,M+1,hM=>by
  show ∃r,T6 (Ck M) M p _=some r/\_;unfold T6;refine Fa ?_;obtain⟨e,q,hn⟩:=Yq (N:=M) hp.is;refine G5 q ?_;by_cases c:e=0
  case neg=>exact ifT (by simp[c]) ⟨_,rfl,40-(d+1),rfl,Au2 _,by omega,fun h=>Lq h c,fun _ l h=>c (hn.2 h.1)⟩
  refine ifF (by simp[c]) ?_;have a:=hn.1 c;rw[Li];refine Cb (fun i x1 x2=>x2=(i:Int)/\∃k:Nat,x1=(k:Int)/\40-(d+1)+1+i<=k/\k<=40/\i<=p.L.n/\∀l,chk (d+1) (p::l)↔chk (40-k) (p.L.toList.drop i++l)) 41 _ (by omega)
   ⟨rfl,40-(d+1)+1,rfl,by omega,by omega,by omega,fun l=>by rw[show 40-(40-(d+1)+1)=d by omega];exact⟨fun h=>h.2,fun h=>⟨a,h⟩⟩⟩ ?_
  rintro j i x1 x2 t ⟨rfl,k,rfl,h1,s,u,f⟩ hs;by_cases hl:i<p.L.n
  .refine Ab (Aa ?_);obtain⟨r,m,k',r1,r2,r3,r4,r5⟩:=Wp o (40-k) (by omega) (p.L.g i) (hp.L hl) M (by omega);rw[show ((40-(40-k):Nat):Int)=(k:Int) by omega]at m;refine G5 (by rw[Au1];exact m) ?_;by_cases b:r.2=0
   .refine ifF (by simp[b]) (hs (by omega) _ _ ⟨Li,k',r1,by have:=(r4 b).1;omega,r3,by omega,fun l=>?_⟩);rw[f,GM _ hl,Aw8];exact (r4 b).2 _
   refine ifT (by simp[b]) ⟨_,rfl,k',r1,by omega,r3,fun h=>Lq h b,fun _ l hc=>?_⟩;rw[f,GM _ hl,Aw8]at hc;exact r5 b _ hc
  obtain rfl:i=p.L.n:=by omega
  refine Jx ⟨_,rfl,k,rfl,by omega,s,fun _=>⟨by omega,fun l=>?_⟩,fun h=>Lq rfl h⟩;rw[f,Fp];rfl
def PA {N:Nat}(f:2000<=N){p:Pat}(hp:okPS p):∃e,AZ N p=some e/\(e=0↔chk 40 [p]):=by
 obtain⟨r,b,k,h1,g,i,c,d⟩:=Wp (N:=1500) (by omega) 40 (Au2 _) p hp N (by omega);unfold AZ;refine G5 b ⟨_,rfl,fun h=>?_,fun h=>?_⟩
 .exact ((c h).2 []).2 (Wo _)
 by_cases a:r.2=0
 .exact a
 exact Lq h (d a [])
end Go.AM
namespace Go.AM
open Go.Proofs
def Am9 {T A R:Type}{body:(A->Option R)->T->A->Option R}{k:A->Option R}{H8:R->Prop}(J:List T->A->Prop)(c:∀a,J [] a->∃r,k a=some r/\H8 r)
 (b:∀t L a self,J (t::L) a->(∀a',J L a' -> ∃r,self a' = some r/\H8 r)->∃r,body self t a=some r/\H8 r):∀(L:List T) (a:A),J L a->∃r,Z2 L body k a=some r/\H8 r
 |[],a,h=>c a h
 |t::L,a,h=>b t L a _ h fun a' h'=>Am9 J c b L a' h'
end Go.AM
namespace Go.AM
variable {N:Nat}
open IntKind (wrap)
open Go.Proofs
def UV {p:Pat}(hp:okS p.Is):∃e,Z3 N p=some e/\(e=0↔LX p):=by
 obtain⟨a,b,i⟩:=hp;have m:=Yp i;have V:N1 N p.Is=some (vB a b):=by rw[i];exact Wn a b
 have e0:((p.Is.Plus==0)&&(p.Is.Minus==0))=decide (p.Is.Plus=0/\p.Is.Minus=0):=by rw[Ax6];simp
 have fin:(LX p↔vS p.Is)->∃e,((N1 N p.Is).bind fun y1=>if (!y1) then some (14:Int)else some 0)=some e/\(e=0↔LX p):=by
  intro c;rw[V];refine G5 rfl ?_;rw[c,m];cases vB a b
  .exact ifT rfl ⟨14,rfl,by simp⟩
  exact Jx ⟨0,rfl,by simp⟩
 have bad:∀{x:Int},x≠0->¬LX p->∃e,some x=some e/\(e=0↔LX p):=fun hx h=>⟨_,rfl,fun d=>Lq d hx,fun d=>Lq d h⟩;unfold Z3;by_cases hk:p.Kind=0 \/ p.Kind=2 \/ p.Kind=6
 .refine ifT (by rcases hk with h|h|h<;>simp[h]) (ltX ?_);rw[e0];by_cases g1:p.Is.Plus=0/\p.Is.Minus=0
  case neg=>exact ifT (by simp[g1]) (ifT rfl (bad (by decide) fun h=>g1 (h.2.1 (by omega)).1))
  refine ifF (by simp[g1]) ?_;by_cases g2:p.Not=true
  .exact ifT g2 (ifT rfl (bad (by decide) fun h=>by have:=(h.2.1 (by omega)).2;rw[g2]at this;cases this))
  refine ifF g2 ?_;by_cases g3:p.Min=0
  case neg=>exact ifT (by simp[g3]) (ifT rfl (bad (by decide) fun h=>g3 (h.2.2.2.1 (by omega)).1))
  refine ifF (by simp[g3]) ?_;by_cases g4:p.Max=0
  case neg=>exact ifT (by simp[g4]) (ifT rfl (bad (by decide) fun h=>g4 (h.2.2.2.1 (by omega)).2))
  refine ifF (by simp[g4]) ?_;by_cases g5:p.L.n=0
  case neg=>exact Ab (bad (by decide) fun h=>g5 (h.2.2.1 (by omega) (by omega) (by omega)))
  refine Fa (fin ?_);exact⟨fun h=>h.2.2.2.2.2,fun h=>⟨by omega,fun _=>⟨g1,by simpa using g2⟩,fun _ _ _=>g5,fun _=>⟨g3,g4⟩,fun f=>by omega,h⟩⟩
 refine ifF (by simp only[not_or]at hk;simp[hk]) ?_;by_cases k1:p.Kind=1
 .refine ifT (by simp[k1]) (ltX ?_);refine Jx ?_;by_cases g3:p.Min=0
  case neg=>exact ifT (by simp[g3]) (ifT rfl (bad (by decide) fun h=>g3 (h.2.2.2.1 (by omega)).1))
  refine ifF (by simp[g3]) ?_;by_cases g4:p.Max=0
  case neg=>exact ifT (by simp[g4]) (ifT rfl (bad (by decide) fun h=>g4 (h.2.2.2.1 (by omega)).2))
  refine ifF (by simp[g4]) ?_;by_cases g5:p.L.n=0
  case neg=>exact Ab (bad (by decide) fun h=>g5 (h.2.2.1 (by omega) (by omega) (by omega)))
  refine Fa (fin ?_);exact⟨fun h=>h.2.2.2.2.2,fun h=>⟨by omega,fun h1=>Lq k1 h1,fun _ _ _=>g5,fun _=>⟨g3,g4⟩,fun f=>by omega,h⟩⟩
 refine ifF (by simp[k1]) (ltX ?_);rw[e0];have tail:∀(x y:Int),(LX p↔(p.Is.Plus=0/\p.Is.Minus=0)/\p.Not=false/\x=0/\y=0/\vS p.Is)->∃e,(if (((((decide (p.Is.Plus=0/\p.Is.Minus=0) != true)||p.Not)||(x != 0))||(y != 0))||(decide (0<0))) then some (2:Int)else
  (N1 N p.Is).bind fun y3=>if (!y3) then some 14 else some 0)=some e/\(e=0↔LX p):=by
  intro x y c;by_cases g:(p.Is.Plus=0/\p.Is.Minus=0)/\p.Not=false/\x=0/\y=0
  .obtain⟨g1,g2,g3,g4⟩:=g;exact ifF (by simp[g1,g2,g3,g4]) (fin (c.trans ⟨fun h=>h.2.2.2.2,fun h=>⟨g1,g2,g3,g4,h⟩⟩))
  refine ifT ?_ (bad (by decide) fun h=>g ⟨(c.1 h).1,(c.1 h).2.1,(c.1 h).2.2.1,(c.1 h).2.2.2.1⟩);simp only[Aw5,bne_iff_ne,ne_eq,Mf];by_cases g1:p.Is.Plus=0/\p.Is.Minus=0
  .by_cases g2:p.Not=true
   .simp[g2]
   by_cases g3:x=0
   .have:¬y=0:=fun g4=>g ⟨g1,by simpa using g2,g3,g4⟩
    simp[this]
   simp[g3]
  simp[g1]
 by_cases k34:p.Kind=3 \/ p.Kind=4
 .refine ifT (by rcases k34 with h|h<;>simp[h]) (tail _ _ ?_);constructor
  .exact fun h=>⟨(h.2.1 k1).1,(h.2.1 k1).2,(h.2.2.2.1 (by omega)).1,(h.2.2.2.1 (by omega)).2,h.2.2.2.2.2⟩
  rintro⟨h1,d,j,l,f⟩;exact⟨by omega,fun _=>⟨h1,d⟩,fun h h'=>by omega,fun _=>⟨j,l⟩,fun h=>by omega,f⟩
 refine ifF (by simp only[not_or]at k34;simp[k34]) ?_;by_cases k5:p.Kind=5
 .refine ifT (by simp[k5]) ?_;by_cases g:p.L.n=1/\0<=p.Min/\p.Min<=32/\(p.Max = -1 \/ (p.Min<=p.Max/\p.Max<=32))
  .refine ifF (by simp only[Aw5,Au0,bne_iff_ne,ne_eq,Mf];omega) (tail 0 0 ?_);constructor
   .exact fun h=>⟨(h.2.1 k1).1,(h.2.1 k1).2,rfl,rfl,h.2.2.2.2.2⟩
   rintro⟨h1,d,j,l,f⟩;exact⟨by omega,fun _=>⟨h1,d⟩,fun _ _ h=>Lq k5 h,fun h=>Lq k5 h,fun _=>g,f⟩
  exact ifT (by simp only[Aw5,Au0,bne_iff_ne,ne_eq,Mf];omega) (bad (by decide) fun h=>g (h.2.2.2.2.1 k5))
 exact ifF (by simp[k5]) (bad (by decide) fun h=>by have:=h.1;omega)
def Wq {x:Sl Pat}{m:Nat}(h:x.n=m+1):x.toList.reverse=x.g m::(x.take m).toList.reverse:=by unfold Sl.toList;rw[h,Az1,AD0,AB8];rfl
def Yr (z:Sl Pat)(q:Pat):((z.push Pat.nil).upd z.n q).toList.reverse=q::z.toList.reverse:=by
 rw[Wq (m:=z.n) rfl];have e1:((z.push Pat.nil).upd z.n q).g z.n=q:=by simp
 have e2:(((z.push Pat.nil).upd z.n q).take z.n).toList=z.toList:=by
  unfold Sl.toList;refine Aw4 fun i a=>?_
  have:i<z.n:=Aw6.1 a
  show (if i=z.n then q else if i<z.n then z.g i else Pat.nil)=z.g i;rw[Lk,Ln this]
 rw[e1,e2]
def RL (q:Sl Pat)(c:q.n<N)(hs:q.n<1000000):C5 N q=some ((List.range q.n).reverse.map fun (i:Nat)=>((i:Int),q.g i)):=by
 unfold C5;have h:∀(m:Nat),m<=q.n->∀F,m<F->At F (fun (a:Int->Option (List (Int×Pat))) (x1:Int)=>
  if (decide (0<=x1)) then
   if ((0:Int)<=x1/\x1<(q.n:Int))then
    Fo (x1,q.g x1.toNat) (
     a (wrap .i64 (x1-1))
     )
   else none
  else
   some []) ((m:Int)-1)=some ((List.range m).reverse.map fun (i:Nat)=>((i:Int),q.g i)):=by
  intro m
  induction m with
  |zero=>
   intro _ F b
   match F,b with
   |F+1,_=>rfl
  |succ m ih=>
   intro hm F b
   match F,b with
   |F+1,b=>rw[Co];rw[show ((m+1:Nat):Int)-1=(m:Int) by omega,Ln (by simp),Lj,Q1 (by omega) (by omega),ih (by omega) F (by omega),Au1,Az1,AB8,AK3,AK7,Av8];rfl
 rw[Q1 (by omega) (by omega)];exact h q.n (Au2 _) N c
def Ad8 {k:Nat}(hk:k<=40){c:Sl Pat}{l:List Pat}:chk k ((c.take (min 41 c.n)).toList++l)↔chk k (c.toList++l):=by
 by_cases h:c.n<=41
 .rw[Nat.min_eq_right h]
 constructor
 .intro a
  have:=RK _ _ a
  rw[Aw1,Gb]at this
  have:(c.take (min 41 c.n)).n=41:=AC9 (by omega)
  omega
 intro a
 have:=RK _ _ a
 rw[Aw1,Gb]at this;omega
def To (hN:2000<=N){p:Pat}(hp:okPS p):∃e,U0 N p=some e/\(e=0↔chk 40 [p]):=by
 unfold U0;refine Cb (fun i x3 x4=>x4=(i:Int)/\x3.n<=1+41*i/\(∀q∈x3.toList.reverse,okPS q)/\(chk 40 [p]↔chk (40-i) x3.toList.reverse)) 40 _ (by omega)
  ⟨rfl,by show 1<=_;omega,fun q l=>by rw[show (Sl.of [p]:Sl Pat).toList.reverse=[p] from rfl]at l;rw[AC3.1 l];exact hp,AF7⟩ ?_
 rintro x i x3 x4 hi ⟨rfl,h1,c,f⟩ hs;rcases hn:x3.n with _|m
 .refine Jx ⟨0,rfl,fun _=>f.2 ?_,fun _=>rfl⟩
  have:x3.toList.reverse=[]:=by unfold Sl.toList;rw[hn];rfl
  rw[this];exact Wo _
 rw[Wq hn]at f c;refine ifT (decide_eq_true (by omega)) ?_;by_cases r:i=40
 .subst r;refine An ⟨12,rfl,fun h=>Lq h (by decide),fun h=>?_⟩
  have:(x3.g m::(x3.take m).toList.reverse)=[]:=f.1 h
  cases this
 refine Fa ?_;have hw:IntKind.i64.wrap (((m+1:Nat):Int)-1)=(m:Int):=by rw[Q1 (by omega) (by omega)];omega
 simp only[hw,Au1];refine Aa (Aa ?_);obtain⟨e,y,a⟩:=UV (N:=N) (c (x3.g m) (by simp)).is;refine G5 y ?_;rw[show 40-i=(39-i)+1 by omega]at f;by_cases o:e=0
 case neg=>exact ifT (by simp[o]) ⟨e,rfl,fun h=>Lq h o,fun h=>Lq (a.2 (f.1 h).1) o⟩
 refine ifF (by simp[o]) ?_;have hc:(if (41:Int)<((x3.g m).L.n:Int)then (41:Int)else ((x3.g m).L.n:Int))=((min 41 (x3.g m).L.n:Nat):Int):=by split<;>omega
 simp only[hc,Au1];refine Aa (G5 rfl (G5 (RL _ (by show min 41 _<N;omega) (by show min 41 _<1000000;omega)) ?_));generalize s:(x3.g m).L.take (min 41 (x3.g m).L.n)=C;have a0:C.n<=41:=by rw[<- s];exact Nat.min_le_left _ _
 refine Am9 (fun L z=>∃j,j<=C.n/\L=((List.range j).reverse.map fun (i:Nat)=>((i:Int),C.g i))/\z.n=m+(C.n-j)/\z.toList.reverse=C.toList.drop j++(x3.take m).toList.reverse) ?_ ?_ _ _ ⟨C.n,Au2 _,rfl,by show m=_;omega,by rw[Fp];rfl⟩
 .rintro z ⟨j,hj,hL,hz,b⟩;have u:j=0:=by
   cases j with
   |zero=>rfl
   |succ j=>simp[Az1]at hL
  subst u;rw[AI3]at b;refine hs (by omega) _ _ ⟨Li,by omega,fun q l=>?_,?_⟩
  .rw[b]at l;rcases List.mem_append.1 l with h|h
   .obtain⟨i',d,rfl⟩:=AE1.1 h;have d:=Aw6.1 d;rw[<- s]at d⊢;exact (c (x3.g m) (by simp)).L (Aw0 d (Nat.min_le_right _ _))
   exact c q (by simp[h])
  rw[b,f,show 40-(i+1)=39-i by omega,<- s,Ad8 (by omega)];exact⟨fun h=>h.2,fun h=>⟨a.1 o,h⟩⟩
 rintro t L z v ⟨j,hj,hL,hz,b⟩ w;cases j with
 |zero=>simp at hL
 |succ j=>rw[Az1,AB8,AK3,AK7,Av8]at hL;obtain⟨rfl,rfl⟩:=AM1 hL;have e1:(z.n:Int).toNat=z.n:=Au1 _;refine ifT ⟨⟨⟨by show (z.n+1)*64<=_;omega,by show z.n+1<=_;omega⟩,by show (0:Int)<=_/\(z.n:Int)<((z.n+1:Nat):Int);omega⟩,by show z.n<z.n+1;omega⟩ ?_;refine w _ ⟨j,by omega,rfl,by show z.n+1=_;omega,?_⟩;rw[Yr,b,GM C (i:=j) (by omega),Aw8]
end Go.AM
namespace Go.AM
open IntKind (wrap)
open Go.Proofs
def PB {N:Nat}{w:Sl Mh}(m:w.n<N)(hs:w.n<1000000){f:Mh->Option Bool}{b:Nat->Bool}(o:∀i,i<w.n->f (w.g i)=some (b i)) :∃r,B0 N w f=some r/\(r=true ↔ ∃i,i<w.n/\b i=true):=by
 unfold B0 C8
 have:∃y,At N (fun (a:Int->Option Int) (x1:Int)=>
  if (decide (x1<(w.n:Int))) then
   if ((0:Int)<=x1/\x1<(w.n:Int))then
    (f (w.g x1.toNat)).bind fun y3=>
    if y3 then
     some x1
    else
     a (wrap .i64 (x1+1))
   else none
  else
   some (-1)) 0=some y/\(0<=y ↔ ∃i,i<w.n/\b i=true):=by
  refine DL (fun i x1=>x1=(i:Int)/\∀j,j<i->b j=false) w.n _ m ⟨rfl,fun j c=>Lq c (by omega)⟩ ?_;rintro l i x1 q ⟨rfl,h⟩ d;by_cases hl:i<w.n
  .refine Ab (Aa (G5 (by rw[Au1];exact o i hl) ?_));cases hb:b i
   .refine Jx (d hl _ ⟨Li,fun j c=>?_⟩);by_cases e:j=i
    .subst e;exact hb
    exact h j (by omega)
   exact ifT rfl ⟨i,rfl,fun _=>⟨i,hl,hb⟩,fun _=>by omega⟩
  refine Fa ⟨-1,rfl,fun h=>Lq h (by decide),?_⟩;rintro⟨j,c,hb⟩;rw[h j (by omega)]at hb;cases hb
 obtain⟨y,e,hy⟩:=this;exact G5 e ⟨_,rfl,by rw[Mf];exact hy⟩
end Go.AM
namespace Go.AM
open Go.Proofs
def okL (l:Law):Prop:=okPS l.Left/\okPS l.Right/\∀i,i<l.If.n->okS (l.If.g i)
end Go.AM
namespace Go.AM
open Go.Proofs
def okO (x:AC):Prop:=okS x.Set/\(∃c:BitVec 32,x.Clear=(c.toNat:Int))/\∃t:BitVec 32,x.Take=(t.toNat:Int)
end Go.AM
namespace Go.AM
open Go.Proofs
def ne0 (x:BitVec 32):((x.toNat:Int) != 0)=decide (x≠0#32):=by rw[bne,eq0];simp
def or0 (x y:BitVec 32):x ||| y=0#32↔x=0#32/\y=0#32:=by
 constructor
 .intro h;have h:=(z32 _).1 h;exact⟨(z32 _).2 fun i a=>by have:=h i a;rw[AB7,AH1]at this;exact this.1,(z32 _).2 fun i a=>by have:=h i a;rw[AB7,AH1]at this;exact this.2⟩
 rintro⟨rfl,rfl⟩;rfl
def An0 (x y z:BitVec 32):x &&& (y ||| z)=(x &&& y) ||| (x &&& z):=by apply AB6;intro i a;simp only[AD9,AB7];cases x.getLsbD i<;>simp
def An1 (x y z:BitVec 32):(x ||| y) &&& z=(x &&& z) ||| (y &&& z):=by apply AB6;intro i a;simp only[AD9,AB7];cases z.getLsbD i<;>simp
def Tp {N:Nat}(j:1000<=N){x:AC}(hx:okO x)(k:Int):∃b,Aw N x k=some b/\DI N x k=some b:=by
 obtain⟨⟨a,b,d⟩,⟨c,hc⟩,t,ht⟩:=hx;have f:(16777215:Int)=((16777215#32).toNat:Int):=rfl;unfold Aw DI;simp only[lt,d,hc,ht,Pz,MS a b j,Av3];rw[f];simp only[JV,We,UA,ne0];by_cases h1:x.From < -1
 .simp[h1]
 by_cases g:k<=x.From
 .simp[h1,g]
 by_cases i:vB a b=true
 case neg=>simp[h1,g,i]
 simp only[h1,g,i,decide_false,Au4,Lz,AF8];rw[An1,An0 t];generalize ~~~16777215#32=M;by_cases g1:c &&& M=0#32
 case neg=>simp[g1,or0]
 by_cases g2:t &&& M=0#32
 case neg=>simp[g1,g2,or0]
 by_cases g3:c &&& (a ||| b)=0#32
 case neg=>simp[g1,g2,g3,or0]
 by_cases g4:t &&& (a ||| b)=0#32
 case neg=>simp[g1,g2,g3,g4,or0]
 by_cases g5:t &&& c=0#32
 case neg=>simp[g1,g2,g3,g4,g5,or0]
 simp[g1,g2,g3,g4,g5,or0];by_cases g6:t.toNat=0
 .simp only[g6,Ly];cases x.Of==0<;>simp
 simp only[g6,Lz];cases (decide (0<=x.Of)&&decide (x.Of<k))<;>simp
end Go.AM
namespace Go.AM
open Go.Proofs
abbrev nameC:Str:=[97,98,99,100,101,102,103,104,105,106,107,108,109,110,111,112,113,114,115,116,117,118,119,120,121,122,65,66,67,68,69,70,71,72,73,74,75,76,77,78,79,80,81,82,83,84,85,86,87,88,89,90,48,49,50,51,52,53,54,55,56,57,45]
def Wr {p:UInt8->Bool}:∀{l:Str},l.dropWhile p=[] ↔ ∀x∈l,p x=true
 |[]=>by simp
 |a::l=>by
  rw[List.dropWhile_cons];by_cases h:p a=true
  .rw[Ln h,Wr];simp[h]
  rw[Lp h];simp[h]
def Ys (l cs:Str):Lib.trimS l cs=[] ↔ ∀b∈l,cs.contains b=true:=by
 unfold Lib.trimS Lib.trimLeftS Lib.trimRightS;rw[Wr];constructor
 .intro h;have h:∀x∈l.reverse.dropWhile (cs.contains ·),cs.contains x=true:=fun x hx=>h x (AH0.2 hx);have a:l.reverse.dropWhile (cs.contains ·)=[]:=by
   rcases e:l.reverse.dropWhile (cs.contains ·)with _|⟨y,r⟩
   .rfl
   have c:=h y (by rw[e];simp);have d:¬cs.contains y=true:=by
    have:=List.head_dropWhile_not (cs.contains ·) (l:=l.reverse) (by rw[e];simp)
    simp only[e,List.head_cons]at this;rw[this];exact Bool.false_ne_true
   exact Lq c d
  rw[Wr]at a;exact fun b hb=>a b (AH0.2 hb)
 intro h x hx;have hx:=AH0.1 hx;exact h x (AH0.1 ((List.dropWhile_sublist _).mem hx))
def Ws:∀k:Fin 256,nameC.contains (UInt8.ofNat k.val)=NJ ((k.val:Nat):Int):=by decide +kernel
def Wt (b:UInt8):nameC.contains b=NJ ((b.toNat:Nat):Int):=by
 have:=Ws ⟨b.toNat,b.toNat_lt⟩
 rw[show UInt8.ofNat b.toNat=b by simp]at this;exact this
def PC {N:Nat}{s:Str}(n:s.length<N)(hs:s.length<1000000000):∃b,Bd N s=some b/\Ba N s=some b:=by
 have o:∃b,Ba N s=some b/\(b=true↔(∀c∈s,nameC.contains c=true)/\1<=s.length/\s.length<=24):=by
  unfold Ba;refine DL (fun i x1=>x1=(i:Int)/\∀j (h:j<s.length),j<i->nameC.contains s[j]=true) s.length _ n ⟨rfl,fun j _ a=>Lq a (by omega)⟩ ?_;rintro l i x1 v ⟨rfl,h⟩ f;by_cases hl:i<s.length
  .refine Ab (Aa ?_);have eb:Y2 s (i:Int)=((s[i].toNat:Nat):Int):=by simp[Y2,hl]
   by_cases hb:nameC.contains s[i]=true
   .refine ifF (by rw[eb];show ¬(!(NJ ((s[i].toNat:Nat):Int)))=true;rw[<- Wt,hb];simp) (f hl _ ⟨Li,fun j a q=>?_⟩);by_cases e:j=i
    .subst e;exact hb
    exact h j a (by omega)
   refine ifT ?_ ⟨false,rfl,by simp,fun t=>Lq (t.1 s[i] (AJ9 hl)) hb⟩;rw[eb];show (!(NJ ((s[i].toNat:Nat):Int)))=true;rw[<- Wt];simpa using hb
  refine Fa ⟨_,rfl,?_⟩;simp only[Au0,Mf];constructor
  .rintro⟨g1,g2⟩;refine⟨fun c hc=>?_,by omega,by omega⟩;obtain⟨j,a,rfl⟩:=AH6 hc;exact h j a (by omega)
  rintro⟨_,g1,g2⟩;exact⟨by omega,by omega⟩
 obtain⟨b,e,hb⟩:=o;refine⟨b,?_,e⟩
 suffices h:∃r,Bd N s=some r/\(r=true↔(∀c∈s,nameC.contains c=true)/\1<=s.length/\s.length<=24) by obtain⟨r,u,g⟩:=h;rw[u,show r=b by rw[Ax6,g,hb]]
 unfold Bd;refine ltX ?_;by_cases d:s=[]
 .exact ifF (by simp[d]) ⟨false,rfl,by simp[d]⟩
 refine ifT (by simp[d]) ?_;have m:0<s.length:=List.length_pos_iff.2 d;by_cases h1:s.length<=24
 .refine Ab (G5 (x:=Lib.trimS s nameC) ?_ ⟨_,rfl,?_⟩)
  .unfold Dh;rw[Ln ⟨by omega,by decide,by decide⟩]
  rw[<- Ys];constructor
  .intro h;exact⟨by simpa using h,by omega,h1⟩
  rintro⟨h,_⟩;simp[h]
 exact Fa ⟨false,rfl,by simp;intro _ _;omega⟩
end Go.AM
namespace Go.AM
variable {N:Nat}
open IntKind (wrap)
open Go.Proofs
def PD {s:Sl AC}(m:s.n<N)(hs:s.n<1000000){f:AC->Option Bool}{b:Nat->Bool}(o:∀i,i<s.n->f (s.g i)=some (b i)) :∃r,B9 N s f=some r/\(r=true ↔ ∃i,i<s.n/\b i=true):=by
 unfold B9 D9
 have:∃y,At N (fun (a:Int->Option Int) (x1:Int)=>
  if (decide (x1<(s.n:Int))) then
   if ((0:Int)<=x1/\x1<(s.n:Int))then
    (f (s.g x1.toNat)).bind fun y3=>
    if y3 then
     some x1
    else
     a (wrap .i64 (x1+1))
   else none
  else
   some (-1)) 0=some y/\(0<=y ↔ ∃i,i<s.n/\b i=true):=by
  refine DL (fun i x1=>x1=(i:Int)/\∀j,j<i->b j=false) s.n _ m ⟨rfl,fun j c=>Lq c (by omega)⟩ ?_;rintro l i x1 q ⟨rfl,h⟩ d;by_cases hl:i<s.n
  .refine Ab (Aa (G5 (by rw[Au1];exact o i hl) ?_));cases hb:b i
   .refine Jx (d hl _ ⟨Li,fun j c=>?_⟩);by_cases e:j=i
    .subst e;exact hb
    exact h j (by omega)
   exact ifT rfl ⟨i,rfl,fun _=>⟨i,hl,hb⟩,fun _=>by omega⟩
  refine Fa ⟨-1,rfl,fun h=>Lq h (by decide),?_⟩;rintro⟨j,c,hb⟩;rw[h j (by omega)]at hb;cases hb
 obtain⟨y,e,hy⟩:=this;exact G5 e ⟨_,rfl,by rw[Mf];exact hy⟩
def RM (l:Law):Prop:=okL l/\l.Name.length<1100000/\l.If.n<1100000/\l.Out.n<1100000/\∀i,i<l.Out.n->okO (l.Out.g i)
def UW {s:Mh}(hs:okS s):∃b,F5 N s=some b/\(b=true↔vS s):=by obtain⟨p,m,e⟩:=hs;exact⟨vB p m,by rw[e];exact Pz p m,(Yp e).symm⟩
def UX (a:1000<=N){s:Mh}(hs:okS s):∃b,T3 N s=some b/\(b=true↔vS s):=by obtain⟨p,m,e⟩:=hs;exact⟨vB p m,by rw[e];exact MS p m a,(Yp e).symm⟩
def An2 (N:Nat)(l:Law)(e:Int):Prop:=(e=0/\Fq N l) \/ (e=17/\¬Fq N l)
def MT (hN:3000000<=N){l:Law}(hl:RM l):∃e,R5 N l=some e/\An2 N l e:=by
 have u:=hl.2.1;have v:=hl.2.2.1;have x:=hl.2.2.2.1;unfold R5;obtain⟨b0,e0,e0'⟩:=PC (N:=N) (s:=l.Name) (by omega) (by omega);refine G5 e0 ?_;cases b0
 .exact ifT rfl ⟨17,rfl,.inr ⟨rfl,fun h=>by have:=h.1;rw[e0']at this;cases this⟩⟩
 refine Jx ?_;obtain⟨y2,e2,o⟩:=To (N:=N) (by omega) hl.1.1;refine G5 e2 ?_;by_cases c2:y2=0
 case neg=>exact ifT (by simpa using c2) ⟨17,rfl,.inr ⟨rfl,fun h=>c2 (o.2 h.2.1)⟩⟩
 refine ifF (by simp[c2]) ?_;obtain⟨y3,e3,q⟩:=To (N:=N) (by omega) hl.1.2.1;refine G5 e3 ?_;by_cases c3:y3=0
 case neg=>exact ifT (by simpa using c3) ⟨17,rfl,.inr ⟨rfl,fun h=>c3 (q.2 h.2.2.1)⟩⟩
 refine ifF (by simp[c3]) ?_;by_cases c4:4<l.If.n
 .exact Ab ⟨17,rfl,.inr ⟨rfl,fun h=>by have:=h.2.2.2.1;omega⟩⟩
 refine Fa ?_;by_cases c5:6<l.Out.n
 .exact Ab ⟨17,rfl,.inr ⟨rfl,fun h=>by have:=h.2.2.2.2.1;omega⟩⟩
 refine Fa ?_;rw[Am1 (by omega)];by_cases c6:l.If.n+l.Out.n=0
 .exact ifT (by rw[c6];rfl) ⟨17,rfl,.inr ⟨rfl,fun h=>h.2.2.2.2.2.1 c6⟩⟩
 refine Fa ?_;by_cases c7:l.Mode<1 \/ 3<l.Mode
 .exact Ab ⟨17,rfl,.inr ⟨rfl,fun h=>by have g1:=h.2.2.2.2.2.2.1;have g2:=h.2.2.2.2.2.2.2.1;omega⟩⟩
 refine Fa ?_;have y:∀i,∃b,i<l.If.n->W6 N (l.If.g i)=some b/\(b=true ↔ ¬vS (l.If.g i)):=by
  intro i;by_cases a:i<l.If.n
  .obtain⟨b,eb,hb⟩:=UW (N:=N) (hl.1.2.2 i a);refine⟨!b,fun _=>⟨by unfold W6;rw[eb];rfl,?_⟩⟩;rw[<- hb];simp
  exact⟨false,fun h=>Lq h a⟩
 obtain⟨f,j⟩:=AJ1 y;obtain⟨y4,e4,r⟩:=PB (N:=N) (w:=l.If) (by omega) (by omega) (f:=fun u1=>W6 N u1) (fun i a=>(j i a).1);refine G5 e4 ?_;cases c:y4
 case true=>obtain⟨i,a,hb⟩:=r.1 c;exact ifT rfl ⟨17,rfl,.inr ⟨rfl,fun h=>(j i a).2.1 hb (h.2.2.2.2.2.2.2.2.1 i a)⟩⟩
 refine Jx ?_;have z:∀i,∃b,i<l.Out.n->W7 N (l.Out.g i) (l.If.n:Int)=some b/\(b=true ↔ ¬Aw N (l.Out.g i) l.If.n=some true):=by
  intro i;by_cases a:i<l.Out.n
  .obtain⟨b,eb,_⟩:=Tp (N:=N) (by omega) (hl.2.2.2.2 i a) (l.If.n:Int);refine⟨!b,fun _=>⟨by unfold W7;rw[eb];rfl,?_⟩⟩;rw[eb];simp
  exact⟨false,fun h=>Lq h a⟩
 obtain⟨g,m⟩:=AJ1 z;obtain⟨y5,e5,t⟩:=PD (N:=N) (s:=l.Out) (by omega) (by omega) (f:=fun u2=>W7 N u2 (l.If.n:Int)) (fun i a=>(m i a).1);refine G5 e5 ?_;cases d:y5
 case true=>obtain⟨i,a,hb⟩:=t.1 d;exact ifT rfl ⟨17,rfl,.inr ⟨rfl,fun h=>(m i a).2.1 hb (h.2.2.2.2.2.2.2.2.2 i a)⟩⟩
 refine Jx ⟨0,rfl,.inl ⟨rfl,e0',o.1 c2,q.1 c3,by omega,by omega,c6,by omega,by omega,fun i a=>?_,fun i a=>?_⟩⟩
 .refine Ay8 fun hn=>?_
  have:=r.2 ⟨i,a,(j i a).2.2 hn⟩
  rw[c]at this;cases this
 refine Ay8 fun hn=>?_
 have:=t.2 ⟨i,a,(m i a).2.2 hn⟩
 rw[d]at this;cases this
def UY (y:3000000<=N){l:Law}(hl:RM l):∃e,Bb N l=some e/\An2 N l e:=by
 have u:=hl.2.1;have v:=hl.2.2.1;have w:=hl.2.2.2.1;unfold Bb;obtain⟨b0,e0,e0'⟩:=PC (N:=N) (s:=l.Name) (by omega) (by omega);refine G5 e0' (ltX ?_);cases b0
 .exact ifT rfl (ifT rfl ⟨17,rfl,.inr ⟨rfl,fun h=>by have:=h.1;rw[e0']at this;cases this⟩⟩)
 refine Jx ?_;obtain⟨y2,e2,q⟩:=PA (N:=N) (by omega) hl.1.1;refine G5 e2 ?_;by_cases c2:y2=0
 case neg=>exact ifT (by simpa using c2) (ifT rfl ⟨17,rfl,.inr ⟨rfl,fun h=>c2 (q.2 h.2.1)⟩⟩)
 refine ifF (by simp[c2]) ?_;obtain⟨y3,e3,r⟩:=PA (N:=N) (by omega) hl.1.2.1;refine G5 e3 ?_;by_cases c3:y3=0
 case neg=>exact ifT (by simpa using c3) ⟨17,rfl,.inr ⟨rfl,fun h=>c3 (r.2 h.2.2.1)⟩⟩
 refine ifF (by simp[c3]) ?_;rw[Am1 (by omega)];by_cases a:l.If.n<=4/\l.Out.n<=6/\l.If.n+l.Out.n≠0/\1<=l.Mode/\l.Mode<=3
 case neg=>refine ifT ?_ ⟨17,rfl,.inr ⟨rfl,fun h=>a ⟨h.2.2.2.1,h.2.2.2.2.1,h.2.2.2.2.2.1,h.2.2.2.2.2.2.1,h.2.2.2.2.2.2.2.1⟩⟩⟩;simp only[Aw5,Mf,beq_iff_eq];omega
 refine ifF (by simp only[Aw5,Mf,beq_iff_eq];omega) ?_;obtain⟨c4,c5,c6,c7,c8⟩:=a;refine DL (fun i x1=>x1=(i:Int)/\∀j,j<i->vS (l.If.g j)) l.If.n _ (by omega) ⟨rfl,fun j c=>Lq c (by omega)⟩ ?_;rintro t i x1 z ⟨rfl,h⟩ hs;by_cases d:i<l.If.n
 .obtain⟨b,eb,hb⟩:=UX (N:=N) (by omega) (hl.1.2.2 i d);refine Ab (Aa (G5 (by rw[Au1];exact eb) ?_));cases b
  .exact ifT rfl ⟨17,rfl,.inr ⟨rfl,fun h=>by have:=hb.2 (h.2.2.2.2.2.2.2.2.1 i d);cases this⟩⟩
  refine Jx (hs d _ ⟨Li,fun j c=>?_⟩);by_cases e:j=i
  .subst e;exact hb.1 rfl
  exact h j (by omega)
 refine Fa ?_;have x:∀j,j<l.If.n->vS (l.If.g j):=fun j c=>h j (by omega);refine DL (fun i x1=>x1=(i:Int)/\∀j,j<i->Aw N (l.Out.g j) l.If.n=some true) l.Out.n _ (by omega) ⟨rfl,fun j c=>Lq c (by omega)⟩ ?_;rintro m k x2 hk ⟨rfl,h'⟩ o;by_cases f:k<l.Out.n
 .obtain⟨b,eb,eb'⟩:=Tp (N:=N) (by omega) (hl.2.2.2.2 k f) (l.If.n:Int);refine Ab (Aa (G5 (by rw[Au1];exact eb') ?_));cases b
  .exact ifT rfl ⟨17,rfl,.inr ⟨rfl,fun h=>by have:=h.2.2.2.2.2.2.2.2.2 k f;rw[eb]at this;cases this⟩⟩
  refine Jx (o f _ ⟨Li,fun j c=>?_⟩);by_cases e:j=k
  .subst e;exact eb
  exact h' j (by omega)
 exact Fa ⟨0,rfl,.inl ⟨rfl,e0',q.1 c2,r.1 c3,c4,c5,c6,c7,c8,x,fun j c=>h' j (by omega)⟩⟩
def Wu {l:Law}{e e' : Int}(h:An2 N l e)(h' : An2 N l e'):e=e':=by
 rcases h with⟨rfl,h⟩ | ⟨rfl,h⟩<;>rcases h' with⟨rfl,h'⟩ | ⟨rfl,h'⟩
 .rfl
 .exact Lq h h'
 .exact Lq h' h
 rfl
def PE (a:3000000<=N){l:Law}(hl:RM l):∃e,R5 N l=some e/\Bb N l=some e/\An2 N l e:=by obtain⟨e,h,c⟩:=MT a hl;obtain⟨e',h',c'⟩:=UY a hl;obtain rfl:=Wu c c';exact⟨_,h,h',c⟩
end Go.AM
namespace Go.AM
open Go.Proofs
def nf:(!false)=true:=rfl
end Go.AM
namespace Go.AM
open Go.Proofs
def Wv (laws:Sl Law):Prop:=∀i,i<laws.n->RM (laws.g i)
def Tq (N:Nat)(laws:Sl Law):Prop:=laws.n<=64/\∀i,i<laws.n->Fq N (laws.g i)
end Go.AM
namespace Go.AM
open Go.Proofs
def dep:Nat->Pat->Prop
 |0,_=>False
 |d+1,p=>p.L.n<=40/\∀i,i<p.L.n->dep d (p.L.g i)
def Aa0:∀(d:Nat) (p:Pat),dep d p->∀e,d<=e->dep e p
 |0,_,h,_,_=>h.elim
 |d+1,p,h,0,he=>by omega
 |d+1,p,h,e+1,he=>⟨h.1,fun i a=>Aa0 d _ (h.2 i a) e (by omega)⟩
def PF {N:Nat}(o:1000<=N):∀(d:Nat),d<=40->∀(p:Pat) (M:Nat),N+d+2<=M->∃r:Nat,Ah M p ((40-d:Nat):Int)=some (r:Int)/\40-d<r/\r<=41/\(r<=40->dep (d+1) p)
 |d,hd,p,0,hM=>by omega
 |d,hd,p,M+1,hM=>by
  have:∃x,Ah (M+1) p ((40-d:Nat):Int)=some x/\∃r:Nat,x=(r:Int)/\40-d<r/\r<=41/\(r<=40->dep (d+1) p):=by
   show ∃x,AD (Ah M) M p _=some x/\_;unfold AD;rw[Li];refine Cb (fun i x1 x2=>x2=(i:Int)/\∃k:Nat,x1=(k:Int)/\40-d+1+i<=k/\k<=41/\i<=p.L.n/\(k<=40->∀j,j<i->dep d (p.L.g j))) 41 _ (by omega) ⟨rfl,40-d+1,rfl,by omega,by omega,by omega,fun _ j b=>Lq b (by omega)⟩ ?_;rintro f i x1 x2 q ⟨rfl,k,rfl,h1,c,s,l⟩ hs;by_cases hc:i<p.L.n/\k<=40
   .refine ifT (by simp only[Au0,Mf];omega) (Aa ?_);obtain⟨r,m,r1,r2,r3⟩:=PF o (40-k) (by omega) (p.L.g i) M (by omega);rw[show ((40-(40-k):Nat):Int)=(k:Int) by omega]at m;refine G5 (by rw[Au1];exact m) (hs (by omega) _ _ ⟨Li,r,rfl,by omega,r2,by omega,fun a j b=>?_⟩);by_cases e:j=i
    .subst e;exact Aa0 _ _ (r3 a) d (by omega)
    exact l hc.2 j (by omega)
   refine ifF (by simp only[Au0,Mf];omega) ⟨_,rfl,k,rfl,by omega,c,fun hk=>⟨by omega,fun j b=>l hk j (by omega)⟩⟩
  obtain⟨x,h1,r,rfl,c⟩:=this;exact⟨r,h1,c⟩
def Ko:∀(d:Nat) (p:Pat),dep d p->∀M,100+d<=M->∃r,V9 M p=some r
 |0,p,h,M,_=>h.elim
 |d+1,p,h,0,hM=>by omega
 |d+1,p,h,M+1,hM=>by
  suffices ∃r,V9 (M+1) p=some r/\True by obtain⟨r,h,_⟩:=this;exact⟨r,h⟩
  show ∃x,T5 (V9 M) M p=some x/\_;unfold T5;have hn:=h.1;refine Cb (fun i x1 x2=>x2=(i:Int)) p.L.n _ (by omega) rfl ?_;rintro a i x1 x2 c rfl hs;by_cases hl:i<p.L.n
  .obtain⟨r,b⟩:=Ko d (p.L.g i) (h.2 i hl) M (by omega);exact Ab (Aa (G5 (by rw[Au1];exact b) (hs hl _ _ (Li))))
  exact Fa ⟨_,rfl,trivial⟩
def Hh {N:Nat}(b:2000<=N)(p:Pat):∃r:Nat,V8 N p=some (r:Int)/\(r<=40->dep 41 p):=by obtain⟨r,h1,_,_,a⟩:=PF (N:=1000) (by omega) 40 (by omega) p N (by omega);exact⟨r,by unfold V8;rw[show Ah N p 0=some (r:Int) from h1];rfl,a⟩
def Yt {N:Nat}(f:2000<=N)(laws:Sl Law):∃r,Cj N laws=some r:=by
 suffices ∃r,Cj N laws=some r/\True by obtain⟨r,h,_⟩:=this;exact⟨r,h⟩
 unfold Cj;refine Cb (fun i x1 x2=>x2=(i:Int)) 301 _ (by omega) rfl ?_;rintro d i x1 x2 s rfl hs;by_cases hc:i<laws.n/\i<=300
 .refine ifT (by simp only[Au0,Mf];omega) (Aa ?_);refine Cb (fun j x7 x8=>x8=(j:Int)) 2 _ (by omega) rfl ?_;rintro b j x7 x8 t rfl a;by_cases hl:j<2
  .refine ifT (by show decide ((j:Int)<((2:Nat):Int))=true;simp;omega) (ifT (by show (0:Int)<=(j:Int)/\(j:Int)<((2:Nat):Int);omega) ?_);obtain⟨r,l,m⟩:=Hh f ((Sl.of [(laws.g (i:Int).toNat).Left,(laws.g (i:Int).toNat).Right]:Sl Pat).g (j:Int).toNat);refine G5 l ?_;by_cases c:r<=40
   .obtain⟨q,o⟩:=Ko 41 _ (m c) N (by omega);exact Ab (G5 o (a hl _ _ (Li)))
   exact Fa (a hl _ _ (Li))
  exact ifF (by show ¬decide ((j:Int)<((2:Nat):Int))=true;simp;omega) (hs (by omega) _ _ (Li))
 exact ifF (by simp only[Au0,Mf];omega) ⟨_,rfl,trivial⟩
end Go.AM
namespace Go.AM
variable {N:Nat}
open IntKind (wrap)
open Go.Proofs
def PG {s:Str}(m:s.length<N)(hs:s.length<1000000000){let_:Int->Option Bool}(hl:∀y,let_ y=some (NJ y)){fin:Bool}(n:fin=(decide (1<=s.length)&&decide (s.length<=24))) :At N (fun (a:Int->Option Bool) (x1:Int)=>
  if (decide (x1<(s.length:Int))) then
   if ((0:Int)<=x1/\x1<(s.length:Int))then
    (let_ (Y2 s x1)).bind fun y3=>
    if (!y3) then
     some false
    else
     a (wrap .i64 (x1+1))
   else none
  else
   some fin
 ) 0=some (Jz s):=by
 suffices h:∃b,At N (fun (a:Int->Option Bool) (x1:Int)=>
  if (decide (x1<(s.length:Int))) then
   if ((0:Int)<=x1/\x1<(s.length:Int))then
    (let_ (Y2 s x1)).bind fun y3=>
    if (!y3) then
     some false
    else
     a (wrap .i64 (x1+1))
   else none
  else
   some fin
  ) 0=some b/\b=Jz s by obtain⟨b,h,rfl⟩:=h;exact h
 refine DL (fun i x1=>x1=(i:Int)/\∀j (h:j<s.length),j<i->NJ ((s[j].toNat:Nat):Int)=true) s.length _ m ⟨rfl,fun j _ f=>Lq f (by omega)⟩ ?_;rintro l i x1 q ⟨rfl,h⟩ g;by_cases d:i<s.length
 .have eb:Y2 s (i:Int)=((s[i].toNat:Nat):Int):=by simp[Y2,d]
  refine Ab (Aa (G5 (hl _) ?_));rw[eb];cases hb:NJ ((s[i].toNat:Nat):Int)
  .refine ifT rfl ⟨false,rfl,?_⟩;symm;unfold Jz;rw[AK6]
   right
   rw[List.all_eq_false];exact⟨s[i],AJ9 d,by rw[hb];simp⟩
  refine Jx (g d _ ⟨Li,fun j f o=>?_⟩);by_cases e:j=i
  .subst e;exact hb
  exact h j f (by omega)
 refine Fa ⟨_,rfl,?_⟩;unfold Jz;rw[n]
 have:(s.all fun c=>NJ ((c.toNat:Nat):Int))=true:=Av0.2 fun c hc=>by obtain⟨j,f,rfl⟩:=AH6 hc;exact h j f (by omega)
 rw[this,AH3]
def Ww {s:Str}(a:s.length<N)(hs:s.length<1000000000):Bu N s=some (Jz s):=by unfold Bu;exact PG a hs (fun y=>rfl) (by rw[Ax6];simp;omega)
def Yu {s:Str}(a:s.length<N)(hs:s.length<1000000000):Cl N s=some (Jz s):=by unfold Cl;exact PG a hs (fun y=>rfl) (by rw[Ax6];simp;omega)
def UZ (t:Sl F0)(e:Int):Prop:=(e=0/\Z4 t) \/ (e=16/\¬Z4 t)
def Va {t:Sl F0}{e e' : Int}(h:UZ t e)(h' : UZ t e'):e=e':=by
 rcases h with⟨rfl,h⟩ | ⟨rfl,h⟩<;>rcases h' with⟨rfl,h'⟩ | ⟨rfl,h'⟩
 .rfl
 .exact Lq h h'
 .exact Lq h' h
 rfl
def Kq (t:Sl F0):Prop:=∀v,v<t.n->(t.g v).Name.length<1100000
def Wx (y:3000000<=N){t:Sl F0}(ht:Kq t):∃e,Ai N t=some e/\UZ t e:=by
 unfold Ai;by_cases z:t.n<1
 .exact ifT (fun h=>Lq h (by simp;omega)) (Ab ⟨16,rfl,.inr ⟨rfl,fun h=>by have:=h.1;omega⟩⟩)
 refine ifT (fun _ _=>by omega) ?_;by_cases h1:63<t.n
 .exact Ab ⟨16,rfl,.inr ⟨rfl,fun h=>by have:=h.2.1;omega⟩⟩
 by_cases m:(t.g 0).Parent = -1
 case neg=>exact ifT (by simp[m]) ⟨16,rfl,.inr ⟨rfl,fun h=>m ((h.2.2 0 (by omega)).1 rfl)⟩⟩
 refine ifF (by simp[m];omega) ?_;refine DL (fun i x1=>x1=(i:Int)/\∀j,j<i->Yv t j) t.n _ (by omega) ⟨rfl,fun j x=>Lq x (by omega)⟩ ?_;rintro f i x1 hi ⟨rfl,h⟩ hs;by_cases a:i<t.n
 case neg=>exact Fa ⟨0,rfl,.inl ⟨rfl,by omega,by omega,fun v hv=>h v (by omega)⟩⟩
 refine Ab (ltX ?_);have b:=Yu (N:=N) (s:=(t.g i).Name) (by have:=ht i a;omega) (by have:=ht i a;omega);have rest:(0<i->0<=(t.g i).Parent/\(t.g i).Parent<i)->∃r,(if (!Jz (t.g i).Name) then some 16 else
  At N (fun (d:Int->Option Int) (x7:Int)=>
   if (decide (x7<(i:Int))) then
    if (((0:Int)<=x7/\x7<(t.n:Int))/\((0:Int)<=(i:Int)/\(i:Int)<(t.n:Int)))then
     if (((t.g x7.toNat).Name==(t.g (i:Int).toNat).Name) != false) then
      some 16
     else
      d (wrap .i64 (x7+1))
    else none
   else
    f (wrap .i64 ((i:Int)+1))
   ) 0)=some r/\UZ t r:=by
  intro hp;cases hb:Jz (t.g i).Name
  .exact ifT rfl ⟨16,rfl,.inr ⟨rfl,fun h=>by have:=(h.2.2 i a).2.2.1;rw[hb]at this;cases this⟩⟩
  refine Jx ?_;refine DL (fun k x7=>x7=(k:Int)/\∀u,u<k->(t.g u).Name≠(t.g i).Name) i _ (by omega) ⟨rfl,fun u o=>Lq o (by omega)⟩ ?_;rintro q k x7 hk ⟨rfl,h'⟩ w;by_cases l:k<i
  .refine Ab (Aa ?_);rw[Au1,Au1];by_cases e:(t.g k).Name=(t.g i).Name
   .exact ifT (by simp[e]) ⟨16,rfl,.inr ⟨rfl,fun h=>(h.2.2 i a).2.2.2 k l e⟩⟩
   refine ifF (by simp[e]) (w l _ ⟨Li,fun u o=>?_⟩);by_cases e2:u=k
   .subst e2;exact e
   exact h' u (by omega)
  refine Fa (hs a _ ⟨Li,fun j x=>?_⟩);by_cases e:j=i
  .subst e;exact⟨fun e=>by subst e;exact m,hp,hb,fun u o=>h' u (by omega)⟩
  exact h j (by omega)
 by_cases c:0<i
 .refine Ab (Aa ?_);rw[Au1];by_cases g1:(t.g i).Parent<0
  .exact ifT (by simpa using g1) (ifT rfl ⟨16,rfl,.inr ⟨rfl,fun h=>by have:=((h.2.2 i a).2.1 c).1;omega⟩⟩)
  refine ifF (by simpa using g1) (Aa ?_);by_cases g2:(i:Int)<=(t.g i).Parent
  .exact ifT (by simpa using g2) (ifT rfl ⟨16,rfl,.inr ⟨rfl,fun h=>by have:=((h.2.2 i a).2.1 c).2;omega⟩⟩)
  exact ifF (by simpa using g2) (Aa (G5 b (rest fun _=>⟨by omega,by omega⟩)))
 exact Fa (Aa (G5 (by rw[Au1];exact b) (rest fun h=>Lq h c)))
def Il {ν : Type}{k s:Str}{v : ν}:∀es:List (Str × ν),BG eqS s (LP eqS k v es)=if s=k then some v else BG eqS s es
 |[]=>by simp only[LP,BG];by_cases h:s=k<;>simp[eqS,h]
 |(a,x)::es=>by
  simp only[LP];by_cases h:k=a
  .subst h;rw[Ln (by simp[eqS])];simp only[BG];by_cases b:s=k<;>simp[eqS,b]
  rw[Lp (by simp[eqS,h])];simp only[BG];rw[Il es];by_cases b:s=k
  .subst b;simp[eqS,h]
  simp[b]
def Tr {ν : Type}{k:Str}{v : ν}:∀{es:List (Str × ν)},BG eqS k es=none->(LP eqS k v es).length=es.length+1
 |[],_=>rfl
 |(a,x)::es,h=>by
  simp only[BG]at h;simp only[LP];by_cases e:eqS k a=true
  .rw[Ln e]at h;cases h
  rw[Lp e]at h;rw[Lp e,Aw7,Tr h];rfl
def Ts {ν : Type}{k:Str}{v x : ν}:∀{es:List (Str × ν)},BG eqS k es=some x->(LP eqS k v es).length=es.length
 |[],h=>by cases h
 |(a,y)::es,h=>by
  simp only[BG]at h;simp only[LP];by_cases e:eqS k a=true
  .rw[Ln e];rfl
  rw[Lp e]at h;rw[Lp e,Aw7,Ts h];rfl
def Wy (m:3000000<=N){t:Sl F0}(ht:Kq t):∃e,U1 N t=some e/\UZ t e:=by
 unfold U1;by_cases o:t.n=0 \/ 63<t.n
 .exact Ab ⟨16,rfl,.inr ⟨rfl,fun h=>by have g1:=h.1;have g2:=h.2.1;omega⟩⟩
 refine Fa ?_;refine Cb (fun i (x2:List (Str×Bool)) x3=>x3=(i:Int)/\(∀j,j<i->Yv t j)/\∀s,(BG eqS s x2=some true/\∃u,u<i/\(t.g u).Name=s) \/ (BG eqS s x2=none/\∀u,u<i->(t.g u).Name≠s)) t.n _ (by omega) ⟨rfl,fun j f=>Lq f (by omega),fun s=>.inr ⟨rfl,fun u c=>Lq c (by omega)⟩⟩ ?_;rintro l i x2 x3 q ⟨rfl,h,hm⟩ hs;by_cases a:i<t.n
 case neg=>exact Fa ⟨0,rfl,.inl ⟨rfl,by omega,by omega,fun v r=>h v (by omega)⟩⟩
 refine Ab (Aa (ltX ?_));rw[Au1];have b:=Ww (N:=N) (s:=(t.g i).Name) (by have:=ht i a;omega) (by have:=ht i a;omega);have e1:(if 0<wrap .i64 ((i:Int)-1)then (0:Int)else wrap .i64 ((i:Int)-1))=if i=0 then -1 else 0:=by rw[Q1 (by omega) (by omega)];split<;>split<;>omega
 rw[e1];by_cases g1:(i:Int)<=(t.g i).Parent
 .refine ifT (by simpa using g1) (ifT rfl ⟨16,rfl,.inr ⟨rfl,fun h=>?_⟩⟩);have hk:=h.2.2 i a;by_cases d:i=0
  .subst d;have:=hk.1 rfl;omega
  have:=(hk.2.1 (by omega)).2;omega
 refine ifF (by simpa using g1) ?_;by_cases g2:(t.g i).Parent<if i=0 then -1 else 0
 .refine ifT (by simpa using g2) (ifT rfl ⟨16,rfl,.inr ⟨rfl,fun h=>?_⟩⟩);have hk:=h.2.2 i a;by_cases d:i=0
  .subst d;have:=hk.1 rfl;simp at g2;omega
  have:=(hk.2.1 (by omega)).1;simp[d]at g2;omega
 refine ifF (by simpa using g2) (G5 b ?_);cases hb:Jz (t.g i).Name
 .exact ifT rfl (ifT rfl ⟨16,rfl,.inr ⟨rfl,fun h=>by have:=(h.2.2 i a).2.2.1;rw[hb]at this;cases this⟩⟩)
 refine Jx ?_;rcases hm (t.g i).Name with⟨e,u,c,hn⟩ | ⟨e,hn⟩
 .rw[e];exact⟨16,rfl,.inr ⟨rfl,fun h=>(h.2.2 i a).2.2.2 u c hn⟩⟩
 rw[e,Pp];refine ifF (show ¬false=true by simp) (hs a _ _ ⟨Li,fun j f=>?_,fun s=>?_⟩)
 .by_cases e:j=i
  .subst e;refine⟨fun e=>?_,fun hp=>?_,hb,hn⟩
   .subst e;simp at g2;omega
   have:¬j=0:=by omega
   simp[this]at g2;omega
  exact h j (by omega)
 rw[Il];by_cases e:s=(t.g i).Name
 .exact .inl ⟨by rw[Ln e],i,by omega,e.symm⟩
 rw[Lp e];rcases hm s with⟨g,u,c,hn⟩ | ⟨g,hn⟩
 .exact .inl ⟨g,u,by omega,hn⟩
 refine .inr ⟨g,fun u c=>?_⟩;by_cases e2:u=i
 .subst e2;exact fun h=>e h.symm
 exact hn u (by omega)
def NK (a:3000000<=N){t:Sl F0}(ht:Kq t):∃e,U1 N t=some e/\Ai N t=some e/\UZ t e:=by obtain⟨e,h1,b⟩:=Wy a ht;obtain⟨e',c,d⟩:=Wx a ht;obtain rfl:=Va b d;exact⟨_,h1,c,b⟩
end Go.AM
namespace Go.AM
open IntKind (wrap)
open Go.Proofs
structure CU (h:A6):Prop where
 laws:Wv h.Laws
 tree:Kq h.Tree
 on:h.On.n<1100000
 len:∀v,v<h.On.n->(h.On.g v).n<1100000
def Be {h:A6}{v:Nat}(a:(h.Tree.g v).Parent<0):N8 h v=(Sl.nil:Sl Int).app (h.On.g v):=by rw[N8,dif_neg (by omega)]
def Ek {h:A6}{v p:Nat}(a:(h.Tree.g v).Parent=(p:Int))(hp:p<v):N8 h v=(N8 h p).app (h.On.g v):=by rw[N8,dif_pos (by omega),a,Au1]
def Q2 {t:Sl F0}(ht:Z4 t){v:Nat}(a:v<t.n):(v=0/\(t.g v).Parent = -1) \/ ∃p:Nat,p<v/\(t.g v).Parent=(p:Int):=by
 have hk:=ht.2.2 v a;by_cases b:v=0
 .subst b;exact .inl ⟨rfl,hk.1 rfl⟩
 obtain⟨g1,g2⟩:=hk.2.1 (by omega);exact .inr ⟨(t.g v).Parent.toNat,by omega,by omega⟩
def RN {h:A6}(a:CU h)(ht:Z4 h.Tree)(hn:h.On.n=h.Tree.n):∀(m v:Nat),v<=m->v<h.Tree.n->(N8 h v).n<=(v+1)*1100000
 |m,v,hm,hv=>by
  have hl:=a.len v (by omega);rcases Q2 ht hv with⟨_,e⟩ | ⟨p,hp,e⟩
  .rw[Be (by omega)];show 0+(h.On.g v).n<=_;omega
  rw[Ek e hp]
  match m with
  |0=>omega
  |m+1=>
   have:=RN a ht hn m p (by omega) (by omega)
   show (N8 h p).n+(h.On.g v).n<=_;have b:(p+1)*1100000+1100000<=(v+1)*1100000:=by omega
   omega
def Kr {h:A6}(a:CU h)(ht:Z4 h.Tree)(hn:h.On.n=h.Tree.n):∀(M v:Nat),v+2<=M->v<h.Tree.n->Au M h (v:Int)=some (N8 h v)
 |0,v,hM,_=>by omega
 |M+1,v,hM,hv=>by
  have b:=ht.2.1;show T7 (Au M) M h (v:Int)=_;unfold T7;rw[Lp (by simp),Lj,Au1];have hl:=a.len v (by omega);rcases Q2 ht hv with⟨c,e⟩ | ⟨p,hp,e⟩
  .rw[e,Be (by omega)]
   have:Au M h (-1)=some (Sl.nil:Sl Int):=by obtain⟨K,rfl⟩:∃K,M=K+1:=⟨M-1,by omega⟩;show T7 (Au K) K h (-1)=_;unfold T7;rw[Ln (by decide)]
   rw[this,Av3,Ln ⟨by omega,by show (0+(h.On.g v).n)*8<=_/\0+(h.On.g v).n<=_;omega⟩]
  have hb:=RN a ht hn p p (Au2 _) (by omega);rw[e,Kr a ht hn M p (by omega) (by omega),Av3,Ek e hp,Ln ⟨by omega,by omega⟩]
def Wz (h:A6)(e:Int):Prop:=(RO h/\e=2) \/ (¬RO h/\(∃v,v<h.On.n/\Ad9 h v)/\e=3) \/ (¬RO h/\(∀v,v<h.On.n->¬Ad9 h v)/\e=0)
def WA {N:Nat}(hN:3000000<=N){h:A6}(hi:CU h)(ht:Z4 h.Tree)(hn:h.On.n=h.Tree.n):∃e,U2 N h=some e/\Wz h e:=by
 have h63:=ht.2.1;unfold U2;refine Aa ?_;refine Ad3 (fun i (x4:Sl Int) (x5:Bool) x6=>x6=(i:Int)/\x4.n=h.On.n/\(∀v,v<i->x4.g v=((N8 h v).n:Int)/\(N8 h v).n<=64)/\(x5=true ↔ ∃v,v<i/\Ad9 h v)) h.On.n _ (by omega) ⟨rfl,by show ((h.On.n:Nat):Int).toNat=_;omega,fun v b=>Lq b (by omega),⟨fun g=>(by cases g),fun⟨v,b,_⟩=>Lq b (by omega)⟩⟩ ?_;rintro m i x4 x5 x6 hle ⟨rfl,hx,hp,hb⟩ hs;by_cases o:i<h.On.n
 case neg=>
  refine Fa ?_;have hl:¬RO h:=fun⟨v,b,hl⟩=>by have:=(hp v (by omega)).2;omega
  cases x5
  .exact Jx ⟨0,rfl,.inr (.inr ⟨hl,fun v b g=>(by have:=hb.2 ⟨v,by omega,g⟩;cases this),rfl⟩)⟩
  obtain⟨v,b,g⟩:=hb.1 rfl;exact ifT rfl ⟨3,rfl,.inr (.inl ⟨hl,⟨v,by omega,g⟩,rfl⟩)⟩
 refine Ab (ifT (by rw[Au1];omega) (Aa (ltX ?_)));rw[Au1];have hl:=hi.len i (by omega);have hlb:=RN hi ht hn i i (Au2 _) (by omega);have rest:∀z:Sl Int,z.n=h.On.n->(∀v,v<i->z.g v=x4.g v)->z.g i=((N8 h i).n:Int)->∃r,(if (((0:Int)<=(i:Int)/\(i:Int)<(z.n:Int))/\i<z.n)then
  if (decide (64<(z.g i))) then
   some 2
  else
   Bq N (fun (d:Bool->Int->Option Int) (c:Bool) (a:Int)=>
    if (decide (a<((h.On.g i).n:Int))) then
     if ((0:Int)<=a/\a<((h.On.g i).n:Int))then
      d ((c||(decide (((h.On.g i).g a.toNat)<0)))||(decide ((h.Laws.n:Int)<=((h.On.g i).g a.toNat)))) (wrap .i64 (a+1))
     else none
    else
     m z c (wrap .i64 ((i:Int)+1))
    ) x5 0
  else none)=some r/\Wz h r:=by
  intro z hz u q;refine Aa ?_;rw[q];by_cases w:64<(N8 h i).n
  .exact Ab ⟨2,rfl,.inl ⟨⟨i,o,w⟩,rfl⟩⟩
  refine Fa ?_;refine Cb (fun k (c:Bool) a=>a=(k:Int)/\(c=true↔(∃v,v<i/\Ad9 h v) \/ ∃j,j<k/\j<(h.On.g i).n/\((h.On.g i).g j<0 \/ (h.Laws.n:Int)<=(h.On.g i).g j))) (h.On.g i).n _ (by omega) ⟨rfl,hb.trans ⟨fun g=>.inl g,fun g=>g.resolve_right fun⟨j,f,_⟩=>Lq f (by omega)⟩⟩ ?_;rintro x k c a hk ⟨rfl,s⟩ y;by_cases l:k<(h.On.g i).n
  .refine Ab (Aa (y l _ _ ⟨Li,?_⟩));rw[Au1,Aw5,Aw5,s,Mf,Mf];constructor
   .rintro (((g|⟨j,f,g⟩)|g)|g)
    .exact .inl g
    .exact .inr ⟨j,by omega,g⟩
    .exact .inr ⟨k,by omega,l,.inl g⟩
    exact .inr ⟨k,by omega,l,.inr g⟩
   rintro (g|⟨j,f,a0,g⟩)
   .exact .inl (.inl (.inl g))
   by_cases e:j=k
   .subst e;rcases g with g|g
    .exact .inl (.inr g)
    exact .inr g
   exact .inl (.inl (.inr ⟨j,by omega,a0,g⟩))
  refine Fa (hs o _ _ _ ⟨Li,hz,fun v b=>?_,s.trans ?_⟩)
  .by_cases e:v=i
   .subst e;exact⟨q,by omega⟩
   rw[u v (by omega)];exact hp v (by omega)
  constructor
  .rintro (⟨v,b,g⟩ | ⟨j,_,f,g⟩)
   .exact⟨v,by omega,g⟩
   exact⟨i,by omega,j,f,g⟩
  rintro⟨v,b,g⟩;by_cases e:v=i
  .subst e;obtain⟨j,f,g⟩:=g;exact .inr ⟨j,by omega,f,g⟩
  exact .inl ⟨v,by omega,g⟩
 rcases Q2 ht (v:=i) (by omega)with⟨_,e⟩ | ⟨p,t,e⟩
 .rw[e];refine K8 (rest _ hx (fun v b=>?_) ?_)
  .show (if v=i then _ else x4.g v)=_;rw[Lk]
  show (if i=i then ((h.On.g i).n:Int)else _)=_;rw[Ln rfl,Be (by omega)];show _=((0+(h.On.g i).n:Nat):Int);omega
 have a1:=hp p t;rw[e];refine An (ifT ?_ ?_)
 .show ((((((0:Int)<=(i:Int)/\(i:Int)<(x4.n:Int))/\i<x4.n)/\(0:Int)<=(p:Int)/\(p:Int)<(x4.n:Int))/\(p:Int).toNat<x4.n)/\(0:Int)<=(i:Int)/\(i:Int)<(x4.n:Int))/\i<x4.n;omega
 rw[Au1];refine rest _ hx (fun v b=>?_) ?_
 .show (if v=i then _ else if v=i then _ else x4.g v)=_;rw[Lk,Lk]
 show (if i=i then wrap .i64 ((if i=i then ((h.On.g i).n:Int)else _)+(if p=i then _ else x4.g p))else _)=_;rw[Ln rfl,Ln rfl,Lk,a1.1,Ek e t,Q1 (by omega) (by omega)];show _=(((N8 h p).n+(h.On.g i).n:Nat):Int);omega
end Go.AM
namespace Go.AM
variable {N:Nat}
open Go.Proofs
structure IT (N:Nat) (h:A6):Prop where
 tree:Z4 h.Tree
 laws:Tq N h.Laws
 dup:¬Ak7 h h.Laws.n
 on:h.On.n=h.Tree.n
 long:¬RO h
 bad:∀v,v<h.On.n->¬Ad9 h v
def hres_zero {h:A6}:hres N h=0↔IT N h:=by
 unfold hres;constructor
 .intro g;split at g
  .cases g
  split at g
  .cases g
  split at g
  .cases g
  split at g
  .cases g
  split at g
  .cases g
  split at g
  .cases g
  split at g
  .cases g
  rename_i h1 n c d f j l;exact⟨AI7.1 h1,⟨by omega,fun i a=>Ay8 fun hn=>c ⟨i,a,hn⟩⟩,d,AI7.1 f,j,fun v b hb=>l ⟨v,b,hb⟩⟩
 intro g;have m:=g.laws.1;rw[Lp (fun k=>k g.tree),Lk,Lp (fun⟨i,a,hn⟩=>hn (g.laws.2 i a)),Lp g.dup,Lp (fun k=>k g.on),Lp g.long,Lp (fun⟨v,b,hb⟩=>g.bad v b hb)]
def DM {h:A6}(h1:Z4 h.Tree)(a:Tq N h.Laws)(b:¬Ak7 h h.Laws.n)(c:h.On.n=h.Tree.n){e:Int}(d:Wz h e):e=hres N h:=by
 have f:=a.1;unfold hres;rw[Lp (fun k=>k h1),Lk,Lp (fun⟨i,j,hn⟩=>hn (a.2 i j)),Lp b,Lp (fun k=>k c)];rcases d with⟨g,rfl⟩ | ⟨g,g2,rfl⟩ | ⟨g,g2,rfl⟩
 .rw[Ln g]
 .rw[Lp g,Ln g2]
 rw[Lp g,Lp (fun⟨v,l,hb⟩=>g2 v l hb)]
def Im (z:3000000<=N){h:A6}(o:CU h):J0 N h=some (hres N h):=by
 suffices g:∃r,J0 N h=some r/\r=hres N h by obtain⟨r,g,rfl⟩:=g;exact g
 obtain⟨e,e1,_,he⟩:=NK z o.tree;unfold J0;refine G5 e1 ?_;rcases he with⟨rfl,ht⟩ | ⟨rfl,ht⟩
 case inr=>exact Bh ⟨16,rfl,by unfold hres;rw[Ln ht]⟩
 refine K8 ?_;by_cases c:64<h.Laws.n
 .exact Ab ⟨12,rfl,by unfold hres;rw[Lp (fun k=>k ht),Ln c]⟩
 refine Fa ?_;refine Cb (fun i (x1:List (Str×Int)) x2=>x2=(i:Int)/\(∀j,j<i->Fq N (h.Laws.g j))/\(∀s,(BG eqS s x1=none/\∀u,u<i->(h.Laws.g u).Name≠s) \/ (∃v,BG eqS s x1=some v)/\∃u,u<i/\(h.Laws.g u).Name=s)/\((Ak7 h i/\x1.length<i) \/ (¬Ak7 h i/\x1.length=i))) h.Laws.n _ (by omega)
  ⟨rfl,fun j hj=>Lq hj (by omega),fun s=>.inl ⟨rfl,fun u q=>Lq q (by omega)⟩,.inr ⟨fun⟨u,v,_,hv,_⟩=>Lq hv (by omega),rfl⟩⟩ ?_
 rintro self i x1 x2 hle ⟨rfl,hc,hm,hl⟩ hs;by_cases d:i<h.Laws.n
 .obtain⟨y,y1,_,hy⟩:=PE z (o.laws i d);refine Ab (Aa (G5 (by rw[Au1];exact y1) ?_));rcases hy with⟨rfl,hy⟩ | ⟨rfl,hy⟩
  case inr=>exact Bh ⟨17,rfl,by unfold hres;rw[Lp (fun k=>k ht),Lp c,Ln ⟨i,d,hy⟩]⟩
  refine K8 ?_;rw[Au1];have t : ∀j,j<i+1->Fq N (h.Laws.g j):=fun j hj=>by
   by_cases e:j=i
   .subst e;exact hy
   exact hc j (by omega)
  have look:∀(v:Int) (s:Str),(BG eqS s (LP eqS (h.Laws.g i).Name v x1)=none/\∀u,u<i+1->(h.Laws.g u).Name≠s) \/ (∃w,BG eqS s (LP eqS (h.Laws.g i).Name v x1)=some w)/\∃u,u<i+1/\(h.Laws.g u).Name=s:=by
   intro v s;rw[Il];by_cases e:s=(h.Laws.g i).Name
   .exact .inr ⟨⟨v,by rw[Ln e]⟩,i,by omega,e.symm⟩
   rw[Lp e];rcases hm s with⟨g,g2⟩ | ⟨g,u,q,g2⟩
   .refine .inl ⟨g,fun u q=>?_⟩;by_cases e2:u=i
    .subst e2;exact fun k=>e k.symm
    exact g2 u (by omega)
   exact .inr ⟨g,u,by omega,g2⟩
  rcases hm (h.Laws.g i).Name with⟨g,g2⟩ | ⟨⟨v,g⟩,u,q,g2⟩
  .rw[g,Pp];refine hs d _ _ ⟨Li,t,look _,?_⟩;rw[Tr g];rcases hl with⟨⟨a,b,f,hb,hn⟩,hl⟩ | ⟨m,hl⟩
   .exact .inl ⟨⟨a,b,f,by omega,hn⟩,by omega⟩
   refine .inr ⟨fun⟨a,b,f,hb,hn⟩=>?_,by omega⟩;by_cases e:b=i
   .subst e;exact g2 a f hn
   exact m ⟨a,b,f,by omega,hn⟩
  rw[g,Wf];refine hs d _ _ ⟨Li,t,look _,?_⟩;rw[Ts g];refine .inl ⟨⟨u,i,q,by omega,g2⟩,?_⟩;rcases hl with⟨_,hl⟩ | ⟨_,hl⟩<;>omega
 obtain rfl:i=h.Laws.n:=by omega
 have hok:Tq N h.Laws:=⟨by omega,hc⟩;have x:¬ ∃i,i<h.Laws.n/\¬Fq N (h.Laws.g i):=fun⟨i,o,hn⟩=>hn (hc i o);refine Jx ?_;rw[Rk];rcases hl with⟨m,hl⟩ | ⟨m,hl⟩
 .exact Ab ⟨6,rfl,by unfold hres;rw[Lp (fun k=>k ht),Lp c,Lp x,Ln m]⟩
 refine Fa ?_;by_cases l:h.On.n=h.Tree.n
 case neg=>exact Ab ⟨2,rfl,by unfold hres;rw[Lp (fun k=>k ht),Lp c,Lp x,Lp m,Ln l]⟩
 refine ifF (by simp[l]) ?_;obtain⟨e,e1,he⟩:=WA z o ht l;exact G5 e1 ⟨e,rfl,DM ht hok m l he⟩
def PH (hN:3000000<=N){h:A6}(q:CU h):Aj N h=some (hres N h):=by
 suffices g:∃r,Aj N h=some r/\r=hres N h by obtain⟨r,g,rfl⟩:=g;exact g
 obtain⟨e,_,e1,he⟩:=NK hN q.tree;unfold Aj;refine G5 e1 ?_;rcases he with⟨rfl,ht⟩ | ⟨rfl,ht⟩
 case inr=>exact Bh ⟨16,rfl,by unfold hres;rw[Ln ht]⟩
 refine K8 ?_;by_cases f:64<h.Laws.n
 .exact Ab ⟨12,rfl,by unfold hres;rw[Lp (fun k=>k ht),Ln f]⟩
 refine Fa ?_;refine DL (fun i x1=>x1=(i:Int)/\∀j,j<i->Fq N (h.Laws.g j)) h.Laws.n _ (by omega) ⟨rfl,fun j s=>Lq s (by omega)⟩ ?_;rintro self i x1 hle ⟨rfl,hc⟩ hs;by_cases a:i<h.Laws.n
 .obtain⟨y,_,y1,hy⟩:=PE hN (q.laws i a);refine Ab (Aa (G5 (by rw[Au1];exact y1) ?_));rcases hy with⟨rfl,hy⟩ | ⟨rfl,hy⟩
  case inr=>exact Bh ⟨17,rfl,by unfold hres;rw[Lp (fun k=>k ht),Lp f,Ln ⟨i,a,hy⟩]⟩
  refine K8 (hs a _ ⟨Li,fun j s=>?_⟩);by_cases e:j=i
  .subst e;exact hy
  exact hc j (by omega)
 obtain rfl:i=h.Laws.n:=by omega
 have l:Tq N h.Laws:=⟨by omega,hc⟩;have w:¬ ∃i,i<h.Laws.n/\¬Fq N (h.Laws.g i):=fun⟨i,q,hn⟩=>hn (hc i q);refine Jx ?_;refine DL (fun i x1=>x1=(i:Int)/\¬Ak7 h i) h.Laws.n _ (by omega) ⟨rfl,fun⟨u,v,_,d,_⟩=>Lq d (by omega)⟩ ?_;rintro a3 i x1 hle2 ⟨rfl,t⟩ a4;by_cases a:i<h.Laws.n
 .refine Ab ?_;refine DL (fun k x5=>x5=(k:Int)/\∀u,u<k->(h.Laws.g u).Name≠(h.Laws.g i).Name) i _ (by omega) ⟨rfl,fun u hu=>Lq hu (by omega)⟩ ?_;rintro a5 k x5 hk ⟨rfl,x⟩ a6;by_cases z:k<i
  .refine Ab (Aa ?_);rw[Au1,Au1];by_cases e:(h.Laws.g k).Name=(h.Laws.g i).Name
   .exact ifT (by simp[e]) ⟨6,rfl,by unfold hres;rw[Lp (fun k=>k ht),Lp f,Lp w,Ln ⟨k,i,z,a,e⟩]⟩
   refine ifF (by simp;exact fun g=>e g.symm) (a6 z _ ⟨Li,fun u hu=>?_⟩);by_cases e2:u=k
   .subst e2;exact e
   exact x u (by omega)
  refine Fa (a4 a _ ⟨Li,fun⟨u,v,a7,d,hn⟩=>?_⟩);by_cases e:v=i
  .subst e;exact x u (by omega) hn
  exact t ⟨u,v,a7,by omega,hn⟩
 obtain rfl:i=h.Laws.n:=by omega
 refine Jx ?_;by_cases b:h.On.n=h.Tree.n
 case neg=>exact Ab ⟨2,rfl,by unfold hres;rw[Lp (fun k=>k ht),Lp f,Lp w,Lp t,Ln b]⟩
 refine ifF (by simp[b]) ?_;have h63:=ht.2.1;refine DL (fun i x1=>x1=(i:Int)/\∀v,v<i->¬ 64<(N8 h v).n) h.On.n _ (by omega) ⟨rfl,fun v d=>Lq d (by omega)⟩ ?_;rintro a8 i x1 hle3 ⟨rfl,a0⟩ a9;by_cases a:i<h.On.n
 .refine Ab (G5 (Kr q ht b N i (by omega) (by omega)) ?_);by_cases hg:64<(N8 h i).n
  .exact Ab ⟨2,rfl,DM ht l t b (.inl ⟨⟨i,a,hg⟩,rfl⟩)⟩
  refine Fa (a9 a _ ⟨Li,fun v d=>?_⟩);by_cases e:v=i
  .subst e;exact hg
  exact a0 v (by omega)
 refine Fa ?_;have m:¬RO h:=fun⟨v,d,g⟩=>a0 v (by omega) g;refine DL (fun i x1=>x1=(i:Int)/\∀v,v<i->¬Ad9 h v) h.On.n _ (by omega) ⟨rfl,fun v d=>Lq d (by omega)⟩ ?_;rintro b0 i x1 hle4 ⟨rfl,a1⟩ b1;by_cases c:i<h.On.n
 .have hl:=q.len i c;refine Ab ?_;refine DL (fun k x1=>x1=(k:Int)/\∀j,j<k->¬((h.On.g i).g j<0 \/ (h.Laws.n:Int)<=(h.On.g i).g j)) (h.On.g i).n _ (by omega) ⟨rfl,fun j s=>Lq s (by omega)⟩ ?_;rintro b2 k x1 hk ⟨rfl,a2⟩ b3;refine Aa ?_;rw[Au1,Au1];by_cases o:k<(h.On.g i).n
  .refine Ab (Aa ?_);by_cases g1:(h.On.g i).g k<0
   .exact ifT (by simpa using g1) ⟨3,rfl,DM ht l t b (.inr (.inl ⟨m,⟨i,c,k,o,.inl g1⟩,rfl⟩))⟩
   refine ifF (by simpa using g1) (Aa ?_);by_cases g2:(h.Laws.n:Int)<=(h.On.g i).g k
   .exact ifT (by simpa using g2) ⟨3,rfl,DM ht l t b (.inr (.inl ⟨m,⟨i,c,k,o,.inr g2⟩,rfl⟩))⟩
   refine ifF (by simpa using g2) (b3 o _ ⟨Li,fun j s=>?_⟩);by_cases e:j=k
   .subst e;exact fun g=>g.elim g1 g2
   exact a2 j (by omega)
  refine Fa (b1 c _ ⟨Li,fun v d=>?_⟩);by_cases e:v=i
  .subst e;exact fun⟨j,s,g⟩=>a2 j (by omega) g
  exact a1 v (by omega)
 exact Fa ⟨0,rfl,DM ht l t b (.inr (.inr ⟨m,fun v d=>a1 v (by omega),rfl⟩))⟩
end Go.AM
namespace Go.AM
open IntKind (wrap)
open Go.Proofs
def Vb (t:Sl F0)(v:Nat):List Nat:= if hp:0<=(t.g v).Parent/\(t.g v).Parent<v then Vb t (t.g v).Parent.toNat++[v]else [v]
termination_by v
decreasing_by omega
def Hi {t:Sl F0}{v:Nat}(a:(t.g v).Parent<0):Vb t v=[v]:=by rw[Vb,dif_neg (by omega)]
def NL {t:Sl F0}{v p:Nat}(a:(t.g v).Parent=(p:Int))(hp:p<v):Vb t v=Vb t p++[v]:=by rw[Vb,dif_pos (by omega),a,Au1]
def RQ {t:Sl F0}(ht:Z4 t):∀(m v:Nat),v<=m->v<t.n->∀x∈Vb t v,x<=v
 |m,v,hm,hv,x,hx=>by
  rcases Q2 ht hv with⟨_,e⟩ | ⟨p,hp,e⟩
  .rw[Hi (by omega)]at hx;simp at hx;omega
  rw[NL e hp]at hx;rcases List.mem_append.1 hx with hx|hx
  .match m with
   |0=>omega
   |m+1=>have:=RQ ht m p (by omega) (by omega) x hx;omega
  simp at hx;omega
def Yw {α : Type}{x:Sl α}{m:Nat}(h:x.n=m+1):x.toList.reverse=x.g m::(x.take m).toList.reverse:=by unfold Sl.toList;rw[h,Az1,AD0,AB8];rfl
def Tt {x2:Sl Int}(hx:x2.n<100000):∀(k M:Nat),k<=x2.n->k<M->At M (fun (a:Int->Option (List Int)) (x3:Int)=>
 if (decide (0<=x3)) then
  if (((0:Int)<=x3/\x3<(x2.n:Int))/\x3.toNat<x2.n)then
   Fo (x2.g x3.toNat) (
    a (wrap .i64 (x3-1))
    )
  else none
 else
  some []
 ) ((k:Int)-1)=some (x2.take k).toList.reverse
 |0,M,hk,hM=>by obtain⟨M,rfl⟩:∃K,M=K+1:=⟨M-1,by omega⟩;rw[Co,Lp (by simp)];rfl
 |k+1,M,hk,hM=>by obtain⟨M,rfl⟩:∃K,M=K+1:=⟨M-1,by omega⟩;rw[show ((k+1:Nat):Int)-1=(k:Int) by omega,Co,Ln (by simp),Ln ⟨by omega,by omega⟩,Q1 (by omega) (by omega),Tt hx k M (by omega) (by omega),Au1,Yw (x:=x2.take (k+1)) (m:=k) rfl];rfl
def WB {N:Nat}(j:3000000<=N){t:Sl F0}(ht:Z4 t){v:Nat}(f:v<t.n):N9 N (v:Int) t=some ((Vb t v).map fun (x:Nat)=>(x:Int)):=by
 have i:=ht.2.1;have key:∀(m c:Nat) (x2:Sl Int) (M:Nat),c<m->c<t.n->m+1<M->x2.n+c<=1000->∃y:Sl Int,y.n<=1001/\y.toList.reverse=((Vb t c).map fun (x:Nat)=>(x:Int))++x2.toList.reverse /\
  Bq M (fun (a:Int->Sl Int->Option (List Int)) (x1:Int) (x2:Sl Int)=>
  if (decide (0<=x1)) then
   if (((x2.n+(Sl.of [x1]:Sl Int).n)*8<=140737488355328/\x2.n+(Sl.of [x1]:Sl Int).n<=140737488355328)/\((0:Int)<=x1/\x1<(t.n:Int)))then
    a (t.g x1.toNat).Parent (x2.push x1)
   else none
  else
   At N (fun b (x3:Int)=>
    if (decide (0<=x3)) then
     if (((0:Int)<=x3/\x3<(x2.n:Int))/\x3.toNat<x2.n)then
      Fo (x2.g x3.toNat) (
       b (wrap .i64 (x3-1))
       )
     else none
    else
     some []
    ) (wrap .i64 ((x2.n:Int)-1))
  ) (c:Int) x2=some y.toList.reverse:=by
  intro m
  induction m with
  |zero=>exact fun c _ _ h=>Lq h (by omega)
  |succ m ih=>
   intro c x2 M hc d l hx;obtain⟨M,rfl⟩:∃K,M=K+1:=⟨M-1,by omega⟩;rw[Po,Ln (by simp),Ln ⟨by show (x2.n+1)*8<=_/\x2.n+1<=_;omega,by omega⟩,Au1];rcases Q2 ht d with⟨_,e⟩ | ⟨p,hp,e⟩
   .obtain⟨M,rfl⟩:∃K,M=K+1:=⟨M-1,by omega⟩;refine⟨x2.push (c:Int),by show x2.n+1<=_;omega,by rw[RJ,AB8,Hi (by omega)];rfl,?_⟩;rw[e,Po,Lp (by decide)];have hb:=Tt (x2:=x2.push (c:Int)) (by show x2.n+1<_;omega) (x2.n+1) N (Au2 _) (by omega);rw[Q1 (by show _<=((x2.n+1:Nat):Int)-1;omega) (by show ((x2.n+1:Nat):Int)-1<=_;omega)];exact hb
   obtain⟨y,y1,y2,y3⟩:=ih p (x2.push (c:Int)) M (by omega) (by omega) (by omega) (by show x2.n+1+p<=_;omega);refine⟨y,y1,?_,by rw[e];exact y3⟩;rw[y2,RJ,AB8,NL e hp,AD0,AD1];rfl
 obtain⟨y,_,y2,y3⟩:=key (v+1) v (Sl.nil:Sl Int) N (by omega) f (by omega) (by show 0+v<=_;omega);unfold N9;rw[y3,y2];show some (_++[])=_;rw[AA8]
def Ae0 (h:A6)(L:List Nat)(z:Sl Int):Sl Int:=L.foldl (fun z x=>z.app (h.On.g x)) z
def PI {h:A6}(ht:Z4 h.Tree):∀(m v:Nat),v<=m->v<h.Tree.n->Ae0 h (Vb h.Tree v) (Sl.nil:Sl Int)=N8 h v
 |m,v,hm,hv=>by
  rcases Q2 ht hv with⟨_,e⟩ | ⟨p,hp,e⟩
  .rw[Hi (by omega),Be (by omega)];rfl
  rw[NL e hp,Ek e hp]
  match m with
  |0=>omega
  |m+1=>
   have:=PI ht m p (by omega) (by omega)
   unfold Ae0 at this⊢;rw[List.foldl_append,this];rfl
def Ks {h:A6}(c:CU h):∀(L:List Nat) (z:Sl Int),(∀x∈L,x<h.On.n)->z.n+L.length*1100000<=10000000000 ->
 Z2 (L.map fun (x:Nat)=>(x:Int)) (fun (a:Sl Int->Option ((Sl Int)×Int)) (x1:Int) (z1:Sl Int)=>
  if (((0:Int)<=x1/\x1<(h.On.n:Int))/\((z1.n+(h.On.g x1.toNat).n)*8<=140737488355328/\z1.n+(h.On.g x1.toNat).n<=140737488355328))then
   a (z1.app (h.On.g x1.toNat))
  else none
  ) (fun (z1:Sl Int)=>
   some (z1,0)
  ) z=some (Ae0 h L z,0)
 |[],z,_,_=>rfl
 |x::L,z,hx,hz=>by have b:=hx x (by simp);have hl:=c.len x b;simp only[Aw7,AF3]at hz;rw[Av8,Z2,Au1,Ln ⟨by omega,by omega⟩];exact Ks c L _ (fun y hy=>hx y (by simp[hy])) (by show z.n+(h.On.g x).n+_<=_;omega)
def NM {t:Sl F0}(ht:Z4 t):∀(m v:Nat),v<=m->v<t.n->(Vb t v).length<=v+1
 |m,v,hm,hv=>by
  rcases Q2 ht hv with⟨_,e⟩ | ⟨p,hp,e⟩
  .rw[Hi (by omega)];simp
  rw[NL e hp]
  match m with
  |0=>omega
  |m+1=>have:=NM ht m p (by omega) (by omega);simp;omega
def Yx {N:Nat}(g:3000000<=N){h:A6}(d:CU h)(v:Int) :∃s e,N2 N h v=some (s,e)/\Ii N h v=some (s,e)/\((e=0/\IT N h/\0<=v/\v<h.Tree.n/\s=N8 h v.toNat) \/ (e≠0/\s=(Sl.nil:Sl Int))):=by
 unfold N2 Ii;rw[Im g d,PH g d,Av3,Av3];by_cases f:hres N h=0
 case neg=>
  have b:(hres N h != 0)=true:=by simpa using f
  rw[Ln b,Ln b];exact⟨_,_,rfl,rfl,.inr ⟨f,rfl⟩⟩
 have a:=hres_zero.1 f;have c:¬(hres N h != 0)=true:=by simp[f]
 rw[Lp c,Lp c,Z5,MQ,Av3,Av3];by_cases m:0<=v/\v<(h.Tree.n:Int)
 case neg=>
  have hb:(!((decide (0<=v))&&(decide (v<(h.Tree.n:Int)))))=true:=by simp;omega
  rw[Ln hb,Ln hb];exact⟨_,_,rfl,rfl,.inr ⟨by decide,rfl⟩⟩
 have hb:¬(!((decide (0<=v))&&(decide (v<(h.Tree.n:Int)))))=true:=by simp;omega
 rw[Lp hb,Lp hb,W8,Av3];obtain⟨u,rfl⟩:∃u:Nat,v=(u:Int):=⟨v.toNat,by omega⟩;have l:=a.tree.2.1;have hw:=WB g a.tree (v:=u) (by omega);have j:=NM a.tree u u (Au2 _) (by omega);have i:=Ks d (Vb h.Tree u) (Sl.nil:Sl Int) (fun x hx=>by have:=RQ a.tree u u (Au2 _) (by omega) x hx;have:=a.on;omega) (by show 0+_<=_;omega);rw[Kr d a.tree a.on N u (by omega) (by omega),Av3];refine⟨N8 h u,0,?_,rfl,.inl ⟨rfl,a,by omega,by omega,by rw[Au1]⟩⟩;show (N9 N (u:Int) h.Tree).bind _=_;rw[hw,Av3,i,PI a.tree u u (Au2 _) (by omega)]
def WC {N:Nat}{h:A6}(a:IT N h):∀(m v:Nat),v<=m->v<h.Tree.n->∀i,i<(N8 h v).n->0<=(N8 h v).g i/\(N8 h v).g i<h.Laws.n
 |m,v,hm,hv,i,b=>by
  have Ae1:∀j,j<(h.On.g v).n->0<=(h.On.g v).g j/\(h.On.g v).g j<h.Laws.n:=fun j c=>by
   have:=a.bad v (by have:=a.on;omega)
   constructor
   .exact Int.not_lt.1 fun g=>this ⟨j,c,.inl g⟩
   exact Int.not_le.1 fun g=>this ⟨j,c,.inr g⟩
  rcases Q2 a.tree hv with⟨_,e⟩ | ⟨p,hp,e⟩
  .rw[Be (by omega)]at b⊢;have b:i<0+(h.On.g v).n:=b
   have:((Sl.nil:Sl Int).app (h.On.g v)).g i=(h.On.g v).g i:=by show (if i<0 then (default:Int)else (h.On.g v).g (i-0))=_;rw[Lk];rfl
   rw[this];exact Ae1 i (by omega)
  rw[Ek e hp]at b⊢;have b:i<(N8 h p).n+(h.On.g v).n:=b;show 0<=(if i<(N8 h p).n then (N8 h p).g i else (h.On.g v).g (i-(N8 h p).n))/\(if i<(N8 h p).n then (N8 h p).g i else (h.On.g v).g (i-(N8 h p).n))<_;split
  .match m with
   |0=>omega
   |m+1=>exact WC a m p (by omega) (by omega) i (by assumption)
  exact Ae1 _ (by omega)
end Go.AM
namespace Go.AM
variable {N:Nat}
open IntKind (wrap)
open Go.Proofs
def eqR {R:Type}{x:Option R}{y:R}(h:∃r,x=some r/\r=y):x=some y:=by obtain⟨r,h,rfl⟩:=h;exact h
def NN (t:Sl F0)(v:Nat):Prop:=∀u,0<u->u<t.n->(t.g u).Parent≠(v:Int)
open Classical in
noncomputable def Y3 (t:Sl F0):Nat->Sl Int
 |0=>(Sl.nil:Sl Int)
 |i+1=>if NN t i then (Y3 t i).push (i:Int)else Y3 t i
def Kt {t:Sl F0}{i:Nat}(h:NN t i):Y3 t (i+1)=(Y3 t i).push (i:Int):=Ln h
def NO {t:Sl F0}{i:Nat}(h:¬NN t i):Y3 t (i+1)=Y3 t i:=Lp h
def RR (t:Sl F0):∀i,(Y3 t i).n<=i
 |0=>Au2 0
 |i+1=>by
  have:=RR t i
  by_cases h:NN t i
  .rw[Kt h];show (Y3 t i).n+1<=i+1;omega
  rw[NO h];omega
def RU (t:Sl F0):∀i k,k<(Y3 t i).n->∃v:Nat,v<i/\(Y3 t i).g k=(v:Int)
 |0,k,hk=>Lq hk (AA9 k)
 |i+1,k,hk=>by
  by_cases h:NN t i
  .rw[Kt h]at hk⊢;have hk:k<(Y3 t i).n+1:=hk;show ∃v:Nat,v<i+1/\(if k<(Y3 t i).n then (Y3 t i).g k else (i:Int))=(v:Int);by_cases a:k<(Y3 t i).n
   .rw[Ln a];obtain⟨v,h1,b⟩:=RU t i k a;exact⟨v,by omega,b⟩
   rw[Lp a];exact⟨i,by omega,rfl⟩
  rw[NO h]at hk⊢;obtain⟨v,h1,b⟩:=RU t i k hk;exact⟨v,by omega,b⟩
def Yy (s:3000000<=N){t:Sl F0}(ht:Z4 t):∃X,U3 N t=some X/\(X.n=t.n/\∀v,v<t.n->((X.g v).n=0↔NN t v)):=by
 have o:=ht.2.1;unfold U3;refine Aa (Cb (fun i x (X:Sl (Sl Int))=>x=(i:Int)/\X.n=t.n/\∀v,v<t.n->(((X.g v).n=0 ↔ ∀u,0<u->u<i->(t.g u).Parent≠(v:Int))/\(X.g v).n<=i)) t.n _ (by omega)
  ⟨rfl,rfl,fun v b=>⟨⟨fun _ u h1 a=>Lq a (AA9 u),fun _=>rfl⟩,Au2 0⟩⟩ ?_)
 rintro l i x X hle ⟨rfl,c,f⟩ hs;by_cases hl:i<t.n
 case neg=>
  obtain rfl:i=t.n:=by omega
  exact Jx ⟨X,rfl,c,fun v b=>(f v b).1⟩
 refine ifT (by simpa using hl) (Aa ?_);rw[Au1,Li];rcases Q2 ht hl with⟨q,h1⟩ | ⟨p,hp,e⟩
 .subst q;rw[h1];refine ifT (by show Int.toNat (-1)<X.n;rw[c];exact hl) (ltX (Jx (hs hl _ _ ⟨rfl,c,fun v b=>?_⟩)));have e:(X.upd (Int.toNat (-1)) (X.g (Int.toNat (-1)))).g v=X.g v:=by
   show (if v=_ then X.g (Int.toNat (-1))else X.g v)=X.g v;split
   .rename_i e;rw[e]
   rfl
  rw[e];obtain⟨g1,g2⟩:=f v b;exact⟨g1.trans ⟨fun _ u h1 a=>Lq a (by omega),fun _ u h1 a=>Lq a (by omega)⟩,by omega⟩
 rw[e,Au1];have j:p<t.n:=by omega
 have m:=(f p j).2;refine Aa (ltX (Ab (ifT ⟨⟨by omega,by rw[c];omega⟩,by omega,by omega⟩ (hs hl _ _ ⟨rfl,c,fun v b=>?_⟩))));show ((if v=p then (X.g p).push (i:Int)else X.g v).n=0↔_)/\(if v=p then (X.g p).push (i:Int)else X.g v).n<=i+1;by_cases d:v=p
 .subst d;rw[Ln rfl];refine⟨⟨fun h=>Lq h (Nat.succ_ne_zero _),fun h=>Lq e (h i (by omega) (by omega))⟩,?_⟩;show (X.g v).n+1<=i+1;omega
 rw[Lp d];obtain⟨g1,g2⟩:=f v b;refine⟨g1.trans ⟨fun h u h1 a=>?_,fun h u h1 a=>h u h1 (by omega)⟩,by omega⟩;by_cases r:u=i
 .subst r;rw[e];omega
 exact h u h1 (by omega)
def An3 {R:Type}{Q:R->Prop}{a:Sl Int->Int->Option R}{t:Sl F0}{i:Nat}(c:i<1000){b:Bool}(hb:b=true↔NN t i)(h:∃r,a (Y3 t (i+1)) ((i+1:Nat):Int)=some r/\Q r) :∃r,(if b then
  if (((Y3 t i).n+(Sl.of [(i:Int)]:Sl Int).n)*8<=140737488355328/\(Y3 t i).n+(Sl.of [(i:Int)]:Sl Int).n<=140737488355328)then
   a ((Y3 t i).push (i:Int)) (wrap .i64 ((i:Int)+1))
  else none
  else a (Y3 t i) (wrap .i64 ((i:Int)+1)))=some r/\Q r:=by
 have hn:=RR t i;rw[Li];by_cases hk:NN t i
 .rw[Kt hk]at h;exact ifT (hb.2 hk) (ifT ⟨by show ((Y3 t i).n+1)*8<=_;omega,by show (Y3 t i).n+1<=_;omega⟩ h)
 rw[NO hk]at h;exact ifF (fun g=>hk (hb.1 g)) h
def RV (c:3000000<=N){t:Sl F0}(ht:Z4 t):∃r,AH N t=some r/\r=Y3 t t.n:=by
 have d:=ht.2.1;unfold AH;obtain⟨X,e,a,hk⟩:=Yy c ht;refine G5 e (Cb (fun i x1 x2=>x2=(i:Int)/\x1=Y3 t i) t.n _ (by omega) ⟨rfl,rfl⟩ ?_);rintro b i x1 x2 hle ⟨rfl,rfl⟩ hs;by_cases hl:i<t.n
 .refine ifT (by rw[a];simpa using hl) (Aa ?_);rw[Au1];exact An3 (by omega) (by rw[<- hk i hl];simp) (hs hl _ _ ⟨rfl,rfl⟩)
 obtain rfl:i=t.n:=by omega
 exact ifF (by rw[a];simp) ⟨_,rfl,rfl⟩
def Yz (l:3000000<=N){t:Sl F0}(ht:Z4 t){v:Nat}(m:v<t.n):∃r,Dg N t (v:Int)=some r/\(r.n=0↔NN t v):=by
 have f:=ht.2.1;unfold Dg;refine Cb (fun i (x1:Sl Int) x2=>x2=(i:Int)/\x1.n<=i/\(x1.n=0 ↔ ∀u,0<u->u<i->(t.g u).Parent≠(v:Int))) t.n _ (by omega) ⟨rfl,Au2 0,fun _ u h1 a=>Lq a (AA9 u),fun _=>rfl⟩ ?_;rintro b i x1 x2 hle ⟨rfl,hn,c⟩ hs;by_cases hl:i<t.n
 .refine ifT (by simpa using hl) (Aa ?_);rw[Au1,Li];by_cases hp:(t.g i).Parent=(v:Int)
  .have d:0<i:=by
    rcases Q2 ht hl with⟨d,h1⟩ | ⟨p,hp,e⟩
    .rw[h1]at hp;omega
    omega
   refine ifT (by simpa using hp) (ifT ⟨by show (x1.n+1)*8<=_;omega,by show x1.n+1<=_;omega⟩ (hs hl _ _ ⟨rfl,by show x1.n+1<=i+1;omega,fun h=>Lq h (Nat.succ_ne_zero _),fun h=>Lq hp (h i d (by omega))⟩))
  refine ifF (by simpa using hp) (hs hl _ _ ⟨rfl,by omega,c.trans ⟨fun h u h1 a=>?_,fun h u h1 a=>h u h1 (by omega)⟩⟩);by_cases j:u=i
  .subst j;exact hp
  exact h u h1 (by omega)
 obtain rfl:i=t.n:=by omega
 exact Jx ⟨_,rfl,c⟩
def Vc (a:3000000<=N){t:Sl F0}(c:Kq t):∃s e,W4 N t=some (s,e)/\IR N t=some (s,e)/\((Z4 t/\e=0/\s=Y3 t t.n) \/ (¬Z4 t/\e=16/\s=(Sl.nil:Sl Int))):=by
 obtain⟨e,e1,e2,d⟩:=NK a c;unfold W4 IR;rw[e1,e2,Av3,Av3];rcases d with⟨rfl,ht⟩ | ⟨rfl,ht⟩
 .have f:=ht.2.1;rw[Lp (by decide),Lp (by decide)];obtain⟨r,g1,rfl⟩:=RV a ht;refine⟨_,0,by rw[g1];rfl,eqR (Cb (fun i x1 x2=>x2=(i:Int)/\x1=Y3 t i) t.n _ (by omega) ⟨rfl,rfl⟩ ?_),.inl ⟨ht,rfl,rfl⟩⟩;rintro b i x1 x2 hle ⟨rfl,rfl⟩ hs;by_cases hl:i<t.n
  .refine ifT (by simpa using hl) ?_;obtain⟨r,k1,k2⟩:=Yz a ht hl;exact G5 k1 (An3 (by omega) (by rw[<- k2];simp) (hs hl _ _ ⟨rfl,rfl⟩))
  obtain rfl:i=t.n:=by omega
  exact Jx ⟨_,rfl,rfl⟩
 exact⟨_,16,Ln (by decide),Ln (by decide),.inr ⟨ht,rfl,rfl⟩⟩
end Go.AM
namespace Go.AM
variable {N:Nat}
open Go.Proofs
def PJ (t:3000000<=N)(h:A6):∃b,Bc N h=some b/\True:=by
 unfold Bc;by_cases hb:(((decide (70<(h.Tree.n:Int)))||(decide (70<(h.Laws.n:Int))))||(decide (70<(h.On.n:Int))))=true
 .exact ifT hb ⟨_,rfl,trivial⟩
 refine ifF hb ?_;have o : h.Laws.n<=70/\h.On.n<=70:=by simp at hb;omega
 refine DL (fun i x=>x=(i:Int)) h.On.n _ (by omega) rfl ?_;rintro l i x q rfl hs;by_cases d:i<h.On.n
 .refine Ab (Aa ?_);by_cases m:(decide (70<((h.On.g (i:Int).toNat).n:Int)))=true
  .exact ifT m ⟨_,rfl,trivial⟩
  exact ifF m (hs d _ (Li))
 refine Fa ?_;refine DL (fun i x=>x=(i:Int)) h.Laws.n _ (by omega) rfl ?_;rintro f i x q rfl j;by_cases d:i<h.Laws.n
 .rw[Li];refine Ab (Aa ?_);obtain⟨r,s⟩:=Yt (N:=N) (by omega) (h.Laws.sub (i:Int).toNat ((i+1:Nat):Int).toNat);refine G5 s ?_;have last:∀z3:Bool,∃r,(if z3 then some false else f ((i+1:Nat):Int))=some r/\True:=fun z=>by
   cases z
   .exact Jx (j d _ rfl)
   exact ifT rfl ⟨_,rfl,trivial⟩
  refine ltX ?_;by_cases g1:(decide (4<r))=true
  .exact ifT g1 (last _)
  refine ifF g1 ?_;by_cases g2:(decide (20<((h.Laws.g (i:Int).toNat).If.n:Int)))=true
  .exact ifT g2 (last _)
  refine ifF g2 ?_;by_cases g3:(decide (20<((h.Laws.g (i:Int).toNat).Out.n:Int)))=true
  .exact ifT g3 (last _)
  refine ifF g3 ?_;obtain⟨a,ha,_⟩:=Hh (N:=N) (by omega) (h.Laws.g (i:Int).toNat).Left;refine G5 ha ?_;by_cases g4:(decide (41<(a:Int)))=true
  .exact ifT g4 (last _)
  refine ifF g4 ?_;obtain⟨c,hc,_⟩:=Hh (N:=N) (by omega) (h.Laws.g (i:Int).toNat).Right;exact G5 hc (last _)
 exact Fa ⟨_,rfl,trivial⟩
def WD (t:3000000<=N){h:A6}(u:CU h)(l:Sl (Sl Mh)):∃b,Cr N h l=some b/\(b=true->l.n<=300/\∀i,i<l.n->(l.g i).n<=50):=by
 obtain⟨b,hb,_⟩:=PJ t h;unfold Cr;refine G5 hb ?_;by_cases g:((!b)||(decide (300<(l.n:Int))))=true
 .exact ifT g ⟨_,rfl,fun g=>by cases g⟩
 refine ifF g ?_;have hn:l.n<=300:=by simp at g;omega
 refine Cb (fun i x1 x2=>x2=(i:Int)/\∀j,j<i->(l.g j).n<=50) l.n _ (by omega) ⟨rfl,fun j v=>Lq v (by omega)⟩ ?_;rintro w i x1 x2 f ⟨rfl,hw⟩ hs;by_cases d:i<l.n
 .refine Ab (Aa ?_);rw[Au1];by_cases g5:(decide (50<((l.g i).n:Int)))=true
  .exact ifT g5 ⟨_,rfl,fun g=>by cases g⟩
  refine ifF g5 (hs d _ _ ⟨Li,fun j v=>?_⟩);by_cases e:j=i
  .subst e;simp at g5;omega
  exact hw j (by omega)
 obtain rfl:i=l.n:=by omega
 refine Jx ?_;by_cases g5:((decide ((l.n:Int)<=256))&&(decide (1500<x1)))=true
 .exact ifT g5 ⟨_,rfl,fun g=>by cases g⟩
 refine ifF g5 (G5 (PH t u) ?_);by_cases g6:(hres N h != 0)=true
 .exact ifT g6 ⟨_,rfl,fun _=>⟨hn,hw⟩⟩
 refine ifF g6 ?_;have m:IT N h:=hres_zero.1 (by simpa using g6);have x:=m.laws.1;have y:=u.on;refine Cb (fun i x3 x4=>x4=(i:Int)) h.Laws.n _ (by omega) rfl ?_;rintro o i x3 x4 f rfl q;by_cases d:i<h.Laws.n
 .obtain⟨a,ha,_⟩:=Hh (N:=N) (by omega) (h.Laws.g (i:Int).toNat).Left;obtain⟨c,hc,_⟩:=Hh (N:=N) (by omega) (h.Laws.g (i:Int).toNat).Right;exact Ab (Aa (G5 ha (G5 hc (q d _ _ (Li)))))
 refine Fa ?_;refine Cb (fun i x3 x4=>x4=(i:Int)) h.On.n _ (by omega) rfl ?_;rintro r i x3 x4 f rfl s;by_cases d:i<h.On.n
 .exact Ab (Aa (s d _ _ (Li)))
 exact Fa ⟨_,rfl,fun _=>⟨hn,hw⟩⟩
def Vd (l:Sl Int)(j:Nat)(i:Int):Bool:=(List.range j).any fun q=>l.g q==i
def WE (l:Sl Int)(j:Nat)(i:Int):Vd l (j+1) i=(Vd l j i||(l.g j==i)):=by simp[Vd,Az1]
def NP (z:BitVec 64)(k:Nat)(b:Bool):BitVec 64:=if b then z ||| (1#64 <<< k)else z
def Tu {z:BitVec 64}{k:Nat}(hk:k<64)(b:Bool):E7 .or .u64 (U (NP z k b)) (shI .shl .u64 1 (k:Int))=U (NP z k true):=by
 rw[Al8 _ hk,or64];unfold NP;cases b
 .rfl
 show U (z ||| 1#64 <<< k ||| 1#64 <<< k)=U (z ||| 1#64 <<< k);rw[BitVec.or_assoc,BitVec.or_self]
def Rh (M:Nat->Bool):Nat->BitVec 64
 |0=>0#64
 |k+1=>NP (Rh M k) k (M k)
def NQ (M:Nat->Bool):∀(m:Nat),m<=64->∀b,b<64->(Rh M m).getLsbD b=(decide (b<m)&&M b)
 |0,_,b,_=>by simp[Rh]
 |m+1,hm,b,hb=>by
  have ih:=NQ M m (by omega) b hb;unfold Rh NP;cases a:M m
  .rw[Lp (by simp),ih];by_cases e:b=m
   .subst e;simp[a]
   simp[show (b<m+1)↔b<m by omega]
  rw[Ln rfl,AB7,ih,Ad0 (by omega) hb];by_cases e:b=m
  .subst e;simp[a]
  simp[e,show (b<m+1)↔b<m by omega]
noncomputable def U4 (h:A6) (k:Nat):Nat:=((Y3 h.Tree h.Tree.n).g k).toNat
noncomputable def DN (h:A6) (i k:Nat):Bool:=Vd (N8 h (U4 h k)) (N8 h (U4 h k)).n (i:Int)
noncomputable def WF (h:A6):List Int:=(List.range h.Laws.n).map fun i=>U (Rh (DN h i) (Y3 h.Tree h.Tree.n).n)
def RW {h:A6}{k:Nat}(hk:k<(Y3 h.Tree h.Tree.n).n):U4 h k<h.Tree.n/\(Y3 h.Tree h.Tree.n).g k=(U4 h k:Int):=by obtain⟨v,h1,a⟩:=RU h.Tree h.Tree.n k hk;unfold U4;rw[a,Au1];exact⟨h1,rfl⟩
def WG (i:3000000<=N){h:A6}(l:CU h)(d:IT N h){k:Nat}(hk:k<(Y3 h.Tree h.Tree.n).n) :N2 N h ((Y3 h.Tree h.Tree.n).g k)=some (N8 h (U4 h k),0)/\Ii N h ((Y3 h.Tree h.Tree.n).g k)=some (N8 h (U4 h k),0)/\(N8 h (U4 h k)).n<=64 /\
  ∀j,j<(N8 h (U4 h k)).n->0<=(N8 h (U4 h k)).g j/\(N8 h (U4 h k)).g j<h.Laws.n:=by
 obtain⟨h1,q⟩:=RW hk;obtain⟨s,e,a,b,c⟩:=Yx i l (U4 h k:Int);have f:(N8 h (U4 h k)).n<=64:=Nat.not_lt.1 fun g=>d.long ⟨U4 h k,by have:=d.on;omega,g⟩;rcases c with⟨rfl,_,_,_,rfl⟩ | ⟨g1,g2⟩
 .rw[Au1]at a b;rw[q];exact⟨a,b,f,WC d _ _ (Au2 _) h1⟩
 exfalso;unfold N2 at a;rw[Im i l,hres_zero.2 d,Av3,Lp (by decide),Z5,Av3,Lp (by simp;omega)]at a;cases hw:(W8 N h.Tree (U4 h k:Int))with
 |none=>rw[hw]at a;cases a
 |some w=>have r:=d.tree.2.1;have m:=WB i d.tree (v:=U4 h k) h1;have o:=Ks l (Vb h.Tree (U4 h k)) (Sl.nil:Sl Int) (fun x hx=>by have:=RQ d.tree _ _ (Au2 _) h1 x hx;have:=d.on;omega) (by have:=NM d.tree _ _ (Au2 _) h1;show 0+_<=_;omega);unfold W8 at a;rw[Av3]at a;replace a:(N9 N (U4 h k:Int) h.Tree).bind _=_:=a;rw[m,Av3,o]at a;cases a;exact g1 rfl
def WH (u:3000000<=N){h:A6}(v:CU h)(c:IT N h){l:Sl Int}(hl:l=Y3 h.Tree h.Tree.n)(hn:l.n<=32)(q:P5 N h=some (l,0)) :∃r:A2×Int,T8 N h=some r/\r.2=0/\r.1.Langs=(l.n:Int)/\r.1.Has.toList=WF h:=by
 have a0:=c.laws.1;unfold T8;refine G5 (Im u v) (ifF (by rw[hres_zero.2 c];decide) (G5 q (ifF (by show ¬((0:Int) != 0)=true;decide) (Aa ?_))));refine Cb (fun k (x3:Sl Int) x4=>x4=(k:Int)/\x3.n=h.Laws.n/\∀i,i<h.Laws.n->x3.g i=U (Rh (DN h i) k)) l.n _ (by omega) ⟨rfl,by show (h.Laws.n:Int).toNat=_;omega,fun i _=>rfl⟩ ?_;rintro x k x3 x4 hk ⟨rfl,d,hx⟩ hs;by_cases f:k<l.n
 .obtain⟨a,_,m,y⟩:=WG u v c (k:=k) (by rw[<- hl];exact f);rw[<- hl]at a;have z:∀i,DN h i k=Vd (N8 h (U4 h k)) (N8 h (U4 h k)).n (i:Int):=fun i=>rfl;generalize N8 h (U4 h k)=w at a m y z;refine Ab (ifT (by show ((0:Int)<=(k:Int)/\(k:Int)<(l.n:Int))/\(k:Int).toNat<l.n;omega) ?_);rw[Au1];refine G5 a (ifF (by show ¬((0:Int) != 0)=true;decide) ?_);refine Cb (fun j (x7:Sl Int) x8=>x8=(j:Int)/\x7.n=h.Laws.n/\∀i,i<h.Laws.n->x7.g i=U (NP (Rh (DN h i) k) k (Vd w j (i:Int)))) w.n _ (by omega) ⟨rfl,d,fun i b=>hx i b⟩ ?_;rintro s j x7 x8 hj ⟨rfl,g1,g2⟩ t;by_cases o:j<w.n
  .obtain⟨r1,r2⟩:=y j o;refine Ab (ifT (by show ((0:Int)<=(j:Int)/\(j:Int)<(w.n:Int))/\(j:Int).toNat<w.n;omega) ?_);rw[Au1];refine ifT (by show (((((0:Int)<=w.g j/\w.g j<(x7.n:Int))/\(w.g j).toNat<x7.n)/\(0:Int)<=(k:Int))/\((0:Int)<=w.g j/\w.g j<(x7.n:Int)))/\(w.g j).toNat<x7.n;omega) (t o _ _ ⟨Li,g1,fun i b=>?_⟩);show (if i=(w.g j).toNat then _ else x7.g i)=_;rw[WE];by_cases e:i=(w.g j).toNat
   .rw[Ln e,<- e,g2 i b,Tu (by omega),show (w.g j==(i:Int))=true by rw[beq_iff_eq];omega,Bool.or_true]
   rw[Lp e,g2 i b,show (w.g j==(i:Int))=false by rw[beq_eq_false_iff_ne];omega,Bool.or_false]
  obtain rfl:j=w.n:=by omega
  refine ifF (by show ¬decide ((w.n:Int)<(w.n:Int))=true;simp) (hs f _ _ ⟨Li,g1,fun i b=>?_⟩);rw[g2 i b,<- z];rfl
 obtain rfl:k=l.n:=by omega
 refine Jx ⟨_,rfl,rfl,rfl,?_⟩;show x3.toList=_;unfold Sl.toList WF;rw[d,<- hl];exact Aw4 fun i b=>hx i (Aw6.1 b)
end Go.AM
namespace Go.AM
open IntKind (wrap)
open Go.Proofs
structure NR (x:Gj):Prop where
 par:∀i,i<x.Parents.n->∃k:Nat,x.Parents.g i=(k:Int)/\k<256
 laws:Wv x.Laws
 on:∀i,i<x.On.n->∃k:Nat,x.On.g i=(k:Int)/\k<65536
def Tv {n:Nat}(h:n<256):IntKind.u8.wrap (n:Int)=n:=by have h1:((n:Int) % (2 ^ 8:Int))=n:=AC8 (by omega) (by omega);unfold wrap;simp only[IntKind.bits,IntKind.signed,h1,AD7,Au4,Lz]
def WI (a j:Nat):Str:=[UInt8.ofNat (a+j)]
def WJ {a j:Nat}(h:a+j<256):[UInt8.ofNat (wrap .u8 ((a:Int)+(wrap .u8 (j:Int)))).toNat]=WI a j:=by rw[Tv (by omega),<- Int.natCast_add,Tv h,Au1];rfl
def Tw {a i j:Nat}(b:a+i<256)(c:a+j<256)(h:WI a i=WI a j):i=j:=by
 have:=congrArg UInt8.toNat (AM1 h).1
 rw[AF9,AF9]at this;omega
def WK:∀j:Fin 10,Jz (WI 97 j.val)=true:=by decide +kernel
def YA (x:Gj):Nat->F0
 |0=>⟨-1,[114]⟩
 |j+1=>⟨(((x.Parents.g j).toNat % (j+1):Nat):Int),WI 97 (j+1)⟩
def Ae2 (x:Gj)(j:Nat):Law:=⟨WI 65 j,(x.Laws.g j).Left,(x.Laws.g j).Right,(x.Laws.g j).If,(x.Laws.g j).Out,(x.Laws.g j).Mode⟩
def WL {x:Gj}(hx:NR x){j:Nat}(d:j<x.Laws.n):RM (Ae2 x j):=by obtain⟨⟨a,b,c⟩,l,f,g,i⟩:=hx.laws j d;exact⟨⟨a,b,c⟩,by show 1<_;omega,f,g,i⟩
def YB {x:Gj}{t:Sl F0}(hn:t.n<=10)(ht:∀j,j<t.n->t.g j=YA x j){v:Nat}(c:v<t.n):Yv t v:=by
 have a:∀j,j<t.n->0<j->(YA x j).Name=WI 97 j:=fun j _ d=>by obtain⟨k,rfl⟩:∃k,j=k+1:=⟨j-1,by omega⟩;rfl
 have b:∀j,j<10->([114]:Str)≠WI 97 j:=fun j f h=>by
  have:=congrArg UInt8.toNat (AM1 h).1
  rw[AF9]at this;have e:(114:UInt8).toNat=114:=rfl;omega
 refine⟨fun h=>by rw[ht 0 (by omega)];rfl,fun d=>?_,?_,fun u i=>?_⟩
 .obtain⟨k,rfl⟩:∃k,v=k+1:=⟨v-1,by omega⟩;rw[ht _ c];show 0<=(((x.Parents.g k).toNat % (k+1):Nat):Int)/\(((x.Parents.g k).toNat % (k+1):Nat):Int)<((k+1:Nat):Int)
  have:=AM8 (x.Parents.g k).toNat (show 0<k+1 by omega)
  omega
 .rw[ht _ c];by_cases d:v=0
  .subst d;show Jz [114]=true;decide +kernel
  rw[a v c (by omega)];exact WK ⟨v,by omega⟩
 rw[ht _ c,ht u (by omega),a v c (by omega)];by_cases d:u=0
 .subst d;exact b v (by omega)
 rw[a u (by omega) (by omega)];exact fun h=>by have:=Tw (by omega) (by omega) h;omega
def Io {h:A6}(ht:Z4 h.Tree)(a:∀v,v<h.Tree.n->(h.On.g v).n<=5):∀(m v:Nat),v<=m->v<h.Tree.n->(N8 h v).n<=(v+1)*5
 |m,v,hm,hv=>by
  have:=a v hv
  rcases Q2 ht hv with⟨_,e⟩ | ⟨p,hp,e⟩
  .rw[Be (by omega)];show 0+(h.On.g v).n<=_;omega
  rw[Ek e hp];show (N8 h p).n+(h.On.g v).n<=_
  match m with
  |0=>omega
  |m+1=>
   have:=Io ht a m p (by omega) (by omega)
   omega
structure WM (N:Nat) (x:Gj) (h:A6):Prop where
 hist:IT N h
 n:h.Tree.n<=10
 node:∀j,j<h.Tree.n->h.Tree.g j=YA x j
 laws:h.Laws.n<=6
 law:∀j,j<h.Laws.n->h.Laws.g j=Ae2 x j/\j<x.Laws.n
 five:∀v,v<h.Tree.n->(h.On.g v).n<=5
def YC {N:Nat}(hN:3000000<=N){x:Gj}(hx:NR x) :∃r:A6×Bool,R8 N x=some r/\CU r.1/\(r.2=true->WM N x r.1):=by
 have t:CU (⟨(Sl.nil:Sl F0),(Sl.nil:Sl Law),(Sl.nil:Sl (Sl Int))⟩:A6):=
  ⟨fun i hi=>Lq hi (AA9 i),fun i hi=>Lq hi (AA9 i),by show 0<_;omega,fun i hi=>Lq hi (AA9 i)⟩
 unfold R8;refine Cb (fun i (x1:Sl F0) x2=>x2=((i+1:Nat):Int)/\x1.n=i+1/\∀j,j<i+1->x1.g j=YA x j) 9 _ (by omega) ⟨rfl,rfl,fun j s=>by obtain rfl:j=0:=(by omega);rfl⟩ ?_;rintro self i x1 x2 hi ⟨rfl,hn1,h1⟩ hs;by_cases hlt:i+1<=x.Parents.n/\i+1<10
 .obtain⟨k,hk,hk2⟩:=hx.par i (by omega);have e1:wrap .i64 (((i+1:Nat):Int)-1)=(i:Int):=by rw[Am0 (by omega) (by omega)];rfl
  refine Ab ?_;rw[e1,Au1,hk,Q1 (n:=(k:Int)) (by omega) (by omega)];refine ifT ⟨⟨by omega,by omega⟩,by omega⟩ (ifT (by show (x1.n+1)*24<=_/\x1.n+1<=_;omega) (hs (by omega) _ _ ⟨Li,by show x1.n+1=_;omega,fun j s=>?_⟩));show (if j<x1.n then x1.g j else _)=_;by_cases e:j<x1.n
  .rw[Ln e];exact h1 j (by omega)
  obtain rfl:j=i+1:=by omega
  rw[Lp e];have e2:[UInt8.ofNat (wrap .u8 (97+(wrap .u8 ((i+1:Nat):Int)))).toNat]=WI 97 (i+1):=WJ (a:=97) (by omega);rw[e2];show (⟨_,_⟩:F0)=⟨(((x.Parents.g i).toNat % (i+1):Nat):Int),WI 97 (i+1)⟩;rw[hk,Au1];rfl
 refine Fa ?_;clear hs;refine Cb (fun i (x4:Sl Law) x5=>x5=(i:Int)/\x4.n=i/\∀j,j<i->x4.g j=Ae2 x j/\j<x.Laws.n/\Fq N (Ae2 x j)) 6 _ (by omega) ⟨rfl,rfl,fun j s=>Lq s (by omega)⟩ ?_;rintro self2 m x4 x5 hm ⟨rfl,hn4,h4⟩ hs2;by_cases hlt2:m<x.Laws.n/\m<6
 .obtain⟨hml,hm6⟩:=hlt2;have e2:[UInt8.ofNat (wrap .u8 (65+(wrap .u8 (m:Int)))).toNat]=WI 65 m:=WJ (a:=65) (by omega);have hin:=WL hx hml;refine Ab (Aa ?_);rw[Au1,e2];obtain⟨b,hb,_⟩:=PJ hN (⟨(Sl.nil:Sl F0),(Sl.of [Ae2 x m]:Sl Law),(Sl.nil:Sl (Sl Int))⟩:A6);have hl:Cs N (Ae2 x m)=some b:=by unfold Cs;rw[hb];rfl
  refine G5 hl (ltX ?_);cases b
  .exact ifT rfl (ifT rfl ⟨_,rfl,t,fun h=>by cases h⟩)
  refine K8 ?_;obtain⟨e,he,hE⟩:=MT hN hin;refine G5 he ?_;rcases hE with⟨rfl,hc⟩ | ⟨rfl,_⟩
  .refine K8 (ifT (by show (x4.n+1)*200<=_/\x4.n+1<=_;omega) (hs2 hm6 _ _ ⟨Li,by show x4.n+1=_;omega,fun j s=>?_⟩));show (if j<x4.n then x4.g j else Ae2 x m)=_/\_;by_cases e:j<x4.n
   .rw[Ln e];exact h4 j (by omega)
   obtain rfl:j=m:=by omega
   rw[Lp e];exact⟨rfl,hml,hc⟩
  exact Bh ⟨_,rfl,t,fun h=>by cases h⟩
 refine Fa ?_;clear hs2;have hL1:wrap .i64 ((x4.n:Int)+1)=((x4.n+1:Nat):Int):=Li;rw[hL1];refine Cb (fun v (f:Sl (Sl Int)) x11=>x11=(v:Int)/\f.n=v/\∀u,u<v->(f.g u).n<=5/\∀j,j<(f.g u).n->0<=(f.g u).g j/\(f.g u).g j<x4.n) x1.n _ (by omega) ⟨rfl,rfl,fun j s=>Lq s (by omega)⟩ ?_;rintro self5 v f x11 w ⟨rfl,hn10,a1⟩ hs5;by_cases hvl:v<x1.n
 .obtain⟨c,hc,hc2⟩:∃c:Nat,Bs N x.On (v:Int)=some (c:Int)/\c<65536:=by
   unfold Bs;by_cases h:v<x.On.n
   .obtain⟨k,hk,hk2⟩:=hx.on v h;exact⟨k,by rw[Ln (by simp;omega),Lj,Au1,hk,Q1 (by omega) (by omega)],hk2⟩
   exact⟨0,by rw[Lp (by simp;omega)];rfl,by omega⟩
  refine Ab (G5 hc ?_);refine Cb (fun q (l:Sl Int) x15=>l.n=q/\(∃d:Nat,x15=(d:Int)/\d<65536)/\∀j,j<l.n->0<=l.g j/\l.g j<x4.n) 5 _ (by omega) ⟨rfl,⟨c,rfl,hc2⟩,fun j s=>Lq s (AA9 j)⟩ ?_;rintro self6 q l x15 hq ⟨hn14,⟨d,rfl,hd⟩,h14⟩ hs6;refine Aa ?_;have em:(d:Int).tmod ((x4.n+1:Nat):Int)=((d % (x4.n+1):Nat):Int):=rfl;have ed:(d:Int).tdiv ((x4.n+1:Nat):Int)=((d / (x4.n+1):Nat):Int):=rfl;rw[em,ed];have hlt3:=AM8 d (show 0<x4.n+1 by omega);have hle3:=Nat.div_le_self d (x4.n+1);generalize d / (x4.n+1)=d1 at hle3;generalize d % (x4.n+1)=m1 at hlt3;by_cases g:m1≠0/\q<5
  .rw[Am0 (by omega) (by omega),Q1 (n:=(d1:Int)) (by omega) (by omega)];refine Ab (ifT ⟨⟨by omega,by show (l.n+1)*8<=_;omega,by show l.n+1<=_;omega⟩,by omega⟩ (hs6 (by omega) _ _ ⟨by show l.n+1=_;omega,⟨_,rfl,by omega⟩,fun j s=>?_⟩));show 0<=(if j<l.n then l.g j else _)/\(if j<l.n then l.g j else _)<_;by_cases e:j<l.n
   .rw[Ln e];exact h14 j e
   rw[Lp e];omega
  refine Fa (ifT (by show (f.n+1)*24<=_/\f.n+1<=_;omega) (hs5 hvl _ _ ⟨Li,by show f.n+1=_;omega,fun u hu=>?_⟩));show (if u<f.n then f.g u else l).n<=5/\∀j,j<(if u<f.n then f.g u else l).n->0<=(if u<f.n then f.g u else l).g j/\(if u<f.n then f.g u else l).g j<_;by_cases e:u<f.n
  .rw[Ln e];exact a1 u (by omega)
  rw[Lp e];exact⟨by omega,h14⟩
 obtain rfl:v=x1.n:=by omega
 refine Jx ⟨_,rfl,?_,fun _=>?_⟩
 .refine⟨fun i o=>?_,fun i o=>?_,by show f.n<_;omega,fun i o=>?_⟩
  .have o:i<x4.n:=o;show RM (x4.g i);obtain⟨e,hil,_⟩:=h4 i (by omega);rw[e];exact WL hx hil
  .have o:i<x1.n:=o;show (x1.g i).Name.length<_;rw[h1 i (by omega)];cases i<;>(show 1<_;omega)
  have o:i<f.n:=o;show (f.g i).n<_
  have:=(a1 i (by omega)).1
  omega
 have y:Z4 x1:=⟨by omega,by omega,fun v w=>YB (by omega) (fun j s=>h1 j (by omega)) w⟩;have z:∀v,v<x1.n->(f.g v).n<=5:=fun v w=>(a1 v (by omega)).1;refine⟨⟨y,⟨by show x4.n<=64;omega,fun i o=>?_⟩,?_,by show f.n=x1.n;omega,?_,fun v w=>?_⟩,by show x1.n<=10;omega,fun j s=>h1 j (by have s:j<x1.n:=s;omega),by show x4.n<=6;omega,fun j s=>?_,fun v w=>z v w⟩
 .have o:i<x4.n:=o;show Fq N (x4.g i);obtain⟨e,_,hc⟩:=h4 i (by omega);rw[e];exact hc
 .rintro⟨u,v,h1',h2',a2⟩;have h2' : v<x4.n:=h2';have a2 : (x4.g u).Name=(x4.g v).Name:=a2;rw[(h4 u (by omega)).1,(h4 v (by omega)).1]at a2
  have:=Tw (a:=65) (by omega) (by omega) a2
  omega
 .rintro⟨v,w,a0⟩;have w:v<f.n:=w;have a0:64<(N8 (⟨x1,x4,f⟩:A6) v).n:=a0
  have:=Io (h:=(⟨x1,x4,f⟩:A6)) y z v v (Au2 _) (by show v<x1.n;omega)
  omega
 .have w:v<f.n:=w;rintro⟨j,s,hb⟩;have s:j<(f.g v).n:=s;have hb:(f.g v).g j<0 \/ ((x4.n:Nat):Int)<=(f.g v).g j:=hb
  have:=(a1 v (by omega)).2 j s
  omega
 have s:j<x4.n:=s;exact⟨(h4 j (by omega)).1,(h4 j (by omega)).2.1⟩
end Go.AM
namespace Go.AM
open Go.Proofs
inductive Anc (t:Sl F0) (v:Nat):Nat->Prop
 |refl:Anc t v v
 |up {w p:Nat}:(t.g w).Parent=(p:Int)->p<w->Anc t v p->Anc t v w
def Anc.le {t:Sl F0}{v w:Nat}(h:Anc t v w):v<=w:=by
 induction h with
 |refl=>exact Au2 _
 |up e hp h ih=>omega
def WN {t:Sl F0}{v w p:Nat}(e:(t.g w).Parent=(p:Int))(hp:p<w):Anc t v w↔v=w \/ Anc t v p:=by
 constructor
 .intro h;cases h with
  |refl=>exact .inl rfl
  |up e' hp' h'=>rw[e]at e';obtain rfl:=AH4 e';exact .inr h'
 rintro (rfl|h)
 .exact .refl
 exact .up e hp h
def YD {t:Sl F0}{v w:Nat}(e:(t.g w).Parent<0):Anc t v w↔v=w:=by
 constructor
 .intro h;cases h with
  |refl=>rfl
  |up e' hp' h'=>omega
 rintro rfl;exact .refl
def WO {t:Sl F0}{u v l:Nat}(h:Anc t v l):Anc t u l->u<=v->Anc t u v:=by
 induction h with
 |refl=>exact fun h _=>h
 |up e hp h ih=>
  intro a hle;rcases (WN e hp).1 a with rfl|h'
  .have:=h.le;omega
  exact ih h' hle
def Anc.trans {t:Sl F0}{u v l:Nat}(h:Anc t v l)(a:Anc t u v):Anc t u l:=by
 induction h with
 |refl=>exact a
 |up e hp h ih=>exact .up e hp ih
structure IU (M n:Nat) (p:Sl Int) (on:Sl (Sl Int)) (v q:Nat):Prop where
 pn:p.n=M
 onn:on.n=n
 a:∀k,k<M->p.g k = -1 \/ ∃u,u<n/\p.g k=(u:Int)
 b:∀u,u<n->∀j,j<(on.g u).n->∃k,k<M/\(on.g u).g j=(k:Int)/\p.g k=(u:Int)
 c:∀k,k<M->∀u,u<n->p.g k=(u:Int)->∃j,j<(on.g u).n/\(on.g u).g j=(k:Int)
 d:∀u,u<n->(on.g u).n<=if u<v then 5 else if u=v then q else 0
def YE {α : Type}(s:Sl α)(i:Nat):s.upd i (s.g i)=s:=by
 show (⟨s.n,fun j=>if j=i then s.g i else s.g j⟩:Sl α)=s
 have:(fun j=>if j=i then s.g i else s.g j)=s.g:=funext fun j=>by
  by_cases h:j=i
  .rw[Ln h,h]
  rw[Lp h]
 rw[this]
def Ve {M n v q k:Nat}{p:Sl Int}{on:Sl (Sl Int)}(h:IU M n p on v q)(r:v<n)(hk:k<M)(hp:p.g k<0):IU M n (p.upd k (v:Int)) (on.upd v ((on.g v).push (k:Int))) v (q+1):=by
 have s:p.g k = -1:=by
  rcases h.a k hk with e|⟨u,_,e⟩
  .exact e
  omega
 refine⟨h.pn,h.onn,fun k' f=>?_,fun u l j i=>?_,fun k' f u l e=>?_,fun u l=>?_⟩
 .show (if k' = k then (v:Int)else p.g k') = -1 \/ ∃u,u<n/\(if k' = k then (v:Int)else p.g k')=(u:Int);by_cases e:k' = k
  .rw[Ln e];exact .inr ⟨v,r,rfl⟩
  rw[Lp e];exact h.a k' f
 .have old:∀k'',k'' < M->p.g k'' = (u:Int)->(if k'' = k then (v:Int)else p.g k'')=(u:Int):=fun k'' _ e=>by
   by_cases e2:k'' = k
   .rw[e2]at e;omega
   rw[Lp e2];exact e
  have i:j<(if u=v then (on.g v).push (k:Int)else on.g u).n:=i;show ∃k',k' < M/\(if u=v then (on.g v).push (k:Int)else on.g u).g j=(k' : Int)/\(if k' = k then (v:Int)else p.g k')=(u:Int);by_cases e:u=v
  .subst e;rw[Ln rfl]at i⊢;have i:j<(on.g u).n+1:=i;show ∃k',k' < M/\(if j<(on.g u).n then (on.g u).g j else (k:Int))=(k' : Int)/\_;by_cases e2:j<(on.g u).n
   .rw[Ln e2];obtain⟨k',h1,m,o⟩:=h.b u l j e2;exact⟨k',h1,m,old k' h1 o⟩
   rw[Lp e2];exact⟨k,hk,rfl,Ln rfl⟩
  rw[Lp e]at i⊢;obtain⟨k',h1,m,o⟩:=h.b u l j i;exact⟨k',h1,m,old k' h1 o⟩
 .have e:(if k' = k then (v:Int)else p.g k')=(u:Int):=e;show ∃j,j<(if u=v then (on.g v).push (k:Int)else on.g u).n/\(if u=v then (on.g v).push (k:Int)else on.g u).g j=(k' : Int);by_cases e1:k' = k
  .rw[Ln e1]at e;have e3:v=u:=by omega
   subst e3;subst e1;rw[Ln rfl];exact⟨(on.g v).n,AK0 _,Lp (AH5 _)⟩
  rw[Lp e1]at e;obtain⟨j,h1,m⟩:=h.c k' f u l e;by_cases e2:u=v
  .subst e2;rw[Ln rfl];exact⟨j,Nat.lt_succ_of_lt h1,by show (if j<(on.g u).n then (on.g u).g j else (k:Int))=_;rw[Ln h1];exact m⟩
  rw[Lp e2];exact⟨j,h1,m⟩
 have:=h.d u l
 show (if u=v then (on.g v).push (k:Int)else on.g u).n<=_;by_cases e:u=v
 .subst e;rw[Lp (AH5 u),Ln rfl]at this;rw[Ln rfl,Lp (AH5 u),Ln rfl];show (on.g u).n+1<=_;omega
 rw[Lp e]at this⊢;rw[Lp e];exact this
def PK {M n v q v' q' : Nat}{p:Sl Int}{on:Sl (Sl Int)}(h:IU M n p on v q)(g:∀u,u<n->(if u<v then 5 else if u=v then q else 0)<=if u<v' then 5 else if u=v' then q' else 0):IU M n p on v' q':=
 ⟨h.pn,h.onn,h.a,h.b,h.c,fun u f=>Ay1 (h.d u f) (g u f)⟩
def memB_iff {l:Sl Int}{j:Nat}{i:Int}:Vd l j i=true ↔ ∃q,q<j/\l.g q=i:=by
 unfold Vd;rw[AD5];constructor
 .rintro⟨q,h1,a⟩;exact⟨q,Aw6.1 h1,by simpa using a⟩
 rintro⟨q,h1,a⟩;exact⟨q,Aw6.2 h1,by simpa using a⟩
def Tx {a b:Sl Int}{i:Int}:Vd (a.app b) (a.app b).n i=true↔Vd a a.n i=true \/ Vd b b.n i=true:=by
 rw[memB_iff,memB_iff,memB_iff];constructor
 .rintro⟨q,h1,c⟩;have h1:q<a.n+b.n:=h1;have c:(if q<a.n then a.g q else b.g (q-a.n))=i:=c;by_cases e:q<a.n
  .rw[Ln e]at c;exact .inl ⟨q,e,c⟩
  rw[Lp e]at c;exact .inr ⟨q-a.n,by omega,c⟩
 rintro (⟨q,h1,c⟩ | ⟨q,h1,c⟩)
 .exact⟨q,by show q<a.n+b.n;omega,by show (if q<a.n then a.g q else b.g (q-a.n))=i;rw[Ln h1];exact c⟩
 exact⟨a.n+q,by show a.n+q<a.n+b.n;omega,by show (if a.n+q<a.n then a.g (a.n+q)else b.g (a.n+q-a.n))=i;rw[Lk,Nat.add_sub_cancel_left];exact c⟩
def An4 {M n v q k u:Nat}{p:Sl Int}{on:Sl (Sl Int)}(h:IU M n p on v q)(hk:k<M)(a:u<n):Vd (on.g u) (on.g u).n (k:Int)=true↔p.g k=(u:Int):=by
 rw[memB_iff];constructor
 .rintro⟨j,h1,d⟩;obtain⟨k',l,f,i⟩:=h.b u a j h1;rw[f]at d;obtain rfl:=AH4 d;exact i
 exact fun e=>h.c k hk u a e
def Ty {h:A6}{M v q k:Nat}{p:Sl Int}(ht:Z4 h.Tree)(hp:IU M h.Tree.n p h.On v q)(hk:k<M):∀(m w:Nat),w<=m->w<h.Tree.n->(Vd (N8 h w) (N8 h w).n (k:Int)=true ↔ ∃u:Nat,p.g k=(u:Int)/\Anc h.Tree u w)
 |m,w,hm,hw=>by
  have a:=An4 hp hk hw;rcases Q2 ht hw with⟨_,e⟩ | ⟨r,c,e⟩
  .rw[Be (by omega),Tx,a];constructor
   .rintro (h1|h1)
    .obtain⟨_,b,_⟩:=memB_iff.1 h1;exact Lq b (AA9 _)
    exact⟨w,h1,.refl⟩
   rintro⟨u,h1,b⟩;rw[YD (by omega)]at b;subst b;exact .inr h1
  rw[Ek e c,Tx,a]
  match m with
  |0=>omega
  |m+1=>
   rw[Ty ht hp hk m r (by omega) (by omega)];constructor
   .rintro (⟨u,h1,b⟩ | h1)
    .exact⟨u,h1,.up e c b⟩
    exact⟨w,h1,.refl⟩
   rintro⟨u,h1,b⟩;rcases (WN e c).1 b with rfl|d
   .exact .inr h1
   exact .inl ⟨u,h1,d⟩
def NS {N L:Nat}{t:A2}(q:1000<=N)(h:okT t)(s:okC t L):∃r:Sl E8×Int,N6 N t=some r/\r.1.toList=Py (fun i j=>!Yo L (bT t i) (bT t j)) t.Has.n t.Has.n/\r.2=0:=by
 obtain⟨hL,d,a,hs⟩:=s;have hn:=h.1;unfold N6;rw[Tl q h ⟨hL,d,a,hs⟩,Av3,Lp (show ¬((0:Int) != 0)=true by decide)];have hw:∀i,i<t.Has.n->E4 N t (fun (u6:Int)=>I5 N u6 (t.Has.g i))=some (FL (fun j=>!Yo L (bT t i) (bT t j)) t.Has.n):=fun i b=>Wk (by omega) (by omega) fun j m=>by unfold I5;rw[Ad4 h b,Ad4 h m,Ad6 (hs i b) (hs j m) (by omega),Av3]
 have f:∀i,i<=t.Has.n->i*t.Has.n<=64*64:=fun i b=>Nat.mul_le_mul (by omega) a;refine Cb (fun i (x3:Sl E8) x4=>x4=(i:Int)/\x3.toList=Py (fun i j=>!Yo L (bT t i) (bT t j)) t.Has.n i) t.Has.n _ (by omega) ⟨rfl,rfl⟩ ?_;rintro o i x3 x4 b ⟨rfl,hx⟩ l;have u:x3.n<=64*64:=by rw[<- Wj x3,hx];exact Ay1 (Tk _ _ i) (f i b)
 by_cases c:i<t.Has.n
 .refine Ab (Aa ?_);rw[Au1];show ∃r,(E4 N t _).bind _=some r/\_;refine G5 (hw i c) ?_;have hl:=ZY (fun j=>!Yo L (bT t i) (bT t j)) t.Has.n;refine Km _ i x3 _ _ (by omega) fun z' v=>l c _ _ ⟨Li,?_⟩;rw[v,hx];exact congrArg _ (Ad7 (fun i j=>!Yo L (bT t i) (bT t j)) i t.Has.n)
 obtain rfl:i=t.Has.n:=by omega
 exact Jx ⟨_,rfl,hx,rfl⟩
def Tz {nf:Nat->Nat->Bool}{i n:Nat}:∀m,m<=n->(∀j,i<j->j<n->nf i j=false)->Yg nf i m=[]
 |0,_,_=>rfl
 |m+1,hm,h=>by
  rw[Px,Tz m (by omega) h,Lp]
  .rfl
  by_cases e:i<m
  .rw[h m e (by omega)];simp
  rw[decide_eq_false e];simp
def TA {nf:Nat->Nat->Bool}{n:Nat}(h:∀i j,i<j->j<n->nf i j=false):∀i,i<=n->Py nf n i=[]
 |0,_=>rfl
 |i+1,hi=>by show Py nf n i++Yg nf i n=[];rw[TA h i (by omega),Tz n (Au2 _) (fun j h1 a=>h i j h1 a)];rfl
end Go.AM
namespace Go.AM
open IntKind (wrap)
open Go.Proofs
def Ku {N:Nat}(hN:3000000<=N)(hW:G7 N=some true){x0:Gj}(hx:NR x0):W3 N x0=some true:=by
 obtain⟨⟨h,ok⟩,hM,hi,hs⟩:=YC hN hx;have hi:CU h:=hi;have hs:ok=true->WM N x0 h:=hs;refine eqR ?_;unfold W3;refine G5 hM (ltX ?_);cases ok
 .exact ifT rfl (ifT rfl (G5 hW ⟨_,rfl,rfl⟩))
 have hs:=hs rfl;have l:=hs.hist;refine ifF (by show ¬(!true)=true;decide) ?_;obtain⟨b,hb,_⟩:=WD hN hi (Sl.nil:Sl (Sl Mh));refine G5 hb ?_;cases b
 .exact ifT rfl (G5 hW ⟨_,rfl,rfl⟩)
 refine K8 ?_;have hn10:=hs.n;have hm6:=hs.laws;have hon:=l.on;have hn1:=l.tree.1;dsimp only;have hrep:H9 N (Sl.of [-1]:Sl Int) (h.Laws.n:Int)=some (Sl.rep h.Laws.n (-1)):=by unfold H9;rw[Ln ⟨rfl,by omega,by omega⟩,Au1];rfl
 refine G5 hrep (Aa ?_);refine Ad3 (fun v (x5:Sl Int) (x6:Sl (Sl Int)) x7=>x7=(v:Int)/\IU h.Laws.n h.Tree.n x5 x6 v 0) h.On.n _ (by omega) ⟨rfl,⟨rfl,by show (h.On.n:Int).toNat=_;omega,fun k hk=>.inl rfl,fun u hu j hj=>Lq hj (AA9 j),fun k hk u hu e=>by exfalso;have e:(-1:Int)=(u:Int):=e;omega,fun u hu=>AC5 _⟩⟩ ?_;rintro self3 v p on x7 hv ⟨rfl,hp⟩ hs3;by_cases hvl:v<h.On.n
 .refine Ab (Aa ?_);rw[Au1];have h5:=hs.five v (by omega);have a4:∀j,j<(h.On.g v).n->0<=(h.On.g v).g j/\(h.On.g v).g j<h.Laws.n:=fun j hj=>by
   have:=l.bad v hvl
   exact⟨Int.not_lt.1 fun g=>this ⟨j,hj,.inl g⟩,Int.not_le.1 fun g=>this ⟨j,hj,.inr g⟩⟩
  generalize h.On.g v=row at h5 a4;refine Ad3 (fun j (x11:Sl Int) (x12:Sl (Sl Int)) x13=>x13=(j:Int)/\IU h.Laws.n h.Tree.n x11 x12 v j) row.n _ (by omega) ⟨rfl,hp⟩ ?_;rintro self4 j p2 on2 x13 hj ⟨rfl,y⟩ hs4;have e1:=y.pn;have e2:=y.onn;have hdv:=y.d v (by omega);rw[Lp (AH5 v),Ln rfl]at hdv;by_cases hjl:j<row.n
  .obtain⟨g1,g2⟩:=a4 j hjl;obtain⟨k,hk⟩:∃k:Nat,row.g j=(k:Int):=⟨(row.g j).toNat,by omega⟩;refine Ab (Aa (Aa ?_));rw[Au1,hk,Au1];have hkl:k<h.Laws.n:=by omega
   refine Aa ?_;by_cases a5:p2.g k<0
   .exact ifT (by simpa using a5) (ifT ⟨⟨⟨by omega,by omega⟩,by show ((on2.g v).n+1)*8<=_/\(on2.g v).n+1<=_;omega⟩,by omega⟩ (hs4 hjl _ _ _ ⟨Li,Ve y (by omega) hkl a5⟩))
   refine ifF (by simpa using a5) (hs4 hjl _ _ _ ⟨Li,?_⟩);rw[YE];exact PK y fun u _=>by
    by_cases a:u<v
    .rw[Ln a,Ln a];exact Au2 _
    rw[Lp a,Lp a];by_cases a:u=v
    .rw[Ln a,Ln a];omega
    rw[Lp a,Lp a];exact Au2 _
  obtain rfl:j=row.n:=by omega
  refine Jx (hs3 hvl _ _ _ ⟨Li,PK y fun u _=>?_⟩);by_cases a:u<v
  .rw[Ln a,Lj];exact Au2 _
  rw[Lp a];by_cases a:u=v
  .rw[Ln a,Lj];exact h5
  rw[Lp a];exact AC5 _
 obtain rfl:v=h.On.n:=by omega
 refine Jx ?_;clear hs3;have hd5:∀u,u<h.Tree.n->(on.g u).n<=5:=fun u hu=>by have:=hp.d u hu;rw[Lj]at this;exact this
 have hpn:=hp.pn;have honn:=hp.onn;have hok' : IT N (⟨h.Tree,h.Laws,on⟩:A6):=by
  refine⟨l.tree,l.laws,l.dup,hp.onn,?_,fun v hv=>?_⟩
  .rintro⟨v,hv,hlong⟩;have hv:v<on.n:=hv
   have:=Io (h:=(⟨h.Tree,h.Laws,on⟩:A6)) l.tree hd5 v v (Au2 _) (by show v<h.Tree.n;omega)
   omega
  have hv:v<on.n:=hv;rintro⟨j,hj,hbad⟩;have hj:j<(on.g v).n:=hj;have hbad:(on.g v).g j<0 \/ ((h.Laws.n:Nat):Int)<=(on.g v).g j:=hbad;obtain⟨k,h1,h2,_⟩:=hp.b v (by omega) j hj;omega
 have hi' : CU (⟨h.Tree,h.Laws,on⟩:A6):=⟨hi.laws,hi.tree,by show on.n<_;omega,fun v hv=>by have hv:v<on.n:=hv;have:=hd5 v (by omega);show (on.g v).n<_;omega⟩;obtain⟨ls,e',hl1,_,hl3⟩:=Vc hN hi.tree;rcases hl3 with⟨_,rfl,a0⟩ | ⟨g,_⟩
 case inr=>exact Lq l.tree g
 have hK:ls.n<=10:=by rw[a0];exact Ay1 (RR _ _) hn10
 have hlv:P5 N (⟨h.Tree,h.Laws,on⟩:A6)=some (ls,0):=by unfold P5;rw[hl1,Av3,Lp (by show ¬((0:Int) != 0)=true;decide),Lp (by simp;omega)]
 obtain⟨⟨t,et⟩,hF,het,m,s⟩:=WH hN hi' hok' a0 (by omega) hlv;have het:et=0:=het;subst het;have m:t.Langs=(ls.n:Int):=m;have s:t.Has.toList=WF (⟨h.Tree,h.Laws,on⟩:A6):=s;have hHn:t.Has.n=h.Laws.n:=by rw[<- Wj t.Has,s,WF];simp
 have hHg:∀k,k<h.Laws.n->t.Has.g k=U (Rh (DN (⟨h.Tree,h.Laws,on⟩:A6) k) ls.n):=fun k hk=>by
  have e:t.Has.toList[k]? = some (t.Has.g k):=by unfold Sl.toList;rw[Au3,AF4 (by omega)];rfl
  rw[s,WF,Au3,AF4 (show k<(⟨h.Tree,h.Laws,on⟩:A6).Laws.n from hk)]at e;rw[a0];exact (Ay2 e).symm
 have c:∀k,k<h.Laws.n->∀b,b<ls.n->(DN (⟨h.Tree,h.Laws,on⟩:A6) k b=true ↔ ∃u:Nat,p.g k=(u:Int)/\Anc h.Tree u (U4 h b)):=fun k hk b hb=>by obtain⟨h1,_⟩:=RW (h:=h) (k:=b) (by rw[<- a0];exact hb);exact Ty (h:=(⟨h.Tree,h.Laws,on⟩:A6)) l.tree hp hk _ _ (Au2 _) h1
 refine G5 hF (G5 hl1 ?_);refine ifF (by show ¬((0:Int) != 0)=true;decide) ?_;refine ifF (by show ¬decide ((32:Int)<(ls.n:Int))=true;simp;omega) (ltX ?_);have hT:okT t:=⟨by omega,fun k hk=>⟨_,hHg k (by omega)⟩⟩;have hbT:∀k,k<h.Laws.n->bT t k=Rh (DN (⟨h.Tree,h.Laws,on⟩:A6) k) ls.n:=fun k hk=>by rw[bT,hHg k hk];show BitVec.ofNat 64 ((Rh _ _).toNat:Int).toNat=_;rw[Au1];simp
 have hC:okC t ls.n:=⟨m,by omega,by omega,fun k hk b h1 h2=>by rw[hbT k (by omega),NQ _ _ (by omega) _ h2,decide_eq_false (by omega)];rfl⟩
 refine ifF (by show ¬((0:Int) != 0)=true;decide) ?_;refine G5 (Tl (N:=N) (by omega) hT hC) ?_;refine ifF (by show ¬((0:Int) != 0)=true;decide) ?_;refine ifF (by show ¬(t.Langs != (ls.n:Int))=true;simp[m]) ?_;refine ifF (by show ¬((t.Has.n:Int) != (h.Laws.n:Int))=true;simp[hHn]) ?_;obtain⟨⟨cl,ce⟩,hc1,hc2,hc3⟩:=NS (N:=N) (by omega) hT hC;have hc3:ce=0:=hc3;subst hc3;have hc2:cl.toList=_:=hc2;have hfit:∀i j,i<h.Laws.n->j<h.Laws.n->Yo ls.n (bT t i) (bT t j)=true:=fun i j q a1=>by
  have bit:∀k,k<h.Laws.n->∀b,b<ls.n->(bT t k).getLsbD b=DN (⟨h.Tree,h.Laws,on⟩:A6) k b:=fun k hk b hb=>by rw[hbT k hk,NQ _ _ (by omega) _ (by omega),decide_eq_true hb];rfl
  unfold Yo;by_cases a6:UT (fun k=>(bT t i).getLsbD k&&(bT t j).getLsbD k) ls.n=true
  .obtain⟨b,hb1,hb2⟩:=anyN_iff.1 a6;rw[Au0,bit i q b hb1,bit j a1 b hb1,c i q b hb1,c j a1 b hb1]at hb2;obtain⟨⟨u,hu1,hu2⟩,⟨w,hw1,hw2⟩⟩:=hb2;by_cases hle:u<=w
   .have huw:=WO hw2 hu2 hle;have hno:UT (fun k=>(!(bT t i).getLsbD k)&&(bT t j).getLsbD k) ls.n=false:=by rw[AG5];intro h1;obtain⟨d,o,f⟩:=anyN_iff.1 h1;rw[Au0,bit i q d o,bit j a1 d o,c j a1 d o,Av1]at f;obtain⟨f,w',hw3,hw4⟩:=f;rw[hw1]at hw3;obtain rfl:=AH4 hw3;rw[(c i q d o).2 ⟨u,hu1,hw4.trans huw⟩]at f;cases f
    rw[hno];simp
   have huw:=WO hu2 hw2 (by omega);have hno:UT (fun k=>(bT t i).getLsbD k && !(bT t j).getLsbD k) ls.n=false:=by rw[AG5];intro h1;obtain⟨d,o,f⟩:=anyN_iff.1 h1;rw[Au0,bit i q d o,bit j a1 d o,c i q d o,Av1]at f;obtain⟨⟨u',hu3,hu4⟩,f⟩:=f;rw[hu1]at hu3;obtain rfl:=AH4 hu3;rw[(c j a1 d o).2 ⟨w,hw1,hu4.trans huw⟩]at f;cases f
   rw[hno];simp
  rw[AD6]at a6;rw[a6];rfl
 have hcn:cl.n=0:=by rw[<- Wj cl,hc2,TA (fun i j h1 h2=>by rw[hfit i j (by omega) (by omega)];rfl) _ (Au2 _)];rfl
 refine G5 hc1 ?_;refine (ifF (by show ¬(((0:Int) != 0)||((cl.n:Int) != 0))=true;simp[hcn]) ?_);refine DL (fun k x21=>x21=(k:Int)) p.n _ (by omega) rfl ?_;rintro self13 k x21 hk rfl hs13;by_cases hkl:k<p.n
 .refine Ab (Aa ?_);rw[Au1];have hkm:k<h.Laws.n:=by omega
  refine Cb (fun b (x28 x29:Int)=>x29=(b:Int)/\x28=U (Rh (DN (⟨h.Tree,h.Laws,on⟩:A6) k) b)) ls.n _ (by omega) ⟨rfl,rfl⟩ ?_;rintro x b x28 x29 hb ⟨rfl,rfl⟩ hs16;by_cases hbl:b<ls.n
  .refine Ab (ifT (by show ((0:Int)<=(b:Int)/\(b:Int)<(ls.n:Int))/\(b:Int).toNat<ls.n;omega) ?_);rw[Au1];obtain⟨hlf1,hlf2⟩:=RW (h:=h) (k:=b) (by rw[<- a0];exact hbl);rw[<- a0]at hlf2;rw[hlf2];have a2:=c k hkm b hbl;have hyes:DN (⟨h.Tree,h.Laws,on⟩:A6) k b=true->∃r,x (E7 .or .u64 (U (Rh (DN (⟨h.Tree,h.Laws,on⟩:A6) k) b)) (shI .shl .u64 1 (b:Int))) (wrap .i64 ((b:Int)+1))=some r/\r=true:=fun e=>hs16 hbl _ _ ⟨Li,by
    have:=Tu (z:=Rh (DN (⟨h.Tree,h.Laws,on⟩:A6) k) b) (k:=b) (by omega) false
    rw[show NP (Rh (DN (⟨h.Tree,h.Laws,on⟩:A6) k) b) b false=Rh (DN (⟨h.Tree,h.Laws,on⟩:A6) k) b from rfl]at this;rw[this];show _=U (NP _ b (DN (⟨h.Tree,h.Laws,on⟩:A6) k b));rw[e]⟩
   have hnot:DN (⟨h.Tree,h.Laws,on⟩:A6) k b=false->∃r,x (U (Rh (DN (⟨h.Tree,h.Laws,on⟩:A6) k) b)) (wrap .i64 ((b:Int)+1))=some r/\r=true:=fun e=>hs16 hbl _ _ ⟨Li,by show _=U (NP _ b (DN (⟨h.Tree,h.Laws,on⟩:A6) k b));rw[e];rfl⟩
   generalize U4 h b=w0 at hlf1 a2;rcases hp.a k hkm with a3|⟨u,hu,a3⟩
   .have hf:DN (⟨h.Tree,h.Laws,on⟩:A6) k b=false:=by rw[AG5];intro g;obtain⟨u,hu,_⟩:=a2.1 g;omega
    obtain⟨M,rfl⟩:∃M,N=M+1:=⟨N-1,by omega⟩;rw[Co];refine ifF (by rw[a3];simp) (ifF (by rw[a3];simp) (hnot hf))
   have a2:DN (⟨h.Tree,h.Laws,on⟩:A6) k b=true↔Anc h.Tree u w0:=by
    rw[a2];constructor
    .rintro⟨u',h1,h2⟩;rw[a3]at h1;obtain rfl:=AH4 h1;exact h2
    exact fun h2=>⟨u,a3,h2⟩
   refine DL (fun i x31=>∃w:Nat,x31=(w:Int)/\w+i<=w0/\(Anc h.Tree u w↔Anc h.Tree u w0)) w0 _ (by omega) ⟨w0,rfl,by omega,AF7⟩ ?_;rintro self17 i x31 q ⟨w,rfl,hwi,a7⟩ hs17;rw[a3];by_cases huw:u<w
   .refine Ab (Aa ?_);rw[Au1];rcases Q2 l.tree (show w<h.Tree.n by omega)with⟨e,_⟩ | ⟨r,hr,e⟩
    .omega
    rw[e];refine hs17 (by omega) _ ⟨r,rfl,by omega,?_⟩;rw[<- a7,WN e hr];constructor
    .exact .inr
    rintro (h1|h1)
    .omega
    exact h1
   refine Fa ?_;by_cases e:w=u
   .subst e;exact An (Aa (hyes (a2.2 (a7.1 .refl))))
   refine Fa (hnot ?_);rw[AG5];intro g
   have:=(a7.2 (a2.1 g)).le
   omega
  obtain rfl:b=ls.n:=by omega
  refine Jx (ifT (by show (0:Int)<=(k:Int)/\(k:Int)<(t.Has.n:Int);omega) (ifF ?_ (hs13 hkl _ (Li))));show ¬(t.Has.g k != _)=true;rw[hHg k hkm];simp
 obtain rfl:k=p.n:=by omega
 exact Jx (G5 hW ⟨_,rfl,rfl⟩)
end Go.AM
namespace Go.AM
open Go.RowKit Go.ChangeShapes Go.WideShapes Go.ChangeAt Go.Deep Go.Proofs Go.Proofs.YtfcfdofmgkpmbaaGreatDoor
section
variable {H:Type}{enc:TypeId×Value->H}{P:Program}{W:World}
theorem Ae3 {cs:Array Value}{pvs:List PV}(h:CRep W (Value.agg cs).cells.toList pvs):RepP W (fun _ _=>False) (.agg cs) (.agg pvs):=by
 obtain⟨h1,a⟩:=h;have hc:(Value.agg cs).cells.toList=cs.toList:=rfl;rw[hc]at h1 a;have e:∀i,cs.toList.getD i undef=cs.getD i undef:=fun i=>by simp[At6,At8]
 exact .agg cs pvs (by simpa using h1) (fun i b=>by rw[<- e];exact (a i b).2) fun i b=>by rw[<- e];exact (a i b).1
end
theorem YF {n:Int}(hw:(Lit.int .u32 n).wf=true):∃p:BitVec 32,n=(p.toNat:Int):=by
 simp only[Lit.wf,IntKind.min,IntKind.max,IntKind.signed,IntKind.bits,Au0,Mf]at hw;refine⟨BitVec.ofNat 32 n.toNat,?_⟩;rw[AF5];have a:0<=n:=by have:=hw.1;simpa using this
 have h1:n<4294967296:=by have:=hw.2;simp at this;omega
 rw[AB4 (by omega),Int.toNat_of_nonneg a]
end Go.AM
namespace Go.AM
open Go.RowKit Go.ChangeShapes Go.WideShapes Go.ChangeAt Go.Deep Go.Proofs Go.Proofs.YtfcfdofmgkpmbaaGreatDoor
set_option maxRecDepth 100000
def JO (x:Mh):Prop:=((Lit.int .u32 x.Plus).wf=true)/\((Lit.int .u32 x.Minus).wf=true)
def Cc (x:Mh):Nat:=1+1+1
def GN:LT Tryz.prog D4 A0 JO Cc:=by intro m pvs h;obtain⟨m0,h,a⟩:=Br Tryz.underlying87 h;obtain⟨a0,b0,p0,q0,rfl,b,h,c⟩:=D3 h;obtain⟨x0,l0,w0,s0⟩:=O8 AE5 _ _ b;have s0:1<=a0:=s0;obtain⟨a1,b1,p1,q1,rfl,h1,h,d⟩:=D3 h;obtain⟨x1,l1,w1,s1⟩:=O8 AE5 _ _ h1;have s1:1<=a1:=s1;obtain rfl:=DD h;exact⟨⟨x0,x1⟩,LeDs.append l0 (LeDs.append l1 LeDs.nil),⟨w0,w1⟩,by simp only[Cc];omega⟩
def WQ {x:Mh}(h:JO x):okS x:=by obtain⟨p,hp⟩:=YF h.1;obtain⟨q,a⟩:=YF h.2;exact⟨p,q,by cases x;simp_all [sOf]⟩
abbrev TB (x:Pat):Prop:=okPS x
abbrev PL (x:Pat):Nat:=1
def PM:LT Tryz.prog DO B1 TB PL:=by
 intro m
 induction m using Nat.strongRecOn with
 |ind m ih=>
 intro pvs h;obtain⟨m0,h,d⟩:=Br Tryz.underlying121 h;obtain⟨a0,b0,p0,q0,rfl,j,h,l⟩:=D3 h;obtain⟨x0,l0,w0,s0⟩:=O8 Az7 _ _ j;have s0:1<=a0:=s0;obtain⟨a1,b1,p1,q1,rfl,h1,h,o⟩:=D3 h;obtain⟨x1,l1,w1,s1⟩:=GN _ _ h1;have s1:Cc x1<=a1:=s1;obtain⟨a2,b2,p2,q2,rfl,q,h,r⟩:=D3 h;obtain⟨x2,l2,w2,s2⟩:=UB AB9 _ _ q;have s2:1<=a2:=s2;obtain⟨a3,b3,p3,q3,rfl,s,h,t⟩:=D3 h;obtain⟨x3,l3,w3,s3⟩:=O8 Az7 _ _ s;have s3:1<=a3:=s3;obtain⟨a4,b4,p4,q4,rfl,u,h,v⟩:=D3 h;obtain⟨x4,l4,w4,s4⟩:=O8 Az7 _ _ u;have s4:1<=a4:=s4;obtain⟨a5,b5,p5,q5,rfl,w,h,y⟩:=D3 h;obtain rfl:=DD h;have a:Tryz.prog.cellsOf 121=7:=by kernel_rfl
 cases w with
 |int ht'=>rw[AC4]at ht';cases ht'
 |bool ht'=>rw[AC4]at ht';cases ht'
 |str ht'=>rw[AC4]at ht';cases ht'
 |struct ht'=>rw[AC4]at ht';cases ht'
 |arr ht'=>rw[AC4]at ht';cases ht'
 | @slice _ _ e' n f ms ht' hl hel hm=>rw[AC4]at ht';cases ht';rw[a];rw[MI]at hm;obtain⟨g,c⟩:=choose_lt (α:=Pat) (p:=fun i x=>LeDs (f i) (B1 x)/\TB x/\1<=ms i) fun i b=>ih (ms i) (by have:=Wg ms b;omega) _ (hel i b);exact⟨.mk x0 x1 x2 x3 x4 n g,LeDs.append l0 (LeDs.append l1 (LeDs.append l2 (LeDs.append l3 (LeDs.append l4 (.cons (.sl fun i b=>(c i b).1) .nil))))),⟨WQ w1,fun i b=>(c i b).2.1⟩,by show 1<=m;omega⟩
def RX (x:AC):Prop:=((Lit.int .i64 x.From).wf=true)/\((Lit.int .u32 x.Clear).wf=true)/\(JO x.Set)/\((Lit.int .u32 x.Take).wf=true)/\((Lit.int .i64 x.Of).wf=true)
def Ip (x:AC):Nat:=1+1+Cc x.Set+1+1+1
def Vf:LT Tryz.prog Wi O7 RX Ip:=by intro m pvs h;obtain⟨m0,h,a⟩:=Br Tryz.underlying155 h;obtain⟨a0,b0,p0,q0,rfl,b,h,c⟩:=D3 h;obtain⟨x0,l0,w0,s0⟩:=O8 Az7 _ _ b;have s0:1<=a0:=s0;obtain⟨a1,b1,p1,q1,rfl,h1,h,d⟩:=D3 h;obtain⟨x1,l1,w1,s1⟩:=O8 AE5 _ _ h1;have s1:1<=a1:=s1;obtain⟨a2,b2,p2,q2,rfl,f,h,g⟩:=D3 h;obtain⟨x2,l2,w2,s2⟩:=GN _ _ f;have s2:Cc x2<=a2:=s2;obtain⟨a3,b3,p3,q3,rfl,i,h,j⟩:=D3 h;obtain⟨x3,l3,w3,s3⟩:=O8 AE5 _ _ i;have s3:1<=a3:=s3;obtain⟨a4,b4,p4,q4,rfl,l,h,n⟩:=D3 h;obtain⟨x4,l4,w4,s4⟩:=O8 Az7 _ _ l;have s4:1<=a4:=s4;obtain rfl:=DD h;exact⟨⟨x0,x1,x2,x3,x4⟩,LeDs.append l0 (LeDs.append l1 (LeDs.append l2 (LeDs.append l3 (LeDs.append l4 LeDs.nil)))),⟨w0,w1,w2,w3,w4⟩,by simp only[Ip];omega⟩
def TC (x:Law):Prop:=(True)/\(TB x.Left)/\(TB x.Right)/\(∀i,i<x.If.n->JO (x.If.g i))/\(∀i,i<x.Out.n->RX (x.Out.g i))/\((Lit.int .i64 x.Mode).wf=true)
def Hj (x:Law):Nat:=(x.Name.length+1)+PL x.Left+PL x.Right+(IO (fun i=>Cc (x.If.g i)) x.If.n+1)+(IO (fun i=>Ip (x.Out.g i)) x.Out.n+1)+1+1
def WR:LT Tryz.prog Ct A9 TC Hj:=by intro m pvs h;obtain⟨m0,h,a⟩:=Br Tryz.underlying124 h;obtain⟨a0,b0,p0,q0,rfl,b,h,c⟩:=D3 h;obtain⟨x0,l0,w0,s0⟩:=Wh AF2 _ _ b;have s0:(x0.length+1)<=a0:=s0;obtain⟨a1,b1,p1,q1,rfl,h1,h,d⟩:=D3 h;obtain⟨x1,l1,w1,s1⟩:=PM _ _ h1;have s1:PL x1<=a1:=s1;obtain⟨a2,b2,p2,q2,rfl,f,h,j⟩:=D3 h;obtain⟨x2,l2,w2,s2⟩:=PM _ _ f;have s2:PL x2<=a2:=s2;obtain⟨a3,b3,p3,q3,rfl,l,h,o⟩:=D3 h;obtain⟨x3,l3,w3,s3⟩:=Cp Tryz.underlying76 (by kernel_rfl) GN _ _ l;have s3:(IO (fun i=>Cc (x3.g i)) x3.n+1)<=a3:=s3;obtain⟨a4,b4,p4,q4,rfl,q,h,r⟩:=D3 h;obtain⟨x4,l4,w4,s4⟩:=Cp Tryz.underlying122 (by kernel_rfl) Vf _ _ q;have s4:(IO (fun i=>Ip (x4.g i)) x4.n+1)<=a4:=s4;obtain⟨a5,b5,p5,q5,rfl,s,h,t⟩:=D3 h;obtain⟨x5,l5,w5,s5⟩:=O8 Az7 _ _ s;have s5:1<=a5:=s5;obtain rfl:=DD h;exact⟨⟨x0,x1,x2,x3,x4,x5⟩,LeDs.append l0 (LeDs.append l1 (LeDs.append l2 (LeDs.append l3 (LeDs.append l4 (LeDs.append l5 LeDs.nil))))),⟨w0,w1,w2,w3,w4,w5⟩,by simp only[Hj];omega⟩
end Go.AM
namespace Go.AM
def WS {f:Nat->Nat}(h:∀i,1<=f i):∀n,n<=IO f n
 |0=>AC5 _
 |n+1=>by
  have:=WS h n
  have:=h n
  show n+1<=IO f n+f n;omega
def An5 {x:AC}(h:RX x):okO x:=⟨WQ h.2.2.1,YF h.2.1,YF h.2.2.2.1⟩
def YG {l:Law}(h:TC l)(hs:Hj l<=1048576):RM l:=by obtain⟨_,h1,b,c,d,_⟩:=h;unfold Hj at hs;have g1:=WS (f:=fun i=>Cc (l.If.g i)) (fun i=>by simp only[Cc];omega) l.If.n;have g2:=WS (f:=fun i=>Ip (l.Out.g i)) (fun i=>by simp only[Ip];omega) l.Out.n;exact⟨⟨h1,b,fun i a=>WQ (c i a)⟩,by omega,by omega,by omega,fun i a=>An5 (d i a)⟩
def WT {x:Sl Law}(h:∀i,i<x.n->TC (x.g i))(hs:IO (fun i=>Hj (x.g i)) x.n+1<=1048576):Wv x:=fun i a=>
 YG (h i a) (by have:=Wg (fun i=>Hj (x.g i)) a;have this:Hj (x.g i)<=_:=this;omega)
end Go.AM
namespace Go.AM
open Go.RowKit Go.ChangeShapes Go.WideShapes Go.ChangeAt Go.Deep Go.Proofs Go.Proofs.YtfcfdofmgkpmbaaGreatDoor
set_option maxRecDepth 100000
def TD (x:Gj):Prop:=(∀i,i<x.Parents.n->(Lit.int .u8 (x.Parents.g i)).wf=true)/\(∀i,i<x.Laws.n->TC (x.Laws.g i))/\(∀i,i<x.On.n->(Lit.int .u16 (x.On.g i)).wf=true)
def Hk (x:Gj):Nat:=(IO (fun i=>1) x.Parents.n+1)+(IO (fun i=>Hj (x.Laws.g i)) x.Laws.n+1)+(IO (fun i=>1) x.On.n+1)+1
def RY:LT Tryz.prog Rv Cq TD Hk:=by intro m pvs h;obtain⟨m0,h,a⟩:=Br Tryz.underlying75 h;obtain⟨a0,b0,p0,q0,rfl,b,h,c⟩:=D3 h;obtain⟨x0,l0,w0,s0⟩:=Cp AI8 (by kernel_rfl) (O8 Az8) _ _ b;have s0:(IO (fun i=>1) x0.n+1)<=a0:=s0;obtain⟨a1,b1,p1,q1,rfl,h1,h,d⟩:=D3 h;obtain⟨x1,l1,w1,s1⟩:=Cp Tryz.underlying51 (by kernel_rfl) WR _ _ h1;have s1:(IO (fun i=>Hj (x1.g i)) x1.n+1)<=a1:=s1;obtain⟨a2,b2,p2,q2,rfl,f,h,j⟩:=D3 h;obtain⟨x2,l2,w2,s2⟩:=Cp Tryz.underlying73 (by kernel_rfl) (O8 Tryz.underlying182) _ _ f;have s2:(IO (fun i=>1) x2.n+1)<=a2:=s2;obtain rfl:=DD h;exact⟨⟨x0,x1,x2⟩,LeDs.append l0 (LeDs.append l1 (LeDs.append l2 LeDs.nil)),⟨w0,w1,w2⟩,by simp only[Hk];omega⟩
end Go.AM
namespace Go.AM
def An6 {n:Int}(h:(Lit.int .u16 n).wf=true):∃k:Nat,n=(k:Int)/\k<65536:=by
 simp only[Lit.wf,IntKind.min,IntKind.max,IntKind.signed,IntKind.bits,Au0,Mf]at h;have a:0<=n:=by have:=h.1;simpa using this
 have h1:n<65536:=by have:=h.2;simp at this;omega
 exact⟨n.toNat,by omega,by omega⟩
def Vg {x:Gj}(w:TD x)(hs:Hk x<=1048576):NR x:=by unfold Hk at hs;exact⟨fun i a=>Ae4 (w.1 i a),WT w.2.1 (by omega),fun i a=>An6 (w.2.2 i a)⟩
end Go.AM
namespace Go.AM
open Go.RowKit Go.ChangeShapes Go.WideShapes Go.ChangeAt Go.Deep Go.Proofs Go.Proofs.YtfcfdofmgkpmbaaGreatDoor
namespace InClades
set_option maxRecDepth 100000
def contract (H:Type)(enc:TypeId×Value->H)(W:World)(base:Nat)(args:Array Value)(ds gs:List (DataW H))(before:List MemPlace)
 (a:∀(j:Nat) t v,Tryz.f11.params[j]? = some t->args[j]? = some v->Value.okWide Tryz.prog W .any base t v)
 (m:DataW.Whole enc Tryz.prog Tryz.f11.params.toList Rows.innovCladesSpec.vars false W args.toList ds gs before) (hk:Rows.uptoSmall H (ds++gs)=true) (hL:laidMetH Tryz.prog Rows.innovCladesUptoRow.laid W) :
 Calls Tryz.prog 11 args W fun e W'=>∃v,e=.returned v/\Rows.innovCladesSpec.post enc Tryz.prog Tryz.f11 false true false false W args v W':=by
 have c:=m;obtain⟨p,q,d,o,rfl,r,s⟩:=m;have n:DataW.TrodAll enc Tryz.prog W 0 (fun _=>true) true Tryz.f11.params.toList args.toList ds p:=d;rw[AM2]at n a;obtain⟨v0,vs0,d0,ds0,p0,q0,f,rfl,rfl,u,r0⟩:=trodAll_cons n;obtain⟨rfl,rfl,rfl⟩:=trodAll_nil r0;obtain rfl:args = #[v0]:=by cases args;simp_all
 obtain⟨rfl,rfl⟩:=trodVars_none o;have hb:=of_decide_eq_true hk;simp only[AA8,Rows.uptoBulkAll]at hb;obtain⟨cs0,b,_⟩:=okWide_struct Tryz.underlying75 (a 0 75 v0 rfl rfl);obtain⟨fu0,g0⟩:=u;have w:WU Tryz.prog [75,72,5,51,124,9,121,3,87,85,4,119,76,122,155,73,182]=true:=by kernel_rfl
 have g:∀t∈([75,72,5,51,124,9,121,3,87,85,4,119,76,122,155,73,182]:List Nat),t<Tryz.prog.types.size:=by decide +kernel
 obtain⟨pv0,c0,sh0⟩:=Iq Ae5 Ae6 w g fu0 75 _ _ (by simp) g0;obtain⟨x0,l0,w0,s0⟩:=RY _ _ sh0;have s0:Hk x0<=Rows.uptoBulk d0:=s0;have e0:=c0.leD l0;rw[b]at e0;have e0:=Ae3 e0;rw[<- b]at e0;have x:FunO (EQ Tryz.prog) AX [.p (.agg (Cq x0))] [] (.p (.bb true)) [] []:=
  Ij (Ae1 _) libC (Ku (N:=4194304) (by omega) US (Vg w0 (by omega)))
 have hc:=Hl (args:=[.agg (Cq x0)]) (enters_of DE (by decide +kernel) rfl) x (W:=W) (vs:=#[v0]) (WV hL) rfl (fun i y=>by
  match i,y with
  |0,_=>exact e0
  )
 refine hc.mono fun e W' ⟨z,l⟩=>?_;subst z;exact⟨_,rfl,TE rfl (by kernel_rfl) AB9 (by kernel_rfl) (by rw[AM2];decide +kernel) c rfl l⟩
def own:ownKnob Tryz.prog.godebug=none:=by kernel_rfl
def reads (os:Os){H:Type}(enc:TypeId×Value->H):∃places,DataW.whole enc Tryz.prog ((World.laidAll Tryz.prog os Rows.innovCladesUptoRow.laid).forCall (fun _ _=>0) ⟨#[],#[.agg #[.slice none 0 0,.slice none 0 0,.slice none 0 0]],[]⟩).memory Tryz.f11.params.toList Rows.innovCladesSpec.vars false (#[.agg #[.slice none 0 0,.slice none 0 0,.slice none 0 0]]:Array Value).toList 16=some ([.agg [.nil,.nil,.nil]],[],places):=
 ⟨[],by kernel_rfl⟩
def laid_met (os:Os):laidMet Tryz.prog Rows.innovCladesUptoRow.laid ((World.laidAll Tryz.prog os Rows.innovCladesUptoRow.laid).forCall (fun _ _=>0) ⟨#[],#[.agg #[.slice none 0 0,.slice none 0 0,.slice none 0 0]],[]⟩).memory:=
 laidMet_laidAll _ (by kernel_rfl) (by kernel_rfl)
def liftedUpto (os:Os)(started:os.Started)(H:Type)(enc:TypeId×Value->H)(F:Stop.Interp) :ReturnsInHanded {} Tryz.checked os 11 .any ((Rows.OpenSpec.upto Rows.innovCladesSpec).preRow enc Tryz.prog Tryz.f11 Rows.innovCladesUptoRow.domain false Rows.innovCladesUptoRow.laid) (((Rows.OpenSpec.upto Rows.innovCladesSpec).at F).post enc Tryz.prog Tryz.f11 false true false false):=by
 obtain⟨places,hx⟩:=reads os enc;refine returnsInHanded_of_row (C:=Tryz.checked) (s:=Rows.OpenSpec.upto Rows.innovCladesSpec) own started (by kernel_rfl) AN3
  (witness_row_at (enc:=enc) (C:=Tryz.checked) false (World.laidAll Tryz.prog os Rows.innovCladesUptoRow.laid) #[.agg #[.slice none 0 0,.slice none 0 0,.slice none 0 0]] (World.laidAll_os _ _ _) (by kernel_rfl) (by kernel_rfl) (by kernel_rfl)
   (AJ2 16 hx (by kernel_rfl) (fun k hk=>by cases hk;kernel_rfl) (by kernel_rfl) (laid_met os))) ?_
 intro W base args ds gs before b c _ a _ hL _ _;exact contract H enc W base args ds gs before b c (a _ rfl) hL
def gA:jA_ Tryz.pinned.checked.prog 11 Tryz.f11 (Rows.OpenSpec.upto Rows.innovCladesSpec).bare Rows.innovCladesUptoRow=true:=by kernel_rfl
def gB:jB_ Tryz.pinned.checked.prog 11 Tryz.f11 (Rows.OpenSpec.upto Rows.innovCladesSpec).bare Rows.innovCladesUptoRow=true:=by kernel_rfl
def gC:jC_ Tryz.pinned.checked.prog 11 Tryz.f11 (Rows.OpenSpec.upto Rows.innovCladesSpec).bare Rows.innovCladesUptoRow=true:=by kernel_rfl
def gD:jD_ Tryz.pinned.checked.prog 11 Tryz.f11 (Rows.OpenSpec.upto Rows.innovCladesSpec).bare Rows.innovCladesUptoRow=true:=by kernel_rfl
def gE:jE_ Tryz.pinned.checked.prog 11 Tryz.f11 (Rows.OpenSpec.upto Rows.innovCladesSpec).bare Rows.innovCladesUptoRow=true:=by kernel_rfl
def gF:jF_ Tryz.pinned.checked.prog 11 Tryz.f11 (Rows.OpenSpec.upto Rows.innovCladesSpec).bare Rows.innovCladesUptoRow=true:=by kernel_rfl
def saidUpto:Rows.InnovCladesUptoSaid:=
 AJ4 11 Tryz.f11 rfl rfl rfl rfl rfl rfl rfl ⟨rfl,rfl,rfl,rfl,rfl⟩ rfl rfl rfl rfl rfl (by kernel_rfl) AN3 (PN gA gB gC gD gE gF)
  (of_decide_eq_true (by kernel_rfl)) (by unfold Func.isWrapper;first|(rw[Ln (by decide +kernel)];kernel_rfl)|(rw[Lp (by decide +kernel)];exact⟨rfl,rfl⟩))
  (fun os started H enc _ F=>by rw[AJ6];exact liftedUpto os started H enc F)
def plain (f:FuncId)(fn:Func)(b:Tryz.pinned.checked.prog.funcNamed "ablaut/ablautlaw31.InnovClades" = some f)(a:Tryz.pinned.checked.prog.funcs[f]? = some fn) :true=Tryz.pinned.checked.prog.looks []/\∀(j:Nat) t,fn.params[j]? = some t->Tryz.pinned.checked.prog.wantsStandIn t=false:=by
 obtain rfl:f=11:=Ay2 ((show Tryz.prog.funcNamed "ablaut/ablautlaw31.InnovClades" = some 11 by kernel_rfl).symm.trans b) |>.symm;obtain rfl:fn=Tryz.f11:=(Ay2 (Tryz.func11.symm.trans a)).symm;refine⟨by kernel_rfl,fun j t ht=>?_⟩;rw[AM2]at ht;have hm:=AG7 ht;simp only[List.mem_toArray,Ax7,List.not_mem_nil,or_false]at hm;rcases hm with rfl
 exact (show Tryz.prog.wantsStandIn 75=false by kernel_rfl)
def cardUpto:Rows.InnovCladesUptoCardSaid:=
 AH9 .later [] _ _ _ _ saidUpto (fun _ h=>by cases h) (by kernel_rfl) (fun _ h=>by cases h) innovCladesUpto_row_tie rfl ⟨rfl,rfl⟩ (by kernel_rfl) rfl plain (by kernel_rfl)
end InClades
end Go.AM
