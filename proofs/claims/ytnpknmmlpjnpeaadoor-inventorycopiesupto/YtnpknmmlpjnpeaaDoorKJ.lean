/- Part 10. -/
import Derived.Test.YtnpknmmlpjnpeaaDoorKH
import Derived.Test.YtnpknmmlpjnpeaaDoorKI
import Derived.Test.YtnpknmmlpjnpeaaDoorKE
import Derived.Test.YtnpknmmlpjnpeaaDoorKG
set_option linter.defProp false
set_option linter.unusedSimpArgs false
set_option linter.unusedVariables false
set_option linter.unusedSectionVars false
namespace Go.AM
open Go.Proofs
abbrev fnd (n:Nat)(p:Nat->Bool):Option Nat:=(List.range n).find? p
def Gm {n:Nat}{p:Nat->Bool}(h:fnd n p=none){i:Nat}(a:i<n):p i=false:=by
 have:=List.find?_eq_none.1 h i (List.mem_range.2 a)
 simpa using this
def Dm {κ : Type}(eq : κ -> κ -> Bool)(f:Nat -> κ)(z : κ):∀l:List Nat,Q4 eq z (l.map fun i=>(f i,(i:Int)))=(l.find? fun i=>eq z (f i)).map fun i=>((i:Nat):Int)
 |[]=>rfl
 |a::l=>by
  simp only[List.map_cons,Q4,List.find?_cons];cases h:eq z (f a)
  .simp only[Bool.false_eq_true,By];exact Dm eq f z l
  simp
def Kk (s:Sl C8)(k:Nat):List (Str×Int):=(List.range k).map fun i=>((s.g i).Symbol,(i:Int))
def Kl (s:Sl C8)(k:Nat):List (Cf×Int):=(List.range k).map fun i=>((s.g i).S,(i:Int))
def Kc (s:Sl C8)(z:Str)(k:Nat):Q4 eqS z (Kk s k)=(fnd k fun i=>z==(s.g i).Symbol).map fun i=>((i:Nat):Int):=Dm eqS _ z _
def Kd (s:Sl C8)(z:Cf)(k:Nat):Q4 D9 z (Kl s k)=(fnd k fun i=>D9 z (s.g i).S).map fun i=>((i:Nat):Int):=Dm D9 _ z _
structure IOk (v:A2):Prop where
 number:v.number=Gs v.feats v.feats.n
 symbols:v.symbols=Kk v.sounds v.sounds.n
 values:v.values=Kl v.sounds v.sounds.n
 feats:v.feats.n<=24
 sounds:v.sounds.n<=256
 sym:∀i,i<v.sounds.n->1<=(v.sounds.g i).Symbol.length/\(v.sounds.g i).Symbol.length<=4
def Py (a b:Cf):D9 a b=decide (a=b):=by rw[Bool.eq_iff_iff];cases a;cases b;simp only[D9,Bool.and_eq_true,beq_iff_eq,Bz,Cf.mk.injEq]
def LJ {N:Nat}(v:A2):G4 N v=some ((v.sounds.n:Nat):Int):=by unfold G4;simp[B0]
end Go.AM
namespace Go.AM
variable {N:Nat}
open Go.Proofs
def EE (s:Sl Str)(hn:s.n<N)(b:s.n<1000000000):B8 N s s=some true:=by
 unfold B8;rw[Bv (by simp)];refine Bq (fun i:Nat=>(i:Int)) s.n (some true) hn fun a i c=>?_;by_cases h:i<s.n
 .rw[Bh (by simp only[Bz];omega),Ai,Bv (by simp),Bh h,Af]
 rw[Bv (by simp only[Bz];omega),Bv h]
def Ke (s t:Sl C8)(a:s.n=t.n)(c:∀i,i<s.n->s.g i=t.g i)(hn:s.n<N)(d:s.n<1000000000):A6 N s t=some true:=by
 unfold A6;rw[Bv (by simp[a])];refine Bq (fun i:Nat=>(i:Int)) s.n (some true) hn fun b i f=>?_;by_cases h:i<s.n
 .rw[Bh (by simp only[Bz];omega),Ai,show (i:Int).toNat=i from rfl,c i h,Bv (by simp),Bh h,Af]
 rw[Bv (by simp only[Bz];omega),Bv h]
def Bj (s:Sl C8)(hn:s.n<N)(a:s.n<1000000000):A6 N s s=some true:=Ke s s rfl (fun _ _=>rfl) hn a
end Go.AM
namespace Go.AM
open Go.RowKit Go.ChangeShapes Go.WideShapes Go.ChangeAt Go.Deep Go.Proofs Go.Proofs.YtnpknmmlpjnpeaaDoor
set_option maxRecDepth 100000
def Gn (x:Cf):Prop:=((Lit.int .u32 x.Plus).wf=true)/\((Lit.int .u32 x.Minus).wf=true)
def Cs (x:Cf):Nat:=1+1+1
def DS:Ka Tryd.prog F3 A5 Gn Cs:=by intro m pvs h;obtain⟨m0,h,a⟩:=DE Tryd.underlying31 h;obtain⟨a0,b0,p0,q0,rfl,b,h,c⟩:=AB h;obtain⟨x0,l0,w0,s0⟩:=Hr Tryd.underlying29 _ _ b;have s0:1<=a0:=s0;obtain⟨a1,b1,p1,q1,rfl,h1,h,d⟩:=AB h;obtain⟨x1,l1,w1,s1⟩:=Hr Tryd.underlying29 _ _ h1;have s1:1<=a1:=s1;obtain rfl:=Fw h;exact⟨⟨x0,x1⟩,LeDs.append l0 (LeDs.append l1 LeDs.nil),⟨w0,w1⟩,by simp only[Cs];omega⟩
def Pz (x:Jj):Prop:=(True)/\(Gn x.S)
def P1 (x:Jj):Nat:=(x.Symbol.length+1)+Cs x.S+1
def Jo:Ka Tryd.prog CQ Dn Pz P1:=by intro m pvs h;obtain⟨m0,h,a⟩:=DE Tryd.underlying72 h;obtain⟨a0,b0,p0,q0,rfl,b,h,c⟩:=AB h;obtain⟨x0,l0,w0,s0⟩:=Gt Tryd.underlying9 _ _ b;have s0:(x0.length+1)<=a0:=s0;obtain⟨a1,b1,p1,q1,rfl,h1,h,d⟩:=AB h;obtain⟨x1,l1,w1,s1⟩:=DS _ _ h1;have s1:Cs x1<=a1:=s1;obtain rfl:=Fw h;exact⟨⟨x0,x1⟩,LeDs.append l0 (LeDs.append l1 LeDs.nil),⟨w0,w1⟩,by simp only[P1];omega⟩
end Go.AM
namespace Go.AM
def Nv {x:Cf}(h:Gn x):∃p q:BitVec 32,x=sOf p q:=by
 have one:∀n:Int,(Lit.int .u32 n).wf=true->∃p:BitVec 32,n=(p.toNat:Int):=fun n hw=>by
  simp only[Lit.wf,IntKind.min,IntKind.max,IntKind.signed,IntKind.bits,Bool.and_eq_true,Bz]at hw;refine⟨BitVec.ofNat 32 n.toNat,?_⟩;rw[BitVec.toNat_ofNat];have a:0<=n:=by have:=hw.1;simpa using this
  have h1:n<4294967296:=by have:=hw.2;simp at this;omega
  rw[Nat.mod_eq_of_lt (by omega),Int.toNat_of_nonneg a]
 obtain⟨p,hp⟩:=one _ h.1;obtain⟨q,b⟩:=one _ h.2;exact⟨p,q,by cases x;simp_all⟩
def LW {l:Sl Jj}{m:Nat}(h:Gp (fun i=>P1 (l.g i)) l.n+1<=m):l.n<m/\∀i,i<l.n->(l.g i).Symbol.length<m:=by
 have h1:∀n,n<=Gp (fun i=>P1 (l.g i)) n:=by
  intro n
  induction n with
  |zero=>exact Nat.zero_le _
  |succ n ih=>
   have:1<=P1 (l.g n):=by simp only[P1];omega
   show n+1<=Gp (fun i=>P1 (l.g i)) n+P1 (l.g n);omega
 refine⟨by have:=h1 l.n;omega,fun i a=>?_⟩;have b:=Pu (fun i=>P1 (l.g i)) a;have c:(l.g i).Symbol.length+1<=P1 (l.g i):=by simp only[P1];omega
 have d:P1 (l.g i)<=Gp (fun i=>P1 (l.g i)) l.n:=b;omega
end Go.AM
