/- Part 4. -/
import Derived.Test.YtnpknmmlpjnpeaaDoorKA
import Derived.Test.YtnpknmmlpjnpeaaDoorKC
import Derived.ProofKit
import Derived.WideKeyArgs
import Derived.Deep.Slices
import Derived.OpenShut
import Derived.KernelRfl
set_option linter.defProp false
set_option linter.unusedSimpArgs false
set_option linter.unusedVariables false
set_option linter.unusedSectionVars false
namespace Go.AM
inductive Cls where
 |n|r|w
 |l (js:List Nat)|a (js:List Nat)
 |b (js:List Nat)
 deriving DecidableEq,Inhabited
def OK:Cls->Cls->Bool
 |.n,_|_,.n | .r,.r | .r,.l _ | .l _,.r | .l _,.l _=>false
 |.l i,.a j | .a i,.l j | .a i,.a j | .l i,.b j | .b i,.l j=>i.any fun q=>j.contains q
 |_,_=>true
def Z2 (q:Nat):Cls->Bool
 |.w=>true
 |.a js | .b js=>js.contains q
 |_=>false
def JN (q:Nat):Cls->Bool
 |.n=>false
 |.l js | .a js=>js.contains q
 |_=>true
theorem Av {q:Nat}{c d:Cls}(h:Z2 q c=true)(h' : JN q d=true):OK c d=true/\OK d c=true:=by
 have hm:∀{i j:List Nat},i.contains q=true->j.contains q=true->(i.any fun q=>j.contains q)=true:=fun f g=>List.any_eq_true.2 ⟨q,by simpa using f,g⟩;cases c with
 |w=>cases d<;>first|(cases h';done)|exact⟨rfl,rfl⟩
 |a i=>
  cases d with
  |n=>cases h'
  |l j=>exact⟨hm h h',hm h' h⟩
  |a j=>exact⟨hm h h',hm h' h⟩
  |_=>exact⟨rfl,rfl⟩
 |b i=>
  cases d with
  |n=>cases h'
  |l j=>exact⟨hm h h',hm h' h⟩
  |_=>exact⟨rfl,rfl⟩
 |_=>cases h
theorem BS {q:Nat}{c:Cls}(h:Z2 q c=true):JN q c=true:=by cases c<;>first|(cases h;done)|rfl|exact h
def PL:List Nat->List Nat
 |[]=>[]
 |x::r=>if (PL r).contains x then PL r else x::PL r
theorem FY {x:Nat}:∀{l:List Nat},x∈PL l->x∈l
 |[],h=>h
 |y::r,h=>by
  unfold PL at h;split at h
  .exact List.mem_cons_of_mem _ (FY h)
  rcases List.mem_cons.1 h with rfl|h
  .exact List.mem_cons_self
  exact List.mem_cons_of_mem _ (FY h)
def JO (acc:List (List Nat))(o:Oper):List Nat:=PL ((o.after.toList.filter Z1).flatMap fun e=>e.on::acc.getD e.on [])
def FZ:List Oper->List (List Nat)->List (List Nat)
 |[],acc=>acc
 |o::r,acc=>FZ r (acc++[JO acc o])
def QP (ops:List Oper):List (List Nat):=FZ ops []
def HY:Operand->List Nat
 |.tmp t=>[t]
 |_=>[]
def reads (ops:List Oper)(o:Oper):List Nat:=o.op.operands.toList.flatMap HY++match o.guard with
 |some (j,_)=>[AJ ops j]
 |none=>[]
def Ba (ops:List Oper)(ci cj:Cls)(oi oj:Oper):Bool:=
 !OK ci cj &&
 (match oi.dst with|some d=>!(reads ops oj).contains d&&decide (oj.dst≠some d)|none=>true) &&
 (match oj.dst with|some d=>!(reads ops oi).contains d|none=>true)
def Es (ops:List Oper)(cls:List Cls):Bool:=
 Ds ops&&(cls.length==ops.length) &&
 (List.range ops.length).all fun j=>(List.range j).all fun i=>
  match ops[i]?,ops[j]? with
  |some oi,some oj=>((QP ops).getD j []).contains i||Ba ops (cls.getD i .n) (cls.getD j .n) oi oj
  |_,_=>true
def isP:AV->Bool
 |.p _=>true
 |_=>false
def isN (env:Env):Op->Bool
 |.move _ | .assign _ | .pick .. | .build .. | .nilCheck _ | .binOp .. | .unOp .. | .fieldAddr .. | .field .. | .index .. | .extract .. | .makeFunc ..=>true
 |.load _ a=>isP (aev env a)
 |.convert _ _ x=>isP (aev env x)
 |.makeInterface _ x=>isP (aev env x)
 |.indexAddr _ x _=>isP (aev env x)
 |.slice _ x _ _ _=>isP (aev env x)
 |.lookup _ m k _=>isP (aev env m)&&isP (aev env k)
 |.call { callee:=.builtin .len,args,.. }=>args.toList.all fun x=>isP (aev env x)
 |.call { callee:=.builtin .min,.. } | .call { callee:=.builtin .max,.. }=>true
 |_=>false
section
variable {P:Program}
theorem Ga {env:Env}{R R' : B4}{d:Nat}{o:Op}{c:List Prop}{v:AV}(hn:isN env o=true)(h:aop P env R d o=some ⟨c,v,R'⟩):R' = R/\∀R2,aop P env R2 d o=some ⟨c,v,R2⟩:=by
 cases o with
 |move x=>simp only[aop,Option.some.injEq,Out.mk.injEq]at h⊢;obtain⟨rfl,rfl,rfl⟩:=h;simp
 |assign x=>simp only[aop,Option.some.injEq,Out.mk.injEq]at h⊢;obtain⟨rfl,rfl,rfl⟩:=h;simp
 |pick x y z=>simp only[aop]at h⊢;split at h<;>simp_all
 |build t ps=>
  simp only[aop]at h⊢;split at h
  .split at h<;>simp_all
  cases h
 |nilCheck x=>simp only[aop]at h⊢;split at h<;>simp_all
 |binOp op t x y yt=>simp only[aop]at h⊢;split at h<;>simp_all
 |unOp op t x=>simp only[aop]at h⊢;split at h<;>simp_all
 |fieldAddr t x f=>simp only[aop]at h⊢;split at h<;>simp_all
 |field t x f=>simp only[aop]at h⊢;split at h<;>simp_all
 |index t x i=>
  simp only[aop]at h⊢;split at h
  .split at h<;>simp_all
  cases h
 |extract x i=>
  simp only[aop]at h⊢;split at h
  .split at h<;>simp_all
  cases h
 |makeFunc f a b=>cases f<;>simp only[aop]at h⊢<;>simp_all
 |load t a=>simp only[isN]at hn;simp only[aop]at h⊢;cases hx:aev env a<;>simp only[hx,isP,Bool.false_eq_true]at hn;simp only[hx]at h⊢;rename_i x;cases x<;>simp only[load]at h⊢<;>first|(cases h;done)|(split at h<;>simp_all)
 |convert s t x=>
  simp only[isN]at hn;cases hx:aev env x<;>simp only[hx,isP,Bool.false_eq_true]at hn;simp only[aop,hx]at h⊢;rename_i x;have j:∀R R2 k,elems R k (.p x)=elems R2 k (.p x):=by intro R R2 k;unfold elems;split<;>simp_all
  split at h
  .split at h<;>simp_all
  .split at h<;>simp_all
  .split at h<;>simp_all
  .split at h
   .split at h
    .rename_i n f w h3;simp only[Option.some.injEq,Out.mk.injEq]at h;obtain⟨rfl,rfl,rfl⟩:=h;refine⟨rfl,fun R2=>?_⟩;rw[j R R2]at h3
     simp_all
    cases h
   cases h
  cases h
 |makeInterface t x=>
  simp only[isN]at hn;cases hx:aev env x<;>simp only[hx,isP,Bool.false_eq_true]at hn;simp only[aop,hx,T5]at h⊢;split at h
  .rename_i h1 w;simp only[Option.some.injEq,Prod.mk.injEq]at h1;obtain⟨rfl,rfl⟩:=h1;split at h<;>simp_all
  cases h
 |indexAddr t x i=>
  simp only[isN]at hn;cases hx:aev env x<;>simp only[hx,isP,Bool.false_eq_true]at hn;rename_i y;simp only[aop,hx]at h⊢;split at h
  .rename_i n l;have j:∀R R2,Z7 P R t (.p y) n=Z7 P R2 t (.p y) n:=by intro R R2;unfold Z7;split<;>simp_all
   split at h
   .rename_i g;simp only[Option.some.injEq,Out.mk.injEq]at h;obtain⟨rfl,rfl,rfl⟩:=h;refine⟨rfl,fun R2=>?_⟩;rw[j R R2]at g;simp[g]
   cases h
  cases h
 |slice t x lo l mx=>
  cases mx with
  |some _=>simp[aop]at h
  |none=>
   simp only[isN]at hn;cases hx:aev env x<;>simp only[hx,isP,Bool.false_eq_true]at hn;rename_i y;have j:∀R R2 lo l c a R',Z8 P R t (.p y) lo l=some (c,a,R')->R' = R/\Z8 P R2 t (.p y) lo l=some (c,a,R2):=by
    intro R R2 lo l c a R' h;unfold Z8 at h⊢;split at h
    .split at h<;>simp_all
    .split at h
     .split at h<;>simp_all
     cases h
    .split at h<;>simp_all
    .split at h<;>simp_all
    .simp_all
    simp_all
   have fin:∀lo l,(match Z8 P R t (.p y) lo l with|some (c,a,regs)=>some (Out.mk c a regs)|none=>none)=some ⟨c,v,R'⟩ ->
    R' = R/\∀R2,(match Z8 P R2 t (.p y) lo l with|some (c,a,regs)=>some (Out.mk c a regs)|none=>none)=some ⟨c,v,R2⟩:=by
    intro lo l h;cases g:Z8 P R t (.p y) lo l with
    |none=>rw[g]at h;cases h
    |some q=>obtain⟨c',a',r'⟩:=q;rw[g]at h;simp only[Option.some.injEq,Out.mk.injEq]at h;obtain⟨rfl,rfl,rfl⟩:=h;refine⟨(j _ R _ _ _ _ _ g).1,fun R2=>?_⟩;simp only[(j _ R2 _ _ _ _ _ g).2]
   simp only[aop,hx]at h⊢;split at h<;>first|exact fin _ _ h|cases h
 |lookup t m k ok=>
  simp only[isN,Bool.and_eq_true]at hn;cases hm:aev env m<;>simp only[hm,isP,Bool.false_eq_true,false_and]at hn;rename_i y;cases hk:aev env k<;>simp only[hk,Bool.false_eq_true,and_false]at hn;rename_i z;have j:∀R R2 k,V5 P R t (.p y) k ok=V5 P R2 t (.p y) k ok:=by
   intro R R2 k;unfold V5;split
   .rename_i kt e ht;cases An P kt k with
    |false=>rfl
    |true=>
     cases y with
     |v u=>cases u<;>first|rfl|(rename_i r;cases r<;>rfl)
     |_=>rfl
   rfl
  simp only[aop,hm,hk,T5]at h⊢;split at h
  .rename_i g;simp only[Option.some.injEq,Out.mk.injEq]at h;obtain⟨rfl,rfl,rfl⟩:=h;refine⟨rfl,fun R2=>?_⟩;rw[j R R2]at g;simp[g]
  cases h
 |call c=>
  obtain⟨callee,args,types⟩:=c;cases callee with
  |builtin b=>
   cases b with
   |len=>
    simp only[aop]at h⊢;split at h
    .rename_i x t hx ht;simp only[isN,hx,List.all_cons,List.all_nil,Bool.and_true]at hn;have j:∀R R2,Kg P R t (aev env x)=Kg P R2 t (aev env x):=by intro R R2;cases hy:aev env x<;>simp only[hy,isP,Bool.false_eq_true]at hn;unfold Kg;split<;>simp_all
     cases g:Kg P R t (aev env x)with
     |none=>rw[g]at h;cases h
     |some q=>rw[g]at h;simp only[Option.some.injEq,Out.mk.injEq]at h;obtain⟨rfl,rfl,rfl⟩:=h;refine⟨rfl,fun R2=>?_⟩;rw[j R R2]at g;simp[g]
    cases h
   |min=>simp only[aop]at h⊢;split at h<;>simp_all
   |max=>simp only[aop]at h⊢;split at h<;>simp_all
   |_=>simp[isN]at hn
  |_=>simp[isN]at hn
 |_=>simp[isN]at hn
theorem Li {env env' : Env}{x:Operand}(h:∀t∈HY x,get env t=get env' t):aev env x=aev env' x:=by
 cases x with
 |tmp t=>exact h t (by simp[HY])
 |_=>rfl
theorem DA {env env' : Env}{place:Nat->Option (Nat×Nat)}:∀(l:List (Nat×Operand)) (cs:List AV),(∀q∈l,aev env q.2=aev env' q.2)->Dq env place l cs=Dq env' place l cs
 |[],cs,_=>rfl
 |(i,x)::r,cs,h=>by
  have hx:aev env x=aev env' x:=h (i,x) (by simp);simp only[Dq,hx];split
  .split
   .exact DA r _ fun q a=>h q (List.mem_cons_of_mem _ a)
   rfl
  rfl
theorem Ae {env env' : Env}{R:B4}{d:Nat}{o:Op}(h:∀x∈o.operands.toList,aev env x=aev env' x):aop P env R d o=aop P env' R d o:=by
 cases o with
 |build t ps=>
  have:∀q∈ps.toList,aev env q.2=aev env' q.2:=fun q g=>h q.2 (by simp only[Op.operands];simpa using ⟨q.1,by simpa using g⟩)
  simp only[aop,DA ps.toList _ this]
 |buildSlice t n ps=>
  have:(ps.toList.map fun q=>aev env q.2)=ps.toList.map fun q=>aev env' q.2:=List.map_congr_left fun q g=>h q.2 (by simp only[Op.operands];simpa using ⟨q.1,by simpa using g⟩)
  have j:(ps.toList.map fun q=>(q.1,aev env q.2))=ps.toList.map fun q=>(q.1,aev env' q.2):=List.map_congr_left fun q g=>by rw[h q.2 (by simp only[Op.operands];simpa using ⟨q.1,by simpa using g⟩)]
  simp only[aop,this,j]
 |makeFunc f a b=>have h1:a.toList.map (aev env)=a.toList.map (aev env'):=List.map_congr_left fun q g=>h q (by simp[Op.operands];exact .inl (by simpa using g));have j:b.toList.map (aev env)=b.toList.map (aev env'):=List.map_congr_left fun q g=>h q (by simp[Op.operands];exact .inr (by simpa using g));cases f<;>simp only[aop,h1,j]
 |makeMap t r=>cases r<;>simp only[aop]
 |slice t x lo hi mx=>
  have hx:=h x (by simp[Op.operands]);have hl:lo.map (fun o=>asInt (aev env o))=lo.map (fun o=>asInt (aev env' o)):=by
   cases lo with
   |none=>rfl
   |some l=>simp only[Option.map_some];rw[h l (by simp[Op.operands])]
  have u:hi.map (fun o=>asInt (aev env o))=hi.map (fun o=>asInt (aev env' o)):=by
   cases hi with
   |none=>rfl
   |some l=>simp only[Option.map_some];rw[h l (by simp[Op.operands])]
  cases mx<;>simp only[aop,hx,hl,u]
 |call c=>
  obtain⟨callee,args,types⟩:=c;cases callee with
  |builtin b=>
   have h1:args.toList.map (aev env)=args.toList.map (aev env'):=List.map_congr_left fun q g=>h q (by simp[Op.operands,Call.operands];simpa using g);cases b with
   |len=>
    simp only[aop];cases hl:args.toList with
    |nil=>rfl
    |cons x r=>
     rw[hl]at h1;simp only[List.map_cons,List.cons.injEq]at h1;cases r with
     |nil=>cases types.toList with
      |nil=>rfl
      |cons t r=>cases r<;>simp only[h1.1]
     |cons _ _=>rfl
   |clear=>
    simp only[aop];cases hl:args.toList with
    |nil=>rfl
    |cons x r=>
     rw[hl]at h1;simp only[List.map_cons,List.cons.injEq]at h1;cases r with
     |nil=>cases types.toList with
      |nil=>rfl
      |cons t r=>cases r<;>simp only[h1.1]
     |cons _ _=>rfl
   |append=>
    simp only[aop];cases hl:args.toList with
    |nil=>rfl
    |cons x r=>
     rw[hl]at h1;simp only[List.map_cons,List.cons.injEq]at h1;cases r with
     |nil=>rfl
     |cons y r=>
      simp only[List.map_cons,List.cons.injEq]at h1;cases r with
      |nil=>
       cases types.toList with
       |nil=>rfl
       |cons t r=>
        cases r with
        |nil=>rfl
        |cons t2 r=>cases r<;>first|rfl|simp only[h1.1,h1.2.1]
      |cons _ _=>rfl
   |min=>simp only[aop,h1]
   |max=>simp only[aop,h1]
   |_=>first|rfl|simp only[aop]
  |_=>first|rfl|simp only[aop]
 |move x=>simp only[aop,h x (by simp[Op.operands])]
 |assign x=>simp only[aop,h x (by simp[Op.operands])]
 |pick x y z=>simp only[aop,h x (by simp[Op.operands]),h y (by simp[Op.operands]),h z (by simp[Op.operands])]
 |box t x=>simp only[aop,h x (by simp[Op.operands])]
 |load t x=>simp only[aop,h x (by simp[Op.operands])]
 |store t x y=>simp only[aop,h x (by simp[Op.operands]),h y (by simp[Op.operands])]
 |nilCheck x=>simp only[aop,h x (by simp[Op.operands])]
 |binOp op t x y yt=>simp only[aop,h x (by simp[Op.operands]),h y (by simp[Op.operands])]
 |unOp op t x=>simp only[aop,h x (by simp[Op.operands])]
 |convert s t x=>simp only[aop,h x (by simp[Op.operands])]
 |makeInterface t x=>simp only[aop,h x (by simp[Op.operands])]
 |makeSlice t l c=>simp only[aop,h l (by simp[Op.operands]),h c (by simp[Op.operands])]
 |fieldAddr t x f=>simp only[aop,h x (by simp[Op.operands])]
 |field t x f=>simp only[aop,h x (by simp[Op.operands])]
 |indexAddr t x i=>simp only[aop,h x (by simp[Op.operands]),h i (by simp[Op.operands])]
 |index t x i=>simp only[aop,h x (by simp[Op.operands]),h i (by simp[Op.operands])]
 |lookup t m k ok=>simp only[aop,h m (by simp[Op.operands]),h k (by simp[Op.operands])]
 |mapUpdate t m k x=>simp only[aop,h m (by simp[Op.operands]),h k (by simp[Op.operands]),h x (by simp[Op.operands])]
 |mapEntry t m k=>simp only[aop,h m (by simp[Op.operands]),h k (by simp[Op.operands])]
 |entryStore t m s x=>simp only[aop,h m (by simp[Op.operands]),h s (by simp[Op.operands]),h x (by simp[Op.operands])]
 |extract x i=>simp only[aop,h x (by simp[Op.operands])]
 |_=>first|rfl|simp only[aop]
end
end Go.AM
namespace Go.AM
section
variable (S:T3) (P:Program)
def O6 (all:List Oper)(env:Env)(o:Oper):Option Bool:=
 match o.guard with
 |none=>some true
 |some (j,want)=>(yv (get env (AJ all j))).map fun b=>decide (b=some want)
def Mw:AV->Bool
 |.vec _ | .vecp _ _=>false
 |_=>true
def Mx (env:Env)(o:Op)(r:AV):Prop:= ∃c f fn as' args r',o=.call c/\c.callee=.value f/\((c.args.toList.map (aev env)).all Mw)=true/\Gw env f (c.args.toList.map (aev env))=some (fn,as')/\Ap [] as' = some args/\LR S fn args r' /\ r=unA [] r'
def Lj (env:Env)(regs:B4)(d:Nat)(o:Op)(r:AV)(regs' : B4):Prop:= ∃c f as regs1 fn as' args objs objs' ks r' ids,o=.call c/\c.callee=.value f/\CT regs (c.args.toList.map (aev env))=some (as,regs1)/\Gw env f as=some (fn,as')/\Ap ids as' = some args/\I5 ids regs1 ids=some objs /\ N5 S fn args objs r' objs' ks/\G7 ids=true/\AI objs=true/\L9 regs1 ids ks d objs'.length=true /\ r=unA (F0 d ids ks objs'.length) r' /\ regs' = FG (F0 d ids ks objs'.length) (F0 d ids ks objs'.length) objs' (H8 ids ks regs1)
def clsF (cl:Cls)(a b:Prop):Prop:=match cl with
 |.n=>a
 |.r=>b
 |_=>True
def clsX (cl:Cls)(env:Env)(regs:B4)(d:Nat)(o:Op)(c:List Prop)(v:AV)(regs' : B4):Prop:=match cl with
 |.l js=>regs' = regs/\∀R2,(∀q∈js,A1 R2 q=A1 regs q)->aop P env R2 d o=some ⟨c,v,R2⟩
 |.a js=>∀R2,(∀q∈js,A1 R2 q=A1 regs q)->∃R3,aop P env R2 d o=some ⟨c,v,R3⟩/\(∀q∈js,A1 R3 q=A1 regs' q)/\∀q,q ∉ js->A1 R3 q=A1 R2 q
 |.b js=>∀q,q ∉ js->A1 regs' q=A1 regs q
 |_=>True
def My (cl:Cls)(env:Env)(regs:B4)(d:Nat)(o:Op)(v:AV)(regs' : B4):Prop:= (∃c,aop P env regs d o=some ⟨c,v,regs'⟩/\B9 c/\clsF cl (isN env o=true) (regs' = regs)/\clsX P cl env regs d o c v regs') \/ (Mx S env o v/\regs' = regs) \/ ((cl=.w \/ ∃js,cl=.b js/\∀q,q ∉ js->A1 regs' q=A1 regs q)/\Lj S env regs d o v regs') \/ (∃c x,ET P env o=some (c,x)/\B9 c/\v=.p x/\regs' = regs) \/ ∃js,cl=.a js/\(∀q,q ∉ js->A1 regs' q=A1 regs q)/\∀R2,(∀q∈js,A1 R2 q=A1 regs q)->∃R3,Lj S env R2 d o v R3/\(∀q∈js,A1 R3 q=A1 regs' q)/\∀q,q ∉ js->A1 R3 q=A1 R2 q
def Et (d:Option Nat)(a:AV)(env:Env):Env:=match d with
 |some d=>ins d a env
 |none=>env
def CU (all:List Oper):List Cls->List Oper->Env->B4->(Env->B4->Prop)->Prop
 |cl::cls,o::rest,env,regs,k=>∃b,O6 all env o=some b /\
  if b then ∃v regs',My S P cl env regs (o.dst.getD 0) o.op v regs' /\ CU all cls rest (Et o.dst v env) regs' k
  else CU all cls rest (Et o.dst P2 env) regs k
 |_,[],env,regs,k=>k env regs
 |[],_::_,_,_,_=>False
end
section
variable {S:T3}{P:Program}
structure Mz (S:T3) (P:Program) (all:List Oper) (cls:List Cls) (E:Nat->Env) (R:Nat->B4) (V:Nat->AV):Prop where
 step:∀i o,all[i]? = some o->∃b,O6 all (E i) o=some b /\
  (if b then My S P (cls.getD i .n) (E i) (R i) (o.dst.getD 0) o.op (V i) (R (i+1))else V i=P2/\R (i+1)=R i)/\E (i+1)=Et o.dst (V i) (E i)
theorem IM (all:List Oper):∀(rest:List Oper) (cls:List Cls) (i:Nat) (env:Env) (regs:B4) (k:Env->B4->Prop),CU S P all cls rest env regs k->cls.length=rest.length ->
 ∃(E:Nat->Env) (R:Nat->B4) (V:Nat->AV),E 0=env/\R 0=regs/\k (E rest.length) (R rest.length) /\
  ∀j o,rest[j]? = some o->∃b,O6 all (E j) o=some b /\
   (if b then My S P (cls.getD j .n) (E j) (R j) (o.dst.getD 0) o.op (V j) (R (j+1))else V j=P2/\R (j+1)=R j)/\E (j+1)=Et o.dst (V j) (E j)
 |[],[],i,env,regs,k,h,_=>⟨fun _=>env,fun _=>regs,fun _=>.top,rfl,rfl,h,fun j o c=>by simp at c⟩
 |[],_::_,i,env,regs,k,h,hl=>by simp at hl
 |_::_,[],i,env,regs,k,h,hl=>by simp at hl
 |o::rest,cl::cls,i,env,regs,k,h,hl=>by
  obtain⟨b,hb,h⟩:=h;have key:∃v regs',(if b then My S P cl env regs (o.dst.getD 0) o.op v regs' else v=P2/\regs' = regs)/\CU S P all cls rest (Et o.dst v env) regs' k:=by
   cases b with
   |true=>simp only[Bx]at h⊢;exact h
   |false=>simp only[Bool.false_eq_true,By]at h⊢;exact⟨_,_,⟨rfl,rfl⟩,h⟩
  obtain⟨v,regs',hs,a⟩:=key;obtain⟨E,R,V,h1,d,f,g⟩:=IM all rest cls (i+1) _ _ k a (by simpa using hl);refine⟨fun j=>match j with|0=>env|j+1=>E j,fun j=>match j with|0=>regs|j+1=>R j,fun j=>match j with|0=>v|j+1=>V j,rfl,rfl,f,?_⟩;intro j o' c;cases j with
  |zero=>simp only[List.getElem?_cons_zero,Option.some.injEq]at c;subst c;refine⟨b,hb,?_,h1⟩;simp only[List.getD_cons_zero,d];exact hs
  |succ j=>
   have:=g j o' (by simpa using c)
   simpa using this
def Bt (all:List Oper)(V:Nat->AV)(env:Env)(D:Nat->Bool)(x:Nat):Nat->AV
 |0=>get env x
 |m+1=>if D m=true/\(all[m]?).bind (·.dst)=some x then V m else Bt all V env D x m
theorem W2 {all:List Oper}{V:Nat->AV}{env:Env}{D D' : Nat->Bool}{x:Nat}:∀{m:Nat},(∀j,j<m->(all[j]?).bind (·.dst)=some x->D j=D' j)->Bt all V env D x m=Bt all V env D' x m
 |0,_=>rfl
 |m+1,h=>by
  simp only[Bt];rw[W2 (m:=m) fun j b a=>h j (by omega) a];by_cases a:(all[m]?).bind (·.dst)=some x
  .rw[h m (by omega) a]
  simp[a]
theorem GY {all:List Oper}{V:Nat->AV}{env:Env}{D:Nat->Bool}{x i:Nat}(a:D i=true)(hx:(all[i]?).bind (·.dst)=some x):∀{m:Nat},i<m->(∀j,i<j->j<m->(all[j]?).bind (·.dst)=some x->D j=false)->Bt all V env D x m=V i
 |0,h,_=>by omega
 |m+1,h,hno=>by
  simp only[Bt];by_cases e:i=m
  .subst e;rw[Bh ⟨a,hx⟩]
  rw[Bv]
  .exact GY a hx (by omega) fun j h1 b=>hno j h1 (by omega)
  rintro⟨h1,b⟩;rw[hno m (by omega) (by omega) b]at h1;cases h1
theorem U8 (env:Env)(d t:Nat)(x:AV):get (ins d x env) t=if d=t then x else get env t:=by
 induction env with
 |nil=>simp[ins,get]
 |cons p r ih=>
  obtain⟨i,b⟩:=p;simp only[ins];split
  .simp only[get]
  split
  .rename_i h;subst h;simp only[get];split<;>rfl
  rename_i h1 a;simp only[get,ih];by_cases h:i=t
  .simp only[h,Bx];rw[Bv (by omega)]
  simp only[h,By]
theorem IN (env:Env)(d:Option Nat)(t:Nat)(x:AV):get (Et d x env) t=if d=some t then x else get env t:=by
 cases d with
 |none=>simp[Et]
 |some d=>simp[Et,U8]
theorem GZ {all:List Oper}{cls:List Cls}{E:Nat->Env}{R:Nat->B4}{V:Nat->AV}(h:Mz S P all cls E R V)(x:Nat):∀m,m<=all.length->get (E m) x=Bt all V (E 0) (fun j=>decide (j<m)) x all.length:=by
 have h1:∀m,m<=all.length->get (E m) x=Bt all V (E 0) (fun _=>true) x m:=by
  intro m
  induction m with
  |zero=>intro _;rfl
  |succ m ih=>intro hm;obtain⟨o,a⟩:∃o,all[m]? = some o:=⟨_,List.getElem?_eq_getElem (by omega)⟩;obtain⟨b,_,_,c⟩:=h.step m o a;rw[c,IN];simp only[Bt,a,Option.bind_some,true_and];rw[ih (by omega)]
 have d:∀m n,m<=n->Bt all V (E 0) (fun j=>decide (j<m)) x n=Bt all V (E 0) (fun _=>true) x m:=by
  intro m n
  induction n with
  |zero=>
   intro h;obtain rfl:m=0:=by omega
   rfl
  |succ n ih=>
   intro f;by_cases e:m=n+1
   .subst e;exact W2 fun j g _=>by simp[g]
   simp only[Bt];rw[Bv (by simp;intro i;omega),ih (by omega)]
 intro m hm;rw[h1 m hm,d m _ hm]
theorem Lk {all:List Oper}{cls:List Cls}{E:Nat->Env}{R:Nat->B4}{V:Nat->AV}(h:Mz S P all cls E R V){i o q}(s:all[i]? = some o)(hc:Z2 q (cls.getD i .n)=false):A1 (R (i+1)) q=A1 (R i) q:=by
 obtain⟨b,_,g,_⟩:=h.step i o s;cases b with
 |false=>simp only[Bool.false_eq_true,By]at g;rw[g.2]
 |true=>
  simp only[Bx]at g;rcases g with⟨c,ha,_,f,hx⟩ | ⟨_,d⟩ | ⟨d,_⟩ | ⟨_,_,_,_,_,d⟩ | ⟨js,hk,d,_⟩
  .cases hk:cls.getD i .n with
   |n=>rw[hk]at f;rw[(Ga f ha).1]
   |r=>rw[hk]at f;rw[show R (i+1)=R i from f]
   |w=>rw[hk]at hc;cases hc
   |l j=>rw[hk]at hx;rw[hx.1]
   |a j=>rw[hk]at hx hc;obtain⟨R3,m,_,t⟩:=hx (R i) fun _ _=>rfl;rw[m]at ha;cases ha;exact t q (by simpa[Z2]using hc)
   |b j=>rw[hk]at hx hc;exact hx q (by simpa[Z2]using hc)
  .rw[d]
  .rcases d with d|⟨js,d,m⟩
   .rw[d]at hc;cases hc
   rw[d]at hc;exact m q (by simpa[Z2]using hc)
  .rw[d]
  rw[hk]at hc;exact d q (by simpa[Z2]using hc)
theorem HZ {all:List Oper}{cls:List Cls}{E:Nat->Env}{R:Nat->B4}{V:Nat->AV}(h:Mz S P all cls E R V)(q:Nat):∀(a b:Nat),a<=b->b<=all.length->(∀j,a<=j->j<b->Z2 q (cls.getD j .n)=false)->A1 (R b) q=A1 (R a) q:=by
 intro a b
 induction b with
 |zero=>
  intro h1 _ _;obtain rfl:a=0:=by omega
  rfl
 |succ b ih=>
  intro h1 g c;by_cases e:a=b+1
  .rw[e]
  obtain⟨o,d⟩:∃o,all[b]? = some o:=⟨_,List.getElem?_eq_getElem (by omega)⟩;rw[Lk h d (c b (by omega) (by omega)),ih (by omega) (by omega) fun j f i=>c j f (by omega)]
theorem De {o:Oper}{k:St->Prop}{Q:I6}{st:St}{c:List Prop}{v:AV}{R' : B4}(h:aop P st.env st.regs (o.dst.getD 0) o.op=some ⟨c,v,R'⟩)(hc:B9 c)(hk:k (put { st with regs:=R' } o.dst v)):wOp S P o k Q st:=by
 unfold wOp;split
 .rename_i a;rw[a]at h;simp[aop]at h
 .rename_i a;rw[a]at h;simp[aop]at h
 .rename_i a;rw[a]at h;simp[aop]at h
 exact .inl ⟨_,h,hc,hk⟩
theorem MA {o:Oper}{k:St->Prop}{Q:I6}{st:St}{c:List Prop}{x:PV}(h:ET P st.env o.op=some (c,x))(hc:B9 c)(hk:k (put st o.dst (.p x))):wOp S P o k Q st:=by
 unfold wOp;split
 .rename_i a;rw[a]at h;simp[ET]at h
 .rename_i a;rw[a]at h;simp[ET]at h
 .rename_i a;rw[a]at h;simp[ET]at h
 exact .inr ⟨_,_,h,hc,hk⟩
theorem JP {env env' : Env}{o:Op}(h:∀x∈o.operands.toList,aev env x=aev env' x):ET P env o=ET P env' o:=by
 cases o with
 |buildSlice t n parts=>
  have:(parts.toList.map fun q=>aev env q.2)=parts.toList.map fun q=>aev env' q.2:=List.map_congr_left fun q a=>h q.2 (by simp only[Op.operands];simpa using ⟨q.1,by simpa using a⟩)
  simp only[ET,this]
 |makeSlice t l c=>have h1:aev env l=aev env' l:=h l (by simp[Op.operands]);have b:aev env c=aev env' c:=h c (by simp[Op.operands]);simp only[ET,h1,b]
 |_=>rfl
theorem Ha (ops:List Oper):∀(rest:List Oper) (acc:List (List Nat)),acc.length+rest.length=ops.length->ops.drop acc.length=rest->∀i,(i<acc.length->(FZ rest acc).getD i []=acc.getD i []) /\
 (acc.length<=i->i<ops.length->∃o,ops[i]? = some o/\∃pre,(FZ rest acc).getD i []=JO pre o/\∀j,j<i->pre.getD j []=(FZ rest acc).getD j [])
 |[],acc,hl,hd,i=>⟨fun _=>rfl,fun h1 d=>by simp at hl;omega⟩
 |o::rest,acc,hl,hd,i=>by
  have f:ops[acc.length]? = some o:=by
   have:(ops.drop acc.length)[0]? = some o:=by rw[hd];rfl
   simpa using this
  have b : ops.drop (acc++[JO acc o]).length=rest:=by
   have:(ops.drop acc.length).drop 1=rest:=by rw[hd];rfl
   rw[List.drop_drop]at this;simpa using this
  have ih:=fun i=>Ha ops rest (acc++[JO acc o]) (by simp at hl⊢;omega) b i;have a:∀j,j<acc.length->(FZ (o::rest) acc).getD j []=acc.getD j []:=by intro j c;simp only[FZ];rw[(ih j).1 (by simp;omega)];simp[List.getD_eq_getElem?_getD,List.getElem?_append_left c]
  refine⟨a i,fun h1 d=>?_⟩;by_cases e:i=acc.length
  .subst e;refine⟨o,f,acc,?_,fun j c=>(a j c).symm⟩;simp only[FZ];rw[(ih acc.length).1 (by simp)];simp[List.getD_eq_getElem?_getD]
  simp only[FZ];exact (ih i).2 (by simp;omega) d
theorem Fn {ops:List Oper}(a:Ds ops=true){D:Nat->Bool}(s:∀i o,D i=true->ops[i]? = some o->∀e∈o.after.toList,Z1 e=true->D e.on=true) :∀(i:Nat) (o:Oper),ops[i]? = some o->(∀e∈o.after.toList,Z1 e=true->D e.on=true)->∀j∈(QP ops).getD i [],D j=true:=by
 intro i
 induction i using Nat.strongRecOn with
 |_ i ih=>
  intro o r c j b;have d:i<ops.length:=(List.getElem?_eq_some_iff.1 r).1;obtain⟨o',f,pre,h1,t⟩:=(Ha ops ops [] (by simp) (by simp) i).2 (by simp) d;rw[r]at f;cases f;have h1:(QP ops).getD i []=JO pre o:=h1;rw[h1]at b;unfold JO at b;have b:=FY b;rw[List.mem_flatMap]at b;obtain⟨e,g,b⟩:=b;rw[List.mem_filter]at g;obtain⟨g,hb⟩:=g;have l:e.on<i:=by
   unfold Ds at a;rw[List.all_eq_true]at a
   have:=a i (by simpa using d)
   simp only[r,List.all_eq_true,Bool.or_eq_true,Bool.not_eq_true',decide_eq_true_eq]at this;rcases this e g with q|q
   .rw[hb]at q;cases q
   exact q
  have m:=c e g hb;rcases List.mem_cons.1 b with rfl|b
  .exact m
  rw[t e.on l]at b;obtain⟨oe,n⟩:∃oe,ops[e.on]? = some oe:=⟨_,List.getElem?_eq_getElem (by omega)⟩;exact ih e.on l oe n (s e.on oe m n) j b
end
end Go.AM
namespace Go.AM
section
variable {S:T3}{P:Program}
theorem Fo {regs:B4}:∀{l:List AV},l.all Mw=true->CT regs l=some (l,regs)
 |[],_=>rfl
 |a::r,h=>by simp only[List.all_cons,Bool.and_eq_true]at h;have ih:=Fo (regs:=regs) h.2;cases a<;>simp only[CT,ih]<;>simp[Mw]at h
theorem Df {env env' : Env}{f:Operand}{as:List AV}(h:aev env f=aev env' f):Gw env f as=Gw env' f as:=by unfold Gw;rw[h]
theorem Fp {all:List Oper}{V:Nat->AV}{env:Env}{x:Nat}:∀m,Bt all V env (fun _=>false) x m=get env x
 |0=>rfl
 |m+1=>by simp only[Bt];rw[Bv (by simp),Fp m]
theorem Ll (hS:H4 S P){F:I6}{K:List It}{id:Nat}{ops:Array Oper}{env:Env}{regs:B4}(cls:List Cls)(hmix:P.follows .mixedOrders=true)(hok:Es ops.toList cls=true)
 (h:CU S P ops.toList cls ops.toList env regs fun env regs=>G S P F (.pop .normal K ⟨env,regs⟩)):G S P F (.code (.region id ops true) K ⟨env,regs⟩):=by
 simp only[G,awp,Bx];generalize ops.toList=all at hok h;simp only[Es,Bool.and_eq_true,beq_iff_eq,List.all_eq_true,List.mem_range]at hok;obtain⟨⟨hdep,hlen⟩,hpair⟩:=hok;obtain⟨E,R,V,hE0,hR0,hk,hstep⟩:=IM all all cls 0 env regs _ h hlen;have T:Mz S P all cls E R V:=⟨hstep⟩;have hpr:∀(i j:Nat) (oi oj:Oper),i<j->all[i]? = some oi->all[j]? = some oj->i∈(QP all).getD j [] \/ Ba all (cls.getD i .n) (cls.getD j .n) oi oj=true:=by
  intro i j oi oj hij hi v
  have:=hpair j (List.getElem?_eq_some_iff.1 v).1 i hij
  simp only[hi,v,Bool.or_eq_true,List.contains_eq_mem,decide_eq_true_eq]at this;exact this
 let down:(Nat->Bool)->Prop:=fun D=>∀i o,D i=true->all[i]? = some o->∀e∈o.after.toList,Z1 e=true->D e.on=true
 let Inv:(Nat->Bool)->St->Prop:=fun D s=>down D/\(∀x,get s.env x=Bt all V env D x all.length) /\
  ∀q,∃k,k<=all.length/\(∀i,i<all.length->Z2 q (cls.getD i .n)=true->(D i=true↔i<k))/\A1 s.regs q=A1 (R k) q
 refine⟨hmix,hdep,Inv,⟨fun i o hi=>(by cases hi),fun x=>(Fp _).symm,fun q=>⟨0,Nat.zero_le _,fun i _ _=>by simp,by rw[hR0]⟩⟩,?_,?_⟩
 .intro D i s o ⟨hD,henv,hreg⟩ ho hDi hready;have hin:i<all.length:=(List.getElem?_eq_some_iff.1 ho).1;have hanc:=Fn hdep hD i o ho hready;have hbef:∀j oj,j<i->all[j]? = some oj->D j=true \/ Ba all (cls.getD j .n) (cls.getD i .n) oj o=true:=fun j oj v d=>
   (hpr j i oj o v d ho).imp (hanc j) fun h=>h
  have haft:∀j oj,i<j->all[j]? = some oj->D j=true->Ba all (cls.getD i .n) (cls.getD j .n) o oj=true:=by
   intro j oj v d y;rcases hpr i j o oj v ho d with h1|h1
   .have:=Fn hdep hD j oj d (hD j oj y d) i h1
    rw[hDi]at this;cases this
   exact h1
  have hrd:∀x∈reads all o,get s.env x=get (E i) x:=by
   intro x hx;rw[henv x,GZ T x i (by omega),hE0];refine W2 fun j v hd=>?_;obtain⟨oj,d⟩:∃oj,all[j]? = some oj:=⟨_,List.getElem?_eq_getElem v⟩;simp only[d,Option.bind_some]at hd;by_cases e:j<i
   .simp only[e,decide_true];rcases hbef j oj e d with h1|h1
    .exact h1
    simp only[Ba,hd,Bool.and_eq_true,Bool.not_eq_true',List.contains_eq_mem,decide_eq_false_iff_not]at h1;exact Bw hx h1.1.2.1
   simp only[e,decide_false];by_cases e2:j=i
   .subst e2;exact hDi
   cases y:D j with
   |false=>rfl
   |true=>have h1:=haft j oj (by omega) d y;simp only[Ba,hd,Bool.and_eq_true,Bool.not_eq_true',List.contains_eq_mem,decide_eq_false_iff_not]at h1;exact Bw hx h1.2
  have g:∀x∈o.op.operands.toList,aev s.env x=aev (E i) x:=fun x hx=>Li fun t ht=>hrd t (List.mem_append_left _ (List.mem_flatMap.2 ⟨x,hx,ht⟩));have hq:∀q,JN q (cls.getD i .n)=true->A1 s.regs q=A1 (R i) q:=by
   intro q hn;obtain⟨k,hkn,hW,hr⟩:=hreg q;rw[hr];by_cases hki:k<=i
   .refine (HZ T q k i hki (by omega) fun j h1 h2=>?_).symm;cases hw:Z2 q (cls.getD j .n)with
    |false=>rfl
    |true=>
     obtain⟨oj,d⟩:∃oj,all[j]? = some oj:=⟨_,List.getElem?_eq_getElem (by omega)⟩;rcases hbef j oj h2 d with h3|h3
     .have:=(hW j (by omega) hw).1 h3;omega
     simp only[Ba,(Av hw hn).1,Bool.not_true,Bool.false_and,Bool.false_eq_true]at h3
   refine HZ T q i k (by omega) hkn fun j h1 h2=>?_;cases hw:Z2 q (cls.getD j .n)with
   |false=>rfl
   |true=>
    have y:D j=true:=(hW j (by omega) hw).2 h2;by_cases e:j=i
    .subst e;rw[hDi]at y;cases y
    obtain⟨oj,d⟩:∃oj,all[j]? = some oj:=⟨_,List.getElem?_eq_getElem (by omega)⟩;have h3:=haft j oj (by omega) d y;simp only[Ba,(Av hw hn).2,Bool.not_true,Bool.false_and,Bool.false_eq_true]at h3
  obtain⟨b,hb,hs,hEi⟩:=hstep i o ho;have hdown:down fun j=>if j=i then true else D j:=by
   intro j oj v d e he hbe;by_cases e1:j=i
   .subst e1;rw[ho]at d;cases d
    have:=hready e he hbe
    show (if e.on=j then true else D e.on)=true;split
    .rfl
    exact this
   have hj' : D j=true:=by
    have v:(if j=i then true else D j)=true:=v
    rwa [Bv e1]at v
   have:=hD j oj hj' d e he hbe
   show (if e.on=i then true else D e.on)=true;split
   .rfl
   exact this
  have henv' : ∀x,get (Et o.dst (V i) s.env) x=Bt all V env (fun j=>if j=i then true else D j) x all.length:=by
   intro x;rw[IN];by_cases hd:o.dst=some x
   .rw[Bh hd];refine (GY (by simp) (by simp[ho,hd]) hin fun j h1 h2 h3=>?_).symm;have hne:j≠i:=by omega
    simp only[hne,By];obtain⟨oj,d⟩:∃oj,all[j]? = some oj:=⟨_,List.getElem?_eq_getElem h2⟩;simp only[d,Option.bind_some]at h3;cases y:D j with
    |false=>rfl
    |true=>have h4:=haft j oj h1 d y;simp[Ba,hd,h3]at h4
   rw[Bv hd,henv x];refine W2 fun j v h3=>?_;have hne:j≠i:=by rintro rfl;rw[ho]at h3;exact hd h3
   simp[hne]
  have hInv:∀R',(∀q,Z2 q (cls.getD i .n)=true->A1 R' q=A1 (R (i+1)) q)->(∀q,Z2 q (cls.getD i .n)=false->A1 R' q=A1 s.regs q)->Inv (fun j=>if j=i then true else D j) (put ⟨s.env,R'⟩ o.dst (V i)):=by
   intro R' h1 h2;refine⟨hdown,?_,fun q=>?_⟩
   .intro x
    have:=henv' x
    cases hd:o.dst<;>simp only[hd,put,Et]at this⊢<;>exact this
   have hput:(put ⟨s.env,R'⟩ o.dst (V i)).regs=R':=by cases o.dst<;>rfl
   rw[hput];cases hw:Z2 q (cls.getD i .n)with
   |false=>
    obtain⟨k,hkn,hW,hr⟩:=hreg q;refine⟨k,hkn,fun j v hwj=>?_,(h2 q hw).trans hr⟩;have hne:j≠i:=by rintro rfl;rw[hw]at hwj;cases hwj
    simp only[hne,By];exact hW j v hwj
   |true=>
    refine⟨i+1,by omega,fun j v hwj=>?_,h1 q hw⟩;by_cases e:j=i
    .simp[e]
    simp only[e,By];obtain⟨oj,d⟩:∃oj,all[j]? = some oj:=⟨_,List.getElem?_eq_getElem v⟩;constructor
    .intro y;by_cases hlt:i<j
     .have h3:=haft j oj hlt d y;simp only[Ba,(Av hw (BS hwj)).1,Bool.not_true,Bool.false_and,Bool.false_eq_true]at h3
     omega
    intro hlt;rcases hbef j oj (by omega) d with h3|h3
    .exact h3
    simp only[Ba,(Av hwj (BS hw)).1,Bool.not_true,Bool.false_and,Bool.false_eq_true]at h3
  obtain⟨RT,hRT,hRT2⟩:∃RT,(∀q,A1 s.regs q=A1 RT q)/\((cls.getD i .n=.r \/ cls.getD i .n=.w \/ ∃js,cls.getD i .n=.b js)->RT=R i):=by
   by_cases hall:cls.getD i .n=.r \/ cls.getD i .n=.w \/ ∃js,cls.getD i .n=.b js
   .exact⟨R i,fun q=>hq q (by rcases hall with h1|h1|⟨js,h1⟩<;>rw[h1]<;>rfl),fun _=>rfl⟩
   exact⟨s.regs,fun _=>rfl,fun h=>Bw h hall⟩
  have u:R (i+1)=R i->Inv (fun j=>if j=i then true else D j) (put ⟨s.env,RT⟩ o.dst (V i)):=fun hRi=>
   hInv RT (fun q hw=>by rw[<- hRT q,hq q (BS hw),hRi]) fun q _=>(hRT q).symm
  have hrun:b=true->wOp S P o (Inv fun j=>if j=i then true else D j) (kp S P K F) ⟨s.env,RT⟩:=by
   intro hbt;rw[hbt,Bh rfl]at hs;rcases hs with⟨c,ha,hc,hcl,hcx⟩ | ⟨hp,hRi⟩ | ⟨hw,hdet⟩ | ⟨c,x,ha,hc,hvx,hRi⟩ | ⟨js,m,_,hx⟩
   .cases m : cls.getD i .n with
    |n=>rw[m]at hcl;have h1:=Ga hcl ha;have ha':=h1.2 RT;rw[<- Ae g]at ha';exact De ha' hc (u h1.1)
    |r=>rw[m]at hcl;rw[<- Ae g,<- hRT2 (.inl m)]at ha;refine De ha hc ?_;have hcl:R (i+1)=R i:=hcl;rw[hcl,<- hRT2 (.inl m)];exact u hcl
    |w=>rw[<- Ae g,<- hRT2 (.inr (.inl m))]at ha;exact De ha hc (hInv _ (fun _ _=>rfl) fun q hw=>by rw[m]at hw;cases hw)
    |b js=>
     rw[m]at hcx;rw[<- Ae g,<- hRT2 (.inr (.inr ⟨js,m⟩))]at ha;exact De ha hc (hInv _ (fun _ _=>rfl) fun q hw=>by rw[m]at hw;rw[hcx q (by simpa[Z2]using hw),hRT q,hRT2 (.inr (.inr ⟨js,m⟩))])
    |l js=>
     rw[m]at hcx;have ha':=hcx.2 RT fun q v=>by rw[<- hRT q];exact hq q (by rw[m];simpa[JN]using v)
     rw[<- Ae g]at ha';exact De ha' hc (u hcx.1)
    |a js=>
     rw[m]at hcx;obtain⟨R3,ha',h3,h4⟩:=hcx RT fun q v=>by rw[<- hRT q];exact hq q (by rw[m];simpa[JN]using v)
     rw[<- Ae g]at ha';refine De ha' hc (hInv R3 (fun q hw=>?_) fun q hw=>?_)
     .rw[m]at hw;exact h3 q (by simpa[Z2]using hw)
     rw[m]at hw;rw[h4 q (by simpa[Z2]using hw),hRT q]
   .obtain⟨c,f,fn,as',args,r',e1,e2,e3,e4,e5,e6,e7⟩:=hp;obtain⟨callee,cargs,types⟩:=c;simp only at e2 e3 e4;subst e2;have z:cargs.toList.map (aev s.env)=cargs.toList.map (aev (E i)):=List.map_congr_left fun x hx=>g x (by rw[e1];simp[Op.operands,Call.operands];exact .inr (by simpa using hx));have hf:aev s.env f=aev (E i) f:=g f (by rw[e1];simp[Op.operands,Call.operands]);unfold wOp;rw[e1];refine .inl ⟨_,RT,fn,as',by rw[z];exact .inl (Fo e3),by rw[Df hf];exact e4,[],args,[],rfl,e5,rfl,rfl,hS.monoF _ _ _ _ _ ?_ e6⟩;rintro _ _ _ ⟨rfl,rfl,rfl⟩;refine⟨rfl,?_⟩
    have:(F0 (o.dst.getD 0) [] [] ([]:List Obj).length)=[]:=rfl
    rw[this];show Inv _ (put ⟨s.env,RT⟩ o.dst (unA [] r'));rw[<- e7];exact u hRi
   .obtain⟨c,f,as,regs1,fn,as',args,objs,objs',ks,r',ids,e1,e2,e3,e4,e5,e6,e7,e8,e9,e10,e11,e12⟩:=hdet;obtain⟨callee,cargs,types⟩:=c;simp only at e2 e3;subst e2;have z:cargs.toList.map (aev s.env)=cargs.toList.map (aev (E i)):=List.map_congr_left fun x hx=>g x (by rw[e1];simp[Op.operands,Call.operands];exact .inr (by simpa using hx));have hf:aev s.env f=aev (E i) f:=g f (by rw[e1];simp[Op.operands,Call.operands]);unfold wOp;rw[e1];have hRTi:RT=R i:=hRT2 (hw.elim (fun h=>.inr (.inl h)) fun⟨js,h,_⟩=>.inr (.inr ⟨js,h⟩));refine .inl ⟨as,regs1,fn,as',by rw[z,hRTi];exact .inl e3,by rw[Df hf];exact e4,ids,args,objs,e8,e5,e6,e9,hS.monoF _ _ _ _ _ ?_ e7⟩;rintro _ _ _ ⟨rfl,rfl,rfl⟩;refine⟨e10,?_⟩;show Inv _ (put ⟨s.env,_⟩ o.dst (unA _ r'));rw[<- e11,<- e12];exact hInv _ (fun _ _=>rfl) fun q h=>by
     rcases hw with hw|⟨js,hw,h4⟩
     .rw[hw]at h;cases h
     rw[hw]at h;rw[h4 q (by simpa[Z2]using h),hRT q,hRTi]
   .rw[<- JP g]at ha;have hfin:=u hRi;rw[hvx]at hfin;exact MA ha hc hfin
   obtain⟨R3,⟨c,f,as,regs1,fn,as',args,objs,objs',ks,r',ids,e1,e2,e3,e4,e5,e6,e7,e8,e9,e10,e11,e12⟩,h3,h4⟩:=hx RT fun q v=>by rw[<- hRT q];exact hq q (by rw[m];simpa[JN]using v)
   obtain⟨callee,cargs,types⟩:=c;simp only at e2 e3;subst e2;have z:cargs.toList.map (aev s.env)=cargs.toList.map (aev (E i)):=List.map_congr_left fun x hx=>g x (by rw[e1];simp[Op.operands,Call.operands];exact .inr (by simpa using hx));have hf:aev s.env f=aev (E i) f:=g f (by rw[e1];simp[Op.operands,Call.operands]);unfold wOp;rw[e1];refine .inl ⟨as,regs1,fn,as',by rw[z];exact .inl e3,by rw[Df hf];exact e4,ids,args,objs,e8,e5,e6,e9,hS.monoF _ _ _ _ _ ?_ e7⟩;rintro _ _ _ ⟨rfl,rfl,rfl⟩;refine⟨e10,?_⟩;show Inv _ (put ⟨s.env,_⟩ o.dst (unA _ r'));rw[<- e11,<- e12];exact hInv R3 (fun q hw=>by rw[m]at hw;exact h3 q (by simpa[Z2]using hw)) fun q hw=>by rw[m]at hw;rw[h4 q (by simpa[Z2]using hw),hRT q]
  have hskip:b=false->Inv (fun j=>if j=i then true else D j) (put ⟨s.env,RT⟩ o.dst P2):=by intro hbf;rw[hbf]at hs;simp only[Bool.false_eq_true,By]at hs;obtain⟨hv,hRi⟩:=hs;rw[<- hv];exact u hRi
  refine hS.eqv s ⟨s.env,RT⟩ _ (fun _=>rfl) hRT ?_;cases hg:o.guard with
  |none=>simp only[O6,hg,Option.some.injEq]at hb;exact hrun hb.symm
  |some q=>
   obtain⟨j,want⟩:=q;simp only[O6,hg,Option.map_eq_some_iff]at hb;obtain⟨b0,hy,hb0⟩:=hb;have hsl:get s.env (AJ all j)=get (E i) (AJ all j):=hrd _ (List.mem_append_right _ (by simp[hg]));refine⟨b0,by rw[hsl];exact hy,?_⟩;by_cases hbw:b0=some want
   .rw[Bh hbw];exact hrun (by rw[<- hb0];simp[hbw])
   rw[Bv hbw];exact hskip (by rw[<- hb0];simp[hbw])
 intro D s ⟨hD,henv,hreg⟩ hall;refine hS.eqv s ⟨E all.length,R all.length⟩ _ (fun x=>?_) (fun q=>?_) hk
 .show get s.env x=get (E all.length) x;rw[henv x,GZ T x _ (Nat.le_refl _),hE0];exact W2 fun j v _=>by simp[hall j v,v]
 obtain⟨k,hkn,hW,hr⟩:=hreg q;rw[hr];refine (HZ T q k all.length hkn (Nat.le_refl _) fun j h1 h2=>?_).symm;cases hw:Z2 q (cls.getD j .n)with
 |false=>rfl
 |true=>have:=(hW j h2 hw).1 (hall j h2);omega
end
end Go.AM
namespace Go.AM
def clsOf:Op->Cls
 |.store .. | .alloc _ | .box .. | .buildSlice .. | .makeMap .. | .makeSlice .. | .mapUpdate .. | .entryStore .. | .mapEntry ..=>.w
 |.load .. | .indexAddr .. | .lookup ..=>.r
 |.call { callee:=.builtin .len,.. } | .call { callee:=.builtin .cap,.. }=>.r
 |.call { callee:=.builtin .min,.. } | .call { callee:=.builtin .max,.. }=>.n
 |.call _=>.w
 |_=>.n
def isR (env:Env):Op->Bool
 |.load .. | .indexAddr ..=>true
 |.lookup _ _ k _=>isP (aev env k)
 |.call { callee:=.builtin .len,.. }=>true
 |o=>isN env o
def inJ (js:List Nat):AV->Bool
 |.p _=>true
 |.vec i=>js.contains i
 |.vecp i _=>js.contains i
 |_=>false
def adJ (js:List Nat):AV->Bool
 |.reg i _=>js.contains i
 |.elt i _ _ _=>js.contains i
 |_=>false
def mrJ (js:List Nat):AV->Bool
 |.mref i=>js.contains i
 |_=>false
def isL (js:List Nat)(env:Env):Op->Bool
 |.lookup _ m k _=>mrJ js (aev env m)&&isP (aev env k)
 |.load _ a=>adJ js (aev env a)
 |.indexAddr _ x _=>adJ js (aev env x)||inJ js (aev env x)
 |.call { callee:=.builtin .len,args,.. }=>args.toList.all fun x=>inJ js (aev env x)
 |_=>false
def isA (js:List Nat)(env:Env)(d:Nat):Op->Bool
 |.alloc _=>js.contains (nid d 0)
 |.box _ _=>js.contains (nid d 0)
 |.store _ a _=>adJ js (aev env a)
 |.call { callee:=.builtin .append,args,.. }=>js.contains (nid d 0)&&args.toList.all fun x=>inJ js (aev env x)
 |.buildSlice _ _ parts=>js.contains (nid d 0)&&parts.toList.all fun q=>isP (aev env q.2)
 |.makeMap _ none=>js.contains (nid d 0)
 |.mapEntry _ m k=>mrJ js (aev env m)&&isP (aev env k)
 |.entryStore _ m _ x=>mrJ js (aev env m)&&isP (aev env x)
 |_=>false
def isB (js:List Nat)(env:Env)(d:Nat):Op->Bool
 |.buildSlice _ _ parts=>js.contains (nid d 0)&&parts.toList.all fun q=>inJ js (aev env q.2)
 |_=>false
def Hb (cl:Cls)(env:Env)(d:Nat)(o:Op):Bool:=match cl with
 |.n=>isN env o
 |.r=>isR env o
 |.w=>true
 |.l j=>isL j env o
 |.a j=>isA j env d o
 |.b j=>isB j env d o
structure SRes:Type 1 where
 conds:List Prop
 cls:List Cls
 rest:List Oper
 env:Env
 regs:B4
def Qf (kn:List Nat)(all:List Oper)(env:Env)(o:Oper):Bool:=match o.guard with
 |none=>false
 |some (j,_)=>match kn.contains j with
  |true=>false
  |false=>match get env (AJ all j)with
   |.p (.bb _)=>true
   |_=>false
def EF (P:Program)(kn:List Nat)(all:List Oper):List Cls->List Oper->List Prop->Env->B4->SRes
 |cl::cls,o::rest,c,env,regs=>
  match Qf kn all env o with
  |true=>⟨c,cl::cls,o::rest,env,regs⟩
  |false=>match O6 all env o with
  |some true=>match NC o.op&&Hb cl env (o.dst.getD 0) o.op with
   |true=>match aop P env regs (o.dst.getD 0) o.op with
    |none=>⟨c,cl::cls,o::rest,env,regs⟩
    |some ⟨p,v,regs'⟩=>fA v fun v=>fR regs' fun regs'=>fC p c fun c=>
     match o.dst with
     |some d=>KB d v env fun env=>EF P kn all cls rest c env regs'
     |none=>EF P kn all cls rest c env regs'
   |false=>⟨c,cl::cls,o::rest,env,regs⟩
  |some false=>match o.dst with
   |some d=>KB d P2 env fun env=>EF P kn all cls rest c env regs
   |none=>EF P kn all cls rest c env regs
  |none=>⟨c,cl::cls,o::rest,env,regs⟩
 |cls,rest,c,env,regs=>⟨c,cls,rest,env,regs⟩
section
variable {S:T3}{P:Program}
theorem MB {env:Env}{R R' : B4}{d:Nat}{o:Op}{c:List Prop}{v:AV}(f:isR env o=true)(h:aop P env R d o=some ⟨c,v,R'⟩):R' = R:=by
 have gen:isN env o=true->R' = R:=fun hn=>(Ga hn h).1;cases o with
 |load t a=>
  simp only[aop]at h;split at h
  .simp only[Option.some.injEq,Out.mk.injEq]at h;exact h.2.2.symm
  cases h
 |indexAddr t x i=>
  simp only[aop]at h;split at h
  .split at h
   .simp only[Option.some.injEq,Out.mk.injEq]at h;exact h.2.2.symm
   cases h
  cases h
 |lookup t m k ok=>
  simp only[isR]at f;cases hk:aev env k<;>simp only[hk,isP,Bool.false_eq_true]at f;simp only[aop,hk,T5]at h;split at h
  .simp only[Option.some.injEq,Out.mk.injEq]at h;exact h.2.2.symm
  cases h
 |call cc=>
  obtain⟨callee,args,types⟩:=cc;cases callee with
  |builtin b=>
   cases b with
   |len=>
    simp only[aop]at h;split at h
    .split at h
     .simp only[Option.some.injEq,Out.mk.injEq]at h;exact h.2.2.symm
     cases h
    cases h
   |_=>exact gen f
  |_=>exact gen f
 |_=>exact gen f
theorem K6 (regs:B4)(d t:Nat)(x:Obj):A1 (ins d x regs) t=if d=t then some x else A1 regs t:=by
 induction regs with
 |nil=>simp[ins,A1]
 |cons p r ih=>
  obtain⟨i,b⟩:=p;simp only[ins];split
  .simp only[A1]
  split
  .rename_i h;subst h;simp only[A1];split<;>rfl
  rename_i h1 a;simp only[A1,ih];by_cases h:i=t
  .simp only[h,Bx];rw[Bv (by omega)]
  simp only[h,By]
theorem IO {js:List Nat}{a:AV}(h:adJ js a=true):∃i∈js,(∃off,a=.reg i off) \/ ∃k n off,a=.elt i k n off:=by
 cases a with
 |reg i off=>exact⟨i,by simpa[adJ]using h,.inl ⟨off,rfl⟩⟩
 |elt i k n off=>exact⟨i,by simpa[adJ]using h,.inr ⟨k,n,off,rfl⟩⟩
 |_=>cases h
section
variable {js:List Nat}{R R2:B4}(hR:∀q∈js,A1 R2 q=A1 R q)
include hR
theorem MC {t:TypeId}{a:AV}(ha:adJ js a=true):load P R2 t a=load P R t a:=by obtain⟨i,b,⟨off,rfl⟩ | ⟨k,n,off,rfl⟩⟩:=IO ha<;>simp only[load,hR i b]
theorem JQ {t:TypeId}{x:AV}{n:Int}(ha:(adJ js x||inJ js x)=true):Z7 P R2 t x n=Z7 P R t x n:=by
 cases x with
 |vec i=>
  have a:i∈js:=by simpa[adJ,inJ]using ha
  unfold Z7;cases tk P t with
  |none=>rfl
  |some k=>cases k<;>first|rfl|simp only[hR i a]
 |vecp i m=>
  have a:i∈js:=by simpa[adJ,inJ]using ha
  unfold Z7;cases tk P t with
  |none=>rfl
  |some k=>cases k<;>first|rfl|simp only[hR i a]
 |reg i off=>unfold Z7;cases tk P t with
  |none=>rfl
  |some k=>cases k<;>rfl
 |p y=>unfold Z7;cases tk P t with
  |none=>rfl
  |some k=>cases k<;>cases y<;>rfl
 |elt i k n off=>unfold Z7;cases tk P t with
  |none=>rfl
  |some k=>cases k<;>rfl
 |_=>cases ha
theorem MD {t:TypeId}{x:AV}(ha:inJ js x=true):Kg P R2 t x=Kg P R t x:=by
 cases x with
 |vec i=>
  have a:i∈js:=by simpa[inJ]using ha
  unfold Kg;cases tk P t with
  |none=>rfl
  |some k=>cases k<;>first|rfl|simp only[hR i a]
 |vecp i m=>unfold Kg;cases tk P t with
  |none=>rfl
  |some k=>cases k<;>rfl
 |p y=>unfold Kg;split<;>simp_all
 |_=>cases ha
theorem Hc {k:Nat}{x:AV}(ha:inJ js x=true):elems R2 k x=elems R k x:=by
 cases x with
 |vec i=>
  have a:i∈js:=by simpa[inJ]using ha
  simp only[elems,hR i a]
 |vecp i m=>
  have a:i∈js:=by simpa[inJ]using ha
  simp only[elems,hR i a]
 |p y=>unfold elems;split<;>simp_all
 |_=>cases ha
theorem Lm {e:TypeId}{k:Nat}{x:AV}{q:Nat×(Nat->List PV)×Bool×B4}(ha:inJ js x=true)(h:FD R e k x=some q) :(FD R2 e k x=some (q.1,q.2.1,q.2.2.1,R2)/\q.2.2.2=R) \/ ∃j∈js,FD R2 e k x=some (q.1,q.2.1,q.2.2.1,ins j .dead R2)/\q.2.2.2=ins j .dead R:=by
 cases x with
 |vec i=>
  have b:i∈js:=by simpa[inJ]using ha
  simp only[FD]at h⊢;rw[hR i b]
  right
  refine⟨i,b,?_⟩;cases a:A1 R i with
  |none=>simp[a]at h
  |some o=>
   cases o with
   |vec e' m n f vw=>
    simp only[a]at h⊢;split at h
    .rename_i hc;cases h;exact⟨by rw[Bh hc],rfl⟩
    cases h
   |_=>simp[a]at h
 |vecp i m=>
  have b:i∈js:=by simpa[inJ]using ha
  simp only[FD]at h⊢;rw[hR i b]
  right
  refine⟨i,b,?_⟩;cases a:A1 R i with
  |none=>simp[a]at h
  |some o=>
   cases o with
   |vec e' m n f vw=>
    cases vw with
    |true=>simp[a]at h
    |false=>
     simp only[a]at h⊢;split at h
     .rename_i hc;cases h;exact⟨by rw[Bh hc],rfl⟩
     cases h
   |_=>simp[a]at h
 |p y=>
  left
  unfold FD at h⊢;split at h
  .cases h;exact⟨rfl,rfl⟩
  .rename_i h1;cases h1
  .rename_i h1;cases h1
  cases h
 |_=>cases ha
theorem Ln {t:TypeId}{a x:AV}{c:List Prop}{R' : B4}(ha:adJ js a=true)(h:store P R t a x=some (c,R')):∃i∈js,∃o,R' = ins i o R/\store P R2 t a x=some (c,ins i o R2):=by
 obtain⟨i,s,g⟩:=IO ha;refine⟨i,s,?_⟩;have r:=hR i s;have fin:∀(p:Prop) [Decidable p] (c0:List Prop) (o:Obj),(if p then some (c0,ins i o R)else none)=some (c,R')->∃o',R' = ins i o' R/\(if p then some (c0,ins i o R2)else none)=some (c,ins i o' R2):=by
  intro p _ c0 o h;split at h
  .rename_i hc;simp only[Option.some.injEq,Prod.mk.injEq]at h;obtain⟨rfl,rfl⟩:=h;exact⟨o,rfl,by rw[Bh hc]⟩
  cases h
 cases b:tsz P t with
 |none=>simp[store,b]at h
 |some m=>
  cases d:S4 x with
  |false=>simp[store,b,d]at h
  |true=>
   cases j:A1 R i with
   |none=>rcases g with⟨off,rfl⟩ | ⟨k,n,off,rfl⟩<;>simp[store,b,d,j]at h
   |some o=>
    rw[j]at r;rcases g with⟨off,rfl⟩ | ⟨k,n,off,rfl⟩
    .simp only[store,b,d,j,r]at h⊢;cases o with
     |cells cs=>exact fin _ _ _ h
     |arr n f=>
      cases x with
      |p y=>cases y with
       |agg ps=>exact fin _ _ _ h
       |_=>exact fin _ _ _ h
      |_=>simp at h
     |_=>simp at h
    simp only[store,b,d,j,r]at h⊢;cases o with
    |vec e k' n' f vw=>
     cases vw with
     |true=>simp at h
     |false=>cases x with
      |p y=>exact fin _ _ _ h
      |_=>simp at h
    |fam e n' jr x0=>
     cases x0 with
     |none=>simp at h
     |some q=>
      cases hl:cellsOf x with
      |nil=>simp[hl]at h
      |cons y l=>cases l with
       |nil=>simp only[hl]at h⊢;exact fin _ _ _ h
       |cons=>simp[hl]at h
    |_=>simp at h
end
theorem ME {js:List Nat}{env:Env}{R R' : B4}{d:Nat}{o:Op}{c:List Prop}{v:AV}(f:isL js env o=true)(h:aop P env R d o=some ⟨c,v,R'⟩):R' = R/\∀R2,(∀q∈js,A1 R2 q=A1 R q)->aop P env R2 d o=some ⟨c,v,R2⟩:=by
 cases o with
 |lookup t m k ok=>
  simp only[isL,Bool.and_eq_true]at f;obtain⟨hm,hk⟩:=f;simp only[aop]at h⊢;cases ek:aev env k<;>simp only[ek,isP,Bool.false_eq_true]at hk;cases em:aev env m<;>simp only[em,mrJ,Bool.false_eq_true]at hm;rename_i x j;simp only[ek,em,T5]at h⊢;cases hl:V5 P R t (.mref j) (nP x) ok with
  |none=>simp[hl]at h
  |some q=>
   obtain⟨c',a'⟩:=q;simp only[hl,Option.some.injEq,Out.mk.injEq]at h;obtain⟨rfl,rfl,rfl⟩:=h;refine⟨rfl,fun R2 g=>?_⟩;have e:V5 P R2 t (.mref j) (nP x) ok=V5 P R t (.mref j) (nP x) ok:=by
    unfold V5;cases tk P t with
    |none=>rfl
    |some q=>
     cases q with
     |map kt e=>have e2:=g j (by simpa using hm);cases l:An P kt (nP x)<;>simp only[l,e2]
     |_=>rfl
   rw[e,hl]
 |load t a=>
  simp only[isL]at f;simp only[aop]at h⊢;cases hl:load P R t (aev env a)with
  |none=>simp[hl]at h
  |some q=>obtain⟨c',a'⟩:=q;simp only[hl,Option.some.injEq,Out.mk.injEq]at h;obtain⟨rfl,rfl,rfl⟩:=h;exact⟨rfl,fun R2 g=>by rw[MC g f,hl]⟩
 |indexAddr t x i=>
  simp only[isL]at f;simp only[aop]at h⊢;cases r:asInt (aev env i)with
  |none=>simp[r]at h
  |some n=>
   simp only[r]at h⊢;cases hl:Z7 P R t (aev env x) n with
   |none=>simp[hl]at h
   |some q=>obtain⟨c',a'⟩:=q;simp only[hl,Option.some.injEq,Out.mk.injEq]at h;obtain⟨rfl,rfl,rfl⟩:=h;exact⟨rfl,fun R2 g=>by rw[JQ g f,hl]⟩
 |call cc=>
  obtain⟨callee,args,types⟩:=cc;cases callee with
  |builtin b=>
   cases b with
   |len=>
    simp only[isL]at f;simp only[aop]at h⊢;split at h
    .rename_i x t hx ht;simp only[hx,List.all_cons,List.all_nil,Bool.and_true]at f;cases hl:Kg P R t (aev env x)with
     |none=>simp[hl]at h
     |some n=>simp only[hl,Option.some.injEq,Out.mk.injEq]at h;obtain⟨rfl,rfl,rfl⟩:=h;exact⟨rfl,fun R2 g=>by simp only[MD g f,hl]⟩
    cases h
   |_=>cases f
  |_=>cases f
 |_=>cases f
theorem NI:∀{xs:List AV},xs.all isP=true->∃ys,∀R,Z6 R xs=some (ys,R)
 |[],_=>⟨[],fun _=>rfl⟩
 |.p x::xs,h=>by obtain⟨ys,hy⟩:=NI (xs:=xs) (by simpa[isP]using h);exact⟨nP x::ys,fun R=>by simp only[Z6,T5,hy]⟩
 |.reg .. :: _,h | .elt .. :: _,h | .vec _::_,h | .vecp .. :: _,h | .mref _::_,h | .clo .. :: _,h | .tup _::_,h | .agr _::_,h | .yf _::_,h | .rsl .. :: _,h | .top::_,h=>by simp[isP]at h
theorem OL {n:Nat}:∀{L:List (Nat×AV)},(∀p∈L,isP p.2=true)->∀R,BD R n L=none:=by
 intro L h R;unfold BD;split
 .rename_i j
  have:=h (0,.vec j) (by simp)
  cases this
 rfl
theorem OM {n:Nat}:∀{L:List (Nat×AV)},(∀p∈L,isP p.2=true)->Cw n L=none:=by
 intro L h;unfold Cw;split
 .rename_i j o i q
  have:=h (0,.reg j o) (by simp)
  cases this
 rfl
theorem IP {js:List Nat}{x:AV}(h:mrJ js x=true):∃j,j∈js/\x=.mref j:=by
 cases x with
 |mref j=>exact⟨j,by simpa[mrJ]using h,rfl⟩
 |_=>cases h
theorem MF {js:List Nat}{env:Env}{R R' : B4}{d:Nat}{o:Op}{c:List Prop}{v:AV}(u:isA js env d o=true)(h:aop P env R d o=some ⟨c,v,R'⟩) :∀R2,(∀q∈js,A1 R2 q=A1 R q)->∃R3,aop P env R2 d o=some ⟨c,v,R3⟩/\(∀q∈js,A1 R3 q=A1 R' q)/\∀q,q ∉ js->A1 R3 q=A1 R2 q:=by
 intro R2 h2;have up:∀{A B:B4}(i:Nat) (x:Obj),i∈js->(∀q∈js,A1 A q=A1 B q)->(∀q,q ∉ js->A1 A q=A1 R2 q)->(∀q∈js,A1 (ins i x A) q=A1 (ins i x B) q)/\∀q,q ∉ js->A1 (ins i x A) q=A1 R2 q:=by intro A B i x hi h1 h2;refine⟨fun q hq=>by rw[K6,K6,h1 q hq],fun q hq=>?_⟩;rw[K6,Bv (by rintro rfl;exact hq hi),h2 q hq]
 have one:=fun {i:Nat}(x:Obj) (hi:i∈js)=>up i x hi h2 fun _ _=>rfl;cases o with
 |buildSlice t n parts=>
  simp only[isA,Bool.and_eq_true]at u;have w:nid d 0∈js:=by simpa using u.1
  obtain⟨ys,hys⟩:=NI (xs:=parts.toList.map fun q=>aev env q.2) (by simpa[List.all_map,Function.comp_def]using u.2);have hrl:=OL (n:=n) (L:=parts.toList.map fun q=>(q.1,aev env q.2)) (fun p hp=>by obtain⟨q,hq,rfl⟩:=List.mem_map.1 hp;exact List.all_eq_true.1 u.2 q hq)
  have hrf:=OM (n:=n) (L:=parts.toList.map fun q=>(q.1,aev env q.2)) (fun p hp=>by obtain⟨q,hq,rfl⟩:=List.mem_map.1 hp;exact List.all_eq_true.1 u.2 q hq)
  simp only[aop,hrl,hrf,hys,h2 _ w]at h⊢;split at h
  .split at h
   .rename_i l0 regs0 m0 z0 a3 a4 a5;simp only[Option.some.injEq,Prod.mk.injEq]at a3;obtain⟨rfl,rfl⟩:=a3;split at h
    .rename_i hc;simp only[Option.some.injEq,Out.mk.injEq]at h;obtain⟨rfl,rfl,rfl⟩:=h;refine⟨ins (nid d 0) _ R2,?_,one _ w⟩;simp only[a4,a5];rw[Bh hc]
    cases h
   cases h
  cases h
 |alloc t=>
  have w:nid d 0∈js:=by simpa[isA]using u
  simp only[aop,h2 _ w]at h⊢;split at h
  .rename_i z h1 h3;split at h
   .rename_i hz;simp only[Option.some.injEq,Out.mk.injEq]at h;obtain⟨rfl,rfl,rfl⟩:=h;exact⟨_,by simp only[h1,h3,hz,Bx],one _ w⟩
   cases h
  cases h
 |box t x=>
  have w:nid d 0∈js:=by simpa[isA]using u
  simp only[aop,h2 _ w]at h⊢;split at h
  .rename_i h1 h3;simp only[Option.some.injEq,Out.mk.injEq]at h;obtain⟨rfl,rfl,rfl⟩:=h;exact⟨_,by simp only[h1,h3],one _ w⟩
  cases h
 |makeMap t r=>cases r with
  |some r=>cases u
  |none=>
   have w:nid d 0∈js:=by simpa[isA]using u
   simp only[aop,h2 _ w]at h⊢;split at h
   .rename_i h1;simp only[Option.some.injEq,Out.mk.injEq]at h;obtain⟨rfl,rfl,rfl⟩:=h;exact⟨_,by simp only[h1],one _ w⟩
   cases h
 |mapEntry t m k=>
  simp only[isA,Bool.and_eq_true]at u;obtain⟨j,w,hm⟩:=IP u.1;simp only[aop,hm]at h⊢;split at h
  .rename_i kt e j1 y hk hm2 hy;cases hm2;split at h
   .rename_i es z hes hz;split at h
    .rename_i q h5 h6;simp only[Option.some.injEq,Out.mk.injEq]at h;obtain⟨rfl,rfl,rfl⟩:=h;exact⟨_,by simp only[hk,hy,h2 j w,hes,hz,h5,h6],one _ w⟩
    cases h
   cases h
  cases h
 |entryStore t m s x=>
  simp only[isA,Bool.and_eq_true]at u;obtain⟨j,w,hm⟩:=IP u.1;obtain⟨xx,hx⟩:∃xx,aev env x=.p xx:=by
   cases hx:aev env x with
   |p xx=>exact⟨xx,rfl⟩
   |_=>rw[hx]at u;cases u.2
  simp only[aop,hm,hx,T5]at h⊢;split at h
  .rename_i j1 s1 y R1 hm2 hs hy;cases hm2;simp only[Option.some.injEq,Prod.mk.injEq]at hy;obtain⟨rfl,rfl⟩:=hy;split at h
   .rename_i es hes;simp only[Option.some.injEq,Out.mk.injEq]at h;obtain⟨rfl,rfl,rfl⟩:=h;exact⟨_,by simp only[hs,h2 j w,hes],one _ w⟩
   cases h
  cases h
 |store t a x=>
  simp only[isA]at u;simp only[aop]at h⊢;split at h
  .rename_i hs;simp only[Option.some.injEq,Out.mk.injEq]at h;obtain⟨rfl,rfl,rfl⟩:=h;obtain⟨i,hi,o,rfl,hs2⟩:=Ln h2 u hs;exact⟨_,by simp only[hs2],one _ hi⟩
  cases h
 |call cc=>
  obtain⟨callee,args,types⟩:=cc;cases callee with
  |builtin b=>
   cases b with
   |append=>
    simp only[isA,Bool.and_eq_true]at u;have w:nid d 0∈js:=by simpa using u.1
    have u:=u.2;simp only[aop,h2 _ w]at h⊢;split at h
    .rename_i s x t t2 hx ht;simp only[hx,List.all_cons,List.all_nil,Bool.and_true,Bool.and_eq_true]at u;split at h
     .rename_i e k2 hk1 hk2;split at h
      .rename_i m z hz1 hz2 hz3;split at h
       .rename_i n g l f vw regs1 hn he htk;split at h
        .rename_i hc;simp only[Option.some.injEq,Out.mk.injEq]at h;obtain⟨rfl,rfl,rfl⟩:=h;rcases Lm h2 u.1 htk with⟨h3,h4⟩ | ⟨j,hjj,h3,h4⟩
         .simp only at h3 h4;subst h4;refine⟨ins (nid d 0) (.vec e m (l+n) (AS l f g) vw) R2,?_,one _ w⟩;simp only[Hc h2 u.2,hz1,hz2,hz3,hn,he,h3];rw[Bh hc]
         simp only at h3 h4;subst h4;have h5:=one (i:=j) .dead hjj;refine⟨ins (nid d 0) (.vec e m (l+n) (AS l f g) vw) (ins j .dead R2),?_,up _ _ w h5.1 h5.2⟩;simp only[Hc h2 u.2,hz1,hz2,hz3,hn,he,h3];rw[Bh hc]
        cases h
       split at h
       .rename_i c1 v1 R1 hF;simp only[Option.some.injEq,Out.mk.injEq]at h;obtain⟨rfl,rfl,rfl⟩:=h;simp only[Cv]at hF;split at hF
        .rename_i j l hs hx';have hjj:j∈js:=by have:=u.1;rw[hs]at this;simpa[inJ]using this
         have hll:l∈js:=by have:=u.2;rw[hx']at this;simpa[inJ]using this
         split at hF
         .rename_i e1 n jr e2 jz y h1 h3 h4;split at hF
          .rename_i hc;simp only[Option.some.injEq,Prod.mk.injEq]at hF;obtain⟨rfl,rfl,rfl⟩:=hF;have a1:=one (i:=j) .dead hjj;have a2:=up l .dead hll a1.1 a1.2;refine⟨ins (nid d 0) (.fam e (n+1) jr (some (n,y))) (ins l .dead (ins j .dead R2)),?_,up _ _ w a2.1 a2.2⟩;have el:elems R2 m (.vec l)=none:=by simp only[elems,h2 l hll,h4]
           simp only[hz1,hz2,hz3,hs,hx',el,h1];simp only[Cv,h2 _ w,h2 j hjj,h2 l hll,h1,h3,h4];rw[Bh hc]
          cases hF
         cases hF
        cases hF
       cases h
      cases h
     cases h
    cases h
   |_=>cases u
  |_=>cases u
 |_=>cases u
theorem Gb {js:List Nat}{R R' : B4}{x:AV}{y:PV}(hx:inJ js x=true)(h:T5 R x=some (y,R')):∀q,q ∉ js->A1 R' q=A1 R q:=by
 intro q b;have up:∀(j:Nat) (o:Obj),j∈js->A1 (ins j o R) q=A1 R q:=fun j o a=>by rw[K6,Bv (by rintro rfl;exact b a)]
 cases x with
 |p x=>simp only[T5,Option.some.injEq,Prod.mk.injEq]at h;rw[<- h.2]
 |vec j=>
  have a:j∈js:=by simpa[inJ]using hx
  simp only[T5]at h;split at h
  .simp only[Option.some.injEq,Prod.mk.injEq]at h;rw[<- h.2];exact up _ _ a
  cases h
 |vecp j m=>
  have a:j∈js:=by simpa[inJ]using hx
  simp only[T5]at h;split at h
  .simp only[Option.some.injEq,Prod.mk.injEq]at h;rw[<- h.2];exact up _ _ a
  cases h
 |_=>cases hx
theorem Hd {js:List Nat}:∀{xs:List AV}{R R' : B4}{l:List PV},(xs.all fun x=>inJ js x)=true->Z6 R xs=some (l,R')->∀q,q ∉ js->A1 R' q=A1 R q
 |[],R,R',l,_,h,q,_=>by simp only[Z6,Option.some.injEq,Prod.mk.injEq]at h;rw[<- h.2]
 |x::xs,R,R',l,hx,h,q,hq=>by
  simp only[List.all_cons,Bool.and_eq_true]at hx;simp only[Z6]at h;cases h1:T5 R x with
  |none=>simp[h1]at h
  |some p=>
   obtain⟨y,R1⟩:=p;simp only[h1]at h;cases a:Z6 R1 xs with
   |none=>simp[a]at h
   |some p=>obtain⟨l1,R2⟩:=p;simp only[a,Option.some.injEq,Prod.mk.injEq]at h;rw[<- h.2,Hd hx.2 a q hq,Gb hx.1 h1 q hq]
theorem MG {js:List Nat}{env:Env}{R R' : B4}{d:Nat}{o:Op}{c:List Prop}{v:AV}(a:isB js env d o=true)(h:aop P env R d o=some ⟨c,v,R'⟩):∀q,q ∉ js->A1 R' q=A1 R q:=by
 intro q b;cases o with
 |buildSlice t n parts=>
  simp only[isB,Bool.and_eq_true]at a;have f:nid d 0∈js:=by simpa using a.1
  have up:∀(R1:B4) (o:Obj),A1 (ins (nid d 0) o R1) q=A1 R1 q:=fun R1 o=>by rw[K6,Bv (by rintro rfl;exact b f)]
  simp only[aop]at h;split at h
  .split at h
   .split at h
    .split at h
     .simp only[Option.some.injEq,Out.mk.injEq]at h;rw[<- h.2.2];exact up _ _
     cases h
    cases h
   cases h
  split at h
  .split at h
   .split at h
    .split at h
     .simp only[Option.some.injEq,Out.mk.injEq]at h;rw[<- h.2.2];exact up _ _
     cases h
    cases h
   cases h
  split at h
  .split at h
   .rename_i g _ _;split at h
    .simp only[Option.some.injEq,Out.mk.injEq]at h;rw[<- h.2.2,up];exact Hd (by simpa[List.all_map,Function.comp_def]using a.2) g q b
    cases h
   cases h
  cases h
 |_=>cases a
theorem Fq {cl:Cls}{env:Env}{R R' : B4}{d:Nat}{o:Op}{c:List Prop}{v:AV}(f:Hb cl env d o=true)(h:aop P env R d o=some ⟨c,v,R'⟩):clsF cl (isN env o=true) (R' = R)/\clsX P cl env R d o c v R':=by
 cases cl with
 |n=>exact⟨f,trivial⟩
 |r=>exact⟨MB f h,trivial⟩
 |w=>exact⟨trivial,trivial⟩
 |l j=>exact⟨trivial,ME f h⟩
 |a j=>exact⟨trivial,MF f h⟩
 |b j=>exact⟨trivial,MG f h⟩
variable {kn:List Nat}{all:List Oper}{k:Env->B4->Prop}
theorem Eu:∀(cls:List Cls) (rest:List Oper) (c:List Prop) (env:Env) (regs:B4),B9 (EF P kn all cls rest c env regs).conds ->
 B9 c/\(CU S P all (EF P kn all cls rest c env regs).cls (EF P kn all cls rest c env regs).rest (EF P kn all cls rest c env regs).env (EF P kn all cls rest c env regs).regs k->CU S P all cls rest env regs k)
 |[],[],c,env,regs,h=>⟨h,fun h=>h⟩
 |[],_::_,c,env,regs,h=>⟨h,fun h=>h⟩
 |_::_,[],c,env,regs,h=>⟨h,fun h=>h⟩
 |cl::cls,o::rest,c,env,regs,h=>by
  simp only[EF]at h⊢;cases g:Qf kn all env o with
  |true=>simp only[g]at h⊢;exact⟨h,fun h=>h⟩
  |false=>
  simp only[g]at h⊢;cases f:O6 all env o with
  |none=>simp only[f]at h⊢;exact⟨h,fun h=>h⟩
  |some b=>
   cases b with
   |true=>
    simp only[f]at h⊢;cases ha:(NC o.op&&Hb cl env (o.dst.getD 0) o.op)with
    |false=>simp only[ha]at h⊢;exact⟨h,fun h=>h⟩
    |true=>
     simp only[ha]at h⊢;simp only[Bool.and_eq_true]at ha;cases hp:aop P env regs (o.dst.getD 0) o.op with
     |none=>simp only[hp]at h⊢;exact⟨h,fun h=>h⟩
     |some q=>
      obtain⟨p,v,regs'⟩:=q;simp only[hp,Jr,Om,PR]at h⊢;have fin:∀(env' : Env),env' = Et o.dst v env->(B9 (p++c)/\(CU S P all (EF P kn all cls rest (p++c) env' regs').cls (EF P kn all cls rest (p++c) env' regs').rest (EF P kn all cls rest (p++c) env' regs').env (EF P kn all cls rest (p++c) env' regs').regs k->CU S P all cls rest env' regs' k)) ->
       B9 c/\(CU S P all (EF P kn all cls rest (p++c) env' regs').cls (EF P kn all cls rest (p++c) env' regs').rest (EF P kn all cls rest (p++c) env' regs').env (EF P kn all cls rest (p++c) env' regs').regs k->CU S P all (cl::cls) (o::rest) env regs k):=by
       rintro env' rfl ⟨h1,i⟩;obtain⟨j,l⟩:=(R6 _ _).1 h1;exact⟨j,fun hs=>⟨true,f,by rw[Bh rfl];exact⟨v,regs', .inl ⟨p,hp,l,Fq ha.2 hp⟩,i hs⟩⟩⟩
      cases a:o.dst with
      |some d=>simp only[a,BK]at h⊢;exact fin _ (by simp[a,Et]) (Eu cls rest _ _ _ h)
      |none=>simp only[a]at h⊢;exact fin _ (by simp[a,Et]) (Eu cls rest _ _ _ h)
   |false=>
    simp only[f]at h⊢;cases a:o.dst with
    |some d=>simp only[a,BK]at h⊢;obtain⟨h1,i⟩:=Eu cls rest _ _ _ h;exact⟨h1,fun hs=>⟨false,f,by simp only[Bool.false_eq_true,By,a,Et];exact i hs⟩⟩
    |none=>simp only[a]at h⊢;obtain⟨h1,i⟩:=Eu cls rest _ _ _ h;exact⟨h1,fun hs=>⟨false,f,by simp only[Bool.false_eq_true,By,a,Et];exact i hs⟩⟩
theorem s_go {cls cls' : List Cls}{rest rest' : List Oper}{c:List Prop}{env env' : Env}{regs regs' : B4}(h:EF P kn all cls rest [] env regs=⟨c,cls',rest',env',regs'⟩)(hc:B9 c)(hk:CU S P all cls' rest' env' regs' k):CU S P all cls rest env regs k:=by
 have:=Eu (S:=S) (kn:=kn) (k:=k) cls rest [] env regs (by rw[h];exact hc)
 rw[h]at this;exact this.2 hk
theorem s_end {cls:List Cls}{env:Env}{regs:B4}(h:k env regs):CU S P all cls [] env regs k:=by cases cls<;>exact h
theorem IQ {cl:Cls}{cls:List Cls}{o:Oper}{rest:List Oper}{env:Env}{regs regs' : B4}{c:List Prop}{v:AV}(b:O6 all env o=some true)(ha:aop P env regs (o.dst.getD 0) o.op=some ⟨c,v,regs'⟩)(hc:B9 c)
 (a:Hb cl env (o.dst.getD 0) o.op=true) (hk:CU S P all cls rest (Et o.dst v env) regs' k):CU S P all (cl::cls) (o::rest) env regs k:=
 ⟨true,b,by rw[Bh rfl];exact⟨v,regs', .inl ⟨c,ha,hc,Fq a ha⟩,hk⟩⟩
theorem DO {m:List Nat}:∀{ids:List Nat}{objs:List Obj}{R:B4}{q:Nat},q ∉ ids->A1 (FG m ids objs R) q=A1 R q
 |[],_,R,q,_=>rfl
 |j::ids,[],R,q,_=>rfl
 |j::ids,o::objs,R,q,h=>by simp only[List.mem_cons,not_or]at h;show A1 (FG m ids objs (ins j (unO m o) R)) q=_;rw[DO h.2,K6,Bv (Ne.symm h.1)]
theorem Lo {cl:Cls}{cls:List Cls}{o:Oper}{rest:List Oper}{env:Env}{regs regs1:B4}{c:Call}{f:Operand}{as:List AV}{fn:FuncId}{as' args:List AV}{objs objs' : List Obj}{ks:List Bool}{r:AV}(ids:List Nat)(a:cl=.w \/ ∃js,cl=.b js/\∀q,q ∉ js->A1 (FG (F0 (o.dst.getD 0) ids ks objs'.length) (F0 (o.dst.getD 0) ids ks objs'.length) objs' (H8 ids ks regs1)) q=A1 regs q)(g:O6 all env o=some true)(i:o.op=.call c)(j:c.callee=.value f)
 (ha:CT regs (c.args.toList.map (aev env))=some (as,regs1)) (hw:Gw env f as=some (fn,as')) (l:Ap ids as' = some args) (d:I5 ids regs1 ids=some objs) (m:N5 S fn args objs r objs' ks)
 (n:G7 ids=true) (hy:AI objs=true) (hn:L9 regs1 ids ks (o.dst.getD 0) objs'.length=true)
 (hk:CU S P all cls rest (Et o.dst (unA (F0 (o.dst.getD 0) ids ks objs'.length) r) env) (FG (F0 (o.dst.getD 0) ids ks objs'.length) (F0 (o.dst.getD 0) ids ks objs'.length) objs' (H8 ids ks regs1)) k) :
 CU S P all (cl::cls) (o::rest) env regs k:=
 ⟨true,g,by rw[Bh rfl];exact⟨_,_,.inr (.inr (.inl ⟨a,c,f,as,regs1,fn,as',args,objs,objs',ks,r,ids,i,j,ha,hw,l,d,m,n,hy,hn,rfl,rfl⟩)),hk⟩⟩
theorem MH {cl:Cls}{cls:List Cls}{o:Oper}{rest:List Oper}{env:Env}{regs:B4}{c:List Prop}{x:PV}(a:O6 all env o=some true)(ha:ET P env o.op=some (c,x))(hc:B9 c)
 (hk:CU S P all cls rest (Et o.dst (.p x) env) regs k):CU S P all (cl::cls) (o::rest) env regs k:=
 ⟨true,a,by rw[Bh rfl];exact⟨_,regs,.inr (.inr (.inr (.inl ⟨c,x,ha,hc,rfl,rfl⟩))),hk⟩⟩
def QQ (o:Op):Cls:=match o with
 |.buildSlice ..=>.n
 |o=>clsOf o
theorem MI (hS:H4 S P){F:I6}{K:List It}{id:Nat}{ops:Array Oper}{st:St}{cls:List Cls}(a:P.follows .mixedOrders=true)(c:ops.toList.map (fun o=>QQ o.op)=cls)(b:Es ops.toList cls=true)
 (h:CU S P ops.toList cls ops.toList st.env st.regs fun env regs=>G S P F (.pop .normal K ⟨env,regs⟩)):G S P F (.code (.region id ops true) K st):=
 Ll hS cls a b h
end
end Go.AM
namespace Go.AM
section
variable {S:T3}{P:Program}{F:I6}{K:List It}{st:St}
theorem JR (hS:H4 S P){f:FuncId}{fn:Func}{code:Code}{args:List AV}{objs:List Obj}{Q:EU->List Obj->List Bool->Prop}{rs:List ResultVar}(d:P.funcs[f]? = some fn)(hc:fn.body=some code)(hn:args.length<=fn.ntmps)(g:objs.length<1000)
 (a:fn.results.toList=rs) (b:P3 fn.ntmps code=true) (c:(fn.name == "runtime.NumGoroutine")=false)
 (h:G S P (Z9 S P objs.length rs Q) (.code code [] { env:=argEnv args,regs:=objRegs objs })):S.F f args objs Q:=by
 subst a;exact hS.func f fn code args objs _ d hc c b hn g (hS.refl _ _ h)
theorem ON (hS:H4 S P){all rest:List Oper}{o:Oper}{c:Call}{f:Operand}{j:Nat}{xs ys:List PV}{regs:B4}{rest0:List (List PV)}
 (i:Y1 all st.env o=some true) (l:o.op=.call c) (d:c.callee=.value f) (hy:aev st.env f=.yf j) (g:Z6 st.regs (c.args.toList.map (aev st.env))=some (xs,regs))
 (m:A1 regs j=some (.yld (ys::rest0) true)) (a:Aq j regs=true) (hle:Oh xs ys)
 (hk:∀b:Bool,G S P F (.ops all rest K (put { st with regs:=ins j (.yld (if b then rest0 else []) b) regs } o.dst (.p (.bb b))))):G S P F (.ops all (o::rest) K st):=by
 refine AY hS i ?_;unfold wOp;obtain⟨callee,cargs,types⟩:=c;simp only at d g;subst d;rw[l];exact .inr (.inl ⟨j,xs,regs,ys,rest0,hy,g,m,a,hle,hk⟩)
def JS (S:T3)(f:FuncId)(first caps:List AV)(objs:List Obj)(L:List (List PV)):Prop:= S.F f (first ++ .yf objs.length::caps) (objs++[.yld L true]) fun r objs' ks=>∃b,objs'[objs.length]? = some (.yld [] b)/\ks[objs.length]? = some true/\∃a,r=.ret a
def BU (S:T3)(P:Program)(body:Code)(gh:Nat)(ts:List Nat)(next:St->Prop)(Q:I6):I6
 |.normal,s=>S.up s fun s=>awp S P body (AW S gh ts next Q) s
 |_,_=>False
theorem G_asg (hS:H4 S P){body:Code}{gh:Nat}{ts:List Nat}{next:St->Prop}{Q:I6}(h:G S P (AW S gh ts next Q) (.code body [] st)):G S P (BU S P body gh ts next Q) (.pop .normal [] st):=
 hS.refl _ _ h
def Qg {X:Type}(s:X->St)(J:List (List PV)->X->Prop)(rest:List (List PV))(t:St):Prop:=∃x,t=s x/\J rest x
theorem OO (hS:H4 S P){g:Operand}{ps:Array Tmp}{asg body:Code}{f:FuncId}{first caps as bs:List AV}{objs:List Obj}(ids ts:List Nat)(gh:Nat)(L:List (List PV)){X:Type}(s:X->St)(J:List (List PV)->X->Prop)(x0:X)(idl:List (Nat×Nat))
 (hp:BJ st.env g=some (f,first,caps)) (m:∃fn,P.funcs[f]? = some fn/\fn.body.isSome=true/\(fn.name == "runtime.NumGoroutine")=false) (n:I5 ids st.regs ids=some objs) (q:AI objs=true) (hd:G7 ids=true) (t:Ap ids first=some as) (u:Ap ids caps=some bs) (v:objs.length=ids.length)
 (w:gh<1000) (y:A1 st.regs gh=none) (z:ids.length<1000) (a0:G7 ts=true) (d:∀ys∈L,ys.length=ps.size)
 (hF:JS S f as bs objs L) (hle:Le idl ⟨R7 ts (ts.map (get st.env)),H8 ids (ids.map fun _=>false) st.regs⟩ (s x0)) (h0:J L x0) (hk:∀x,(s x).env.map (·.1)=ts) (hn:∀x,A1 (s x).regs gh=none)
 (c:∀ys rest x,J (ys::rest) x->G S P (BU S P body gh ts (Qg s J rest) (kp S P K F)) (.code asg [] ⟨DX ps.toList ys (s x).env,ins gh (.ghost ((s x).env.map (·.2))) (s x).regs⟩))
 (i:∀x,J [] x->G S P F (.pop .normal K (s x))):G S P F (.code (.rangeFunc g ps asg body) K st):=by
 have j:∀{l:List Nat},G7 l=true->l.Nodup:=by
  intro l
  induction l with
  |nil=>intro _;exact List.nodup_nil
  |cons a r ih=>intro h;simp only[G7,Bool.and_eq_true,Bool.not_eq_true',List.contains_eq_mem,decide_eq_false_iff_not]at h;exact List.nodup_cons.2 ⟨h.1,ih h.2⟩
 refine⟨f,first,caps,as,bs,objs,ids,ts,gh,L,Qg s J,fun _ r=>∃a,r=.ret a,hp,m,q,hd,t,u,n,w,y,z,j a0,d,hS.le idl _ _ _ hle ⟨hk x0,hn x0,x0,rfl,h0⟩,?_,?_,?_⟩
 .rintro ys rest _ _ _ ⟨x,rfl,hJ⟩;have h:=c ys rest x hJ;have e:BU S P body gh ts (Qg s J rest) (kp S P K F)=fun e s'=>match e with
   |.normal=>S.up s' fun s'=>awp S P body (AW S gh ts (Qg s J rest) (kp S P K F)) s'
   |_=>False:=by funext e s';cases e<;>rfl
  rw[e]at h;exact h
 .rintro _ r _ _ ⟨x,rfl,hJ⟩ ⟨a,rfl⟩;exact i x hJ
 rw[<- v];refine hS.monoF _ _ _ _ _ ?_ hF;rintro r o ks ⟨b,h1,h2,h3⟩;exact⟨b,h1,h2,h3,fun _=>h3⟩
theorem OP (hS:H4 S P){gh:Nat}{ts:List Nat}{X:Type}{s:X->St}{J:List (List PV)->X->Prop}{rest:List (List PV)}{Q:I6}(st1:St){cs:List AV}(x:X)(idl:List (Nat×Nat))(hle:Le idl st st1)(a:A1 st1.regs gh=some (.ghost cs))(hl:cs.length=ts.length)(b:A1 (del gh st1.regs) gh=none)
 (c:(⟨R7 ts cs,del gh st1.regs⟩:St)=s x) (d:J rest x):G S P (AW S gh ts (Qg s J rest) Q) (.pop .normal [] st):=
 hS.le idl _ _ _ hle ⟨cs,a,hl,b,x,c,d⟩
theorem IR (hS:H4 S P){gh:Nat}{ts:List Nat}{next:St->Prop}{e:EG}(c:match e with | .normal | .panic _=>False|_=>True)(st1:St){cs:List AV}(idl:List (Nat×Nat))(hle:Le idl st st1)(a:A1 st1.regs gh=some (.ghost cs))(hl:cs.length=ts.length)(b:A1 (del gh st1.regs) gh=none)
 (hk:G S P F (.pop e K ⟨R7 ts cs,del gh st1.regs⟩)):G S P (AW S gh ts next (kp S P K F)) (.pop e [] st):=by
 cases e with
 |normal=>exact c.elim
 |panic x=>exact c.elim
 |exit id=>exact hS.le idl _ _ _ hle ⟨cs,a,hl,b,hk⟩
 |goto t=>exact hS.le idl _ _ _ hle ⟨cs,a,hl,b,hk⟩
 |ret=>exact hS.le idl _ _ _ hle ⟨cs,a,hl,b,hk⟩
end
end Go.AM
namespace Go.AM
def DP {n:Nat}(h:n<2 ^ 32):IntKind.u32.wrap (n:Int)=n:=by have h1:((n:Int) % (2 ^ 32:Int))=n:=Int.emod_eq_of_lt (by omega) (by omega);unfold IntKind.wrap;simp only[IntKind.bits,IntKind.signed,h1,Bool.false_and,Bool.false_eq_true,By]
abbrev u32 (x:BitVec 32):PV:=.v (.int .u32 x.toNat)
def Aw (x:BitVec 32):BitVec.ofInt 32 (x.toNat:Int)=x:=by
 apply BitVec.eq_of_toNat_eq;rw[BitVec.toNat_ofInt]
 have:=x.isLt
 omega
def OQ (x y:BitVec 32):K8 .and .u32 x.toNat y.toNat=((x &&& y).toNat:Int):=by simp only[K8,IntKind.bits,Aw];exact DP (x &&& y).isLt
def Qh (x y:BitVec 32):K8 .or .u32 x.toNat y.toNat=((x ||| y).toNat:Int):=by simp only[K8,IntKind.bits,Aw];exact DP (x ||| y).isLt
def JT (x y:BitVec 32):K8 .andNot .u32 x.toNat y.toNat=((x &&& ~~~ y).toNat:Int):=by simp only[K8,IntKind.bits,Aw];exact DP (x &&& ~~~ y).isLt
def Qi (x:BitVec 32)(n:Nat):shI .shl .u32 x.toNat n=((x <<< n).toNat:Int):=by
 simp only[shI,IntKind.bits,Int.toNat_natCast];rw[BitVec.toNat_shiftLeft,Nat.shiftLeft_eq];unfold IntKind.wrap;simp only[IntKind.bits,IntKind.signed,Bool.false_and,Bool.false_eq_true,By];by_cases h:n<=32
 .rw[Nat.min_eq_left h]
  norm_cast
 rw[Nat.min_eq_right (by omega)];have h1:x.toNat*2 ^ n % 2 ^ 32=0:=by obtain⟨d,rfl⟩:∃d,n=32+d:=⟨n-32,by omega⟩;rw[Nat.pow_add,<- Nat.mul_assoc,Nat.mul_right_comm,Nat.mul_mod_left]
 have a:x.toNat*2 ^ 32 % 2 ^ 32=0:=Nat.mul_mod_left _ _;rw[h1];simp
end Go.AM
namespace Go.AM
def EM {P:Program}{f:FuncId}{args:List PV}{r:AV}(d:∀as w,(callFunc f as).run P w=.ok (.enter f as) w)
 (h:∀(w:World) (Pi:Nat->Nat->Prop) (vs:Array Value),TabOk P w Pi->(∀b off,Pi b off->b<w.heap.size)->vs.size=args.length->(∀i,i<args.length->RepP w Pi (vs.getD i undef) (args.getD i default)) ->
  Calls P f vs w fun e w'=>∃v,e=.returned v/\RowKit.Below w.heap.size w w' /\ ∀live rho,RepA w' Pi live rho v r):LR (DT P) f (args.map .p) r:=by
 intro 𝒢 C w vs rho q hs l;have s:=h w (Prv C.X (A1 (objRegs [])) rho) vs ((𝒢.tab C q).keeps hs.keep) (fun b off hp=>by
  rcases hp with hp|⟨j,o,a,_⟩
  .exact hs.hp.bound b off hp
  .simp[objRegs,objRegs.go,A1]at a) (by simpa using l) (fun i m=>by
  have:=hs.env i
  rw[O4]at this;have e:(args.map AV.p).getD i .top=.p (args.getD i default):=by simp[m]
  rw[e]at this;exact this.toP)
 refine⟨_,_,d _ _,callsIn_wide.2 (s.mono ?_)⟩;rintro e w' ⟨v,rfl,hb,t⟩;have hk:Keeps w (Prv C.X (A1 (objRegs [])) rho) w' (Prv C.X (A1 (objRegs [])) rho):=fun b o v hp hc=>⟨by rw[<- hc];exact World.cell?_of_block (hb.block b (World.block_lt_of_cell? w ⟨b,o,none⟩ hc)),hp⟩
 refine⟨C,.ret r,[],[],rho,q,⟨rfl,rfl,rfl⟩,?_,⟨v,rfl,t _ _⟩,fun i m=>by simp at m⟩;have c:∀j,A1 (objRegs []) j=none:=fun j=>by simp[objRegs,objRegs.go,A1]
 refine⟨⟨fun j o a=>by simp[c]at a,fun i j oi oj b a=>by simp[c]at a,fun j o b off a=>by simp[c]at a,fun b off hp=>Nat.lt_of_lt_of_le (hs.hp.bound b off hp) hb.size⟩,hs.ext.trans ⟨hb.os,hb.output⟩,Nat.le_trans hs.size hb.size,fun b g u=>?_,hs.keep.trans hk,fun b n=>?_,fun j r b a=>by simp[c]at a⟩
 .rw[hb.block b (Nat.lt_of_lt_of_le g hs.size)];exact hs.same b g u
 obtain⟨j,o,a,_⟩:=n;simp[c]at a
def L3 {P:Program}{f:FuncId}{args:List PV}{r:AV}(a:∀as w,(callFunc f as).run P w=.ok (.enter f as) w)
 (h:∀(w:World) (Pi:Nat->Nat->Prop) (vs:Array Value),(∀b off,Pi b off->b<w.heap.size)->vs.size=args.length->(∀i,i<args.length->RepP w Pi (vs.getD i undef) (args.getD i default)) ->
  Calls P f vs w fun e w'=>∃v,e=.returned v/\RowKit.Below w.heap.size w w' /\ ∀live rho,RepA w' Pi live rho v r):LR (DT P) f (args.map .p) r:=
 EM a fun w Pi vs _=>h w Pi vs
end Go.AM
namespace Go.AM
open Go.RowKit Go.ChangeShapes
def QR (W:World):Ctx:={ X:=fun _ _=>False,w0:=W,E0:=fun _=>False,Pi0:=fun _ _=>False,rho0:=fun _=>undef,Y:=fun _ _=>False,yv:=undef }
theorem OR {W:World}{vs:Array Value}{args:List PV}(g:vs.size=args.length)(l:∀i,i<args.length->RepP W (fun _ _=>False) (vs.getD i undef) (args.getD i default)) :Sat (QR W) ⟨argEnv (args.map .p),objRegs []⟩ ⟨vs,[]⟩ W (fun _=>undef):=by
 have a:∀j,A1 (objRegs []) j=none:=fun j=>by simp[objRegs,objRegs.go,A1]
 have f:∀b o,¬Prv (QR W).X (A1 (objRegs [])) (fun _=>undef) b o:=fun b o h=>by
  rcases h with h|⟨j,o',c,_⟩
  .exact h
  simp[a]at c
 refine⟨⟨⟨fun j o c=>by simp[a]at c,fun i j oi oj b c=>by simp[a]at c,fun j o b off c=>by simp[a]at c,fun b off hp=>hp.elim⟩,Ext.refl _,Nat.le_refl _,fun _ _ _=>rfl,fun b o v _ hc=>⟨hc,f b o⟩,fun b hb=>?_,fun j r b c=>by simp[a]at c⟩,fun t=>?_,fun j _ hl=>?_,List.nodup_nil,fun d m=>by cases m⟩
 .obtain⟨j,o,c,_⟩:=hb;simp[a]at c
 .show RepA W _ _ _ (vs.getD t undef) (get (argEnv (args.map .p)) t);rw[O4];by_cases ht:t<args.length
  .have e:(args.map AV.p).getD t .top=.p (args.getD t default):=by simp[ht]
   rw[e];exact .p _ _ ((l t ht).keeps fun b o v _ hc=>⟨hc,f b o⟩)
  have e:(args.map AV.p).getD t .top=.top:=by simp[Nat.le_of_not_lt ht]
  rw[e];exact .top _
 obtain⟨o,n⟩:=hl
structure Qj (W w' : World):Prop where
 os:w'.os=W.os
 output:w'.output=W.output
 size:W.heap.size<=w'.heap.size
 block:∀b,b<W.heap.size->w'.heap[b]? = W.heap[b]?
theorem FC {P:Program}{f:FuncId}{args:List PV}(a:∀as w,(callFunc f as).run P w=.ok (.enter f as) w)(h:LR (DT P) f (args.map .p) (.p (.bb true)))
 {W:World}{vs:Array Value}(g:TabOk P W fun _ _=>False) (c:vs.size=args.length) (j:∀i,i<args.length->RepP W (fun _ _=>False) (vs.getD i undef) (args.getD i default)) :
 Calls P f vs W fun e w'=>e=.returned (.bool true)/\Qj W w':=by
 obtain⟨nx,w1,h1,l⟩:=h (Prot.triv P (QR W) (fun _ _ h=>h) g) (QR W) W vs _ rfl (OR c j) (by simpa using c);rw[a]at h1;cases h1;refine (callsIn_wide.1 l).mono ?_;rintro e w' ⟨C',r,objs',ks,rho',rfl,⟨rfl,rfl,rfl⟩,d,⟨v,rfl,m⟩,_⟩;cases m with
 |p _ _ hp=>cases hp;exact⟨rfl,d.ext.1,d.ext.2,d.size,fun b hb=>d.same b hb fun h=>h⟩
section
variable {H:Type}{enc:TypeId×Value->H}{P:Program}
theorem MJ {W w' : World}(h:Qj W w')(may:MemPlace->Prop):W.keptBut w' may:=by
 refine⟨h.os,h.output,fun i a=>?_⟩;rw[h.block i a];generalize W.heap[i]? = o;cases o with
 |none=>trivial
 |some o=>cases o<;>first|exact⟨rfl,rfl,rfl,fun _ _=>rfl⟩ | exact .inr ⟨rfl,rfl⟩ | rfl
theorem Lp {W w' : World}(h:Qj W w'){p:MemPlace}(hp:p.block<W.heap.size):W.sameAt w' p:=by have hb:RowKit.Below W.heap.size W { w' with tape:=W.tape }:=⟨h.os,rfl,h.output,h.size,fun k hk=>h.block k hk⟩;exact hb.same hp
theorem DB {W w' : World}(hk:Qj W w')(hl:laidOutB P=true){sp:Nat->Bool}:∀{ts:List TypeId}{vs:List Value}{ds:List (DataW H)}{ps:List MemPlace},(∀t∈ts,P.readableRec t=true/\t<P.types.size) ->
 (∀p∈ps,p.block<W.heap.size)->(∀p∈ps,sp p.block=true)->DataW.TrodAll enc P W 0 (fun _=>true) true ts vs ds ps->DataW.TrodAll enc P w' 0 sp true ts vs ds ps
 |[],[],[],_,_,_,_,h=>h
 |t::ts,v::vs,d::ds,_,hr,hlt,hs,⟨p,q,h1,h2,e⟩=>by subst e;refine⟨p,q,?_,DB hk hl (fun t ht=>hr t (List.mem_cons.2 (.inr ht))) (fun x hx=>hlt x (List.mem_append_right _ hx)) (fun x hx=>hs x (List.mem_append_right _ hx)) h2,rfl⟩;exact WideElems.Trod_stays hl (hr t (by simp)).1 (hr t (by simp)).2 h1 (fun x hx=>Lp hk (hlt x (List.mem_append_left _ hx))) (fun x hx=>hs x (List.mem_append_left _ hx))
theorem LX {f:Func}{s:ChangeSpec}{tb:TypeId}{W W' : World}{args:Array Value}{ds gs:List (DataW H)}{before:List MemPlace}(a:s.vars=[])(d:f.resultTypes = #[tb])(j:P.underlying tb=some .bool)(hl:laidOutB P=true)
 (g:∀t∈f.params.toList,P.readableRec t=true/\t<P.types.size) (r:DataW.Whole enc P f.params.toList s.vars false W args.toList ds gs before)
 (i:s.fn H ds={ results:=[.lit (.bool true)],args:=ds,vars:=[] }) (hk:Qj W W'):s.post enc P f false true false false W args (.bool true) W':=by
 have c:∀p∈before,p.block<W.heap.size:=fun p hp=>r.lt p hp;have l:=r;obtain⟨p,q,w,u,rfl,y,hn⟩:=r;rw[a]at u;obtain⟨rfl,rfl⟩:=trodVars_none u;simp only[List.append_nil]at c l;have m : ∀sp:Nat->Bool,(∀x∈p,sp x.block=true)->DataW.TrodAll enc P W' 0 sp true f.params.toList args.toList (s.fn H (ds++[])).args p:=fun sp hsp=>by rw[List.append_nil,i];exact DB hk hl g c hsp w
 have hR:∀(b:Nat) (sp:Nat->Bool) (v:Bool),DataW.TrodAll enc P W' b sp v f.resultTypes.toList ((Value.bool true).resultList f.resultTypes.size) (s.fn H (ds++[])).results []:=fun b sp v=>by rw[List.append_nil,i,d];exact⟨[],[],shut_bool j _,rfl,rfl⟩
 have n : ∀sp:Nat->Bool,DataW.TrodVars enc P W' sp s.vars (s.fn H (ds++[])).vars []:=fun sp=>by rw[List.append_nil,i,a];rfl
 refine⟨ds,[],p,[],p,[],l,hR _ _ _,m _ (fun x hx=>by simpa using c x hx),n _,MJ hk _,fun _=>?_⟩;refine⟨ok_one d rfl (by simp[Value.okWide,j,Cell.okWide,Cell.ok]),_,_,([]++p)++[],⟨[]++p,[],trodAll_append (m _ fun _ _=>rfl) (hR _ _ _),n _,rfl,?_,?_⟩,?_⟩
 .intro b off hp;have o : MemPlace.cell b off∈p:=by simpa using hp
  have:=y b off (by simpa using o)
  have hb:=c _ o;simp only[MemPlace.block]at hb;simp only[World.frozen?,hk.block b hb]at this⊢;exact this
 .intro ha
  have:=hn ha
  simpa using this
 intro p' hp _;simpa using hp
end
end Go.AM
namespace Go.AM
open Go.RowKit Go.ChangeShapes Go.Deep
def Hy (l:List Nat):Nat:=l.foldr (· + ·) 0
theorem He (a:Nat)(l:List Nat):Hy (a::l)=a+Hy l:=rfl
structure Bulk {H:Type}(B:DataW H->Nat):Prop where
 int:∀k n,1<=B (.lit (.int k n))
 bool:∀b,1<=B (.lit (.bool b))
 str:∀l,l.length+1<=B (.lit (.string l))
 nil:1<=B .nil
 slice:∀es sp,Hy (es.map B)+1<=B (.slice es sp)
 agg:∀ps,Hy (ps.map B)+1<=B (.agg ps)
mutual
inductive BV (P:Program):Nat->TypeId->List PV->Prop
 |int {m:Nat}{t:TypeId}{k:IntKind}{n:Int}(ht:P.underlying t=some (.int k)) (hw:(Lit.int k n).wf=true) (hm:1<=m):BV P m t [.v (.int k n)]
 |bool {m:Nat}{t:TypeId}{b:Bool}(ht:P.underlying t=some .bool) (hm:1<=m):BV P m t [.bb b]
 |str {m:Nat}{t:TypeId}{l:List UInt8}(ht:P.underlying t=some .string) (hm:l.length+1<=m):BV P m t [.str l]
 |slice {m:Nat}{t e:TypeId}{n:Nat}{f:Nat->List PV}(ms:Nat->Nat) (ht:P.underlying t=some (.slice e)) (hl:∀i,i<n->(f i).length=P.cellsOf e) (h:∀i,i<n->BV P (ms i) e (f i))
  (hm:Hy ((List.range n).map ms)+1<=m):BV P m t [.sl false (P.cellsOf e) n f]
 |arr {m m' : Nat}{t e:TypeId}{n:Nat}{pvs:List PV}(ht:P.underlying t=some (.array n e)) (h:Bb P m (List.replicate n e) pvs) (hm:m+1<=m'):BV P m' t pvs
 |struct {m m' : Nat}{t:TypeId}{fs:Array Field}{pvs:List PV}(ht:P.underlying t=some (.struct fs)) (h:Bb P m (fs.toList.map (·.type)) pvs) (hm:m+1<=m'):BV P m' t pvs
inductive Bb (P:Program):Nat->List TypeId->List PV->Prop
 |nil {m:Nat}:Bb P m [] []
 |cons {a b m:Nat}{t:TypeId}{ts:List TypeId}{p q:List PV}(h:BV P a t p) (h' : Bb P b ts q) (hm:a+b<=m):Bb P m (t::ts) (p++q)
end
def CRep (W:World)(cs:List Value)(pvs:List PV):Prop:= cs.length=pvs.length/\∀i,i<pvs.length->RepP W (fun _ _=>False) (cs.getD i undef) (pvs.getD i default)/\(cs.getD i undef).oneCell' = true
theorem Hf {α : Type}(a b:List α)(d : α){i:Nat}(h:i<a.length):(a++b).getD i d=a.getD i d:=by simp[List.getD_eq_getElem?_getD,List.getElem?_append_left h]
theorem Hg {α : Type}(a b:List α)(d : α){i:Nat}(h:a.length<=i):(a++b).getD i d=b.getD (i-a.length) d:=by simp[List.getD_eq_getElem?_getD,List.getElem?_append_right h]
theorem CRep.append {W:World}{a b:List Value}{p q:List PV}(h:CRep W a p)(h' : CRep W b q):CRep W (a++b) (p++q):=by
 refine⟨by simp[h.1,h'.1],fun i f=>?_⟩;by_cases c:i<p.length
 .rw[Hf _ _ _ (by rw[h.1];exact c),Hf _ _ _ c];exact h.2 i c
 have d : i-p.length<q.length:=by simp at f;omega
 rw[Hg _ _ _ (by rw[h.1];omega),Hg _ _ _ (by omega),h.1];exact h'.2 _ d
theorem CRep.one {W:World}{v:Value}{x:PV}(h:RepP W (fun _ _=>False) v x)(h1:v.oneCell' = true):CRep W [v] [x]:=by
 refine⟨rfl,fun i a=>?_⟩;obtain rfl:i=0:=by simpa using a
 exact⟨h,h1⟩
def Nt (P:Program)(T:List TypeId):Bool:=T.all fun t=>match P.underlying t with
 |some (.int _)|some .bool|some .string=>true
 |some (.slice e)=>T.contains e&&decide (0<P.cellsOf e)
 |some (.array _ e)=>T.contains e
 |some (.struct fs)=>fs.toList.all fun f=>T.contains f.type
 |_=>false
section
variable {H:Type}{enc:TypeId×Value->H}{P:Program}{W:World}
theorem Fr {B:DataW H->Nat}{r:TypeId->List Value->Option (DataW H×List MemPlace)}(T:TypeId->Prop)
 (ih:∀t cs x,T t->r t cs=some x->∃pvs,CRep W cs pvs/\BV P (B x.1) t pvs) :
 ∀(fs:List Field) (xs:List (DataW H×List MemPlace)) (cs:List Value) (base:Nat),(∀f∈fs,T f.type)->cs.length=(fs.map fun f=>P.cellsOf f.type).sum ->
  (∀(j:Nat) f,fs[j]? = some f->f.offset=base+((fs.take j).map fun f=>P.cellsOf f.type).sum)->xs.length=fs.length ->
  (∀(i:Nat) f,fs[i]? = some f->r f.type ((cs.drop (f.offset-base)).take (P.cellsOf f.type))=xs[i]?) ->
  ∃pvs,CRep W cs pvs/\Bb P (Hy (xs.map fun x=>B x.1)) (fs.map (·.type)) pvs
 |[],xs,cs,base,_,hl,_,hx,_=>by obtain rfl:xs=[]:=List.eq_nil_of_length_eq_zero hx;obtain rfl:cs=[]:=List.eq_nil_of_length_eq_zero (by simpa using hl);exact⟨[],⟨rfl,fun i m=>Bw m (by simp)⟩,.nil⟩
 |f::fs,xs,cs,base,hT,hl,ho,hx,hr=>by
  cases xs with
  |nil=>simp at hx
  |cons x xs=>
   have l:=ho 0 f rfl;simp only[List.take_zero,List.map_nil,List.sum_nil,Nat.add_zero]at l;have b:=hr 0 f rfl;rw[l,Nat.sub_self,List.drop_zero]at b;obtain⟨p,hp,hs⟩:=ih _ _ _ (hT f (by simp)) b;simp only[List.map_cons,List.sum_cons]at hl;obtain⟨q,n,c⟩:=Fr T ih fs xs (cs.drop (P.cellsOf f.type)) (base+P.cellsOf f.type) (fun g a=>hT g (by simp[a])) (by simp[hl])
    (fun j g a=>by
     have:=ho (j+1) g (by simpa using a)
     simp only[List.take_succ_cons,List.map_cons,List.sum_cons]at this;omega) (by simpa using hx)
    (fun i g a=>by
     have:=hr (i+1) g (by simpa using a)
     have d:=ho (i+1) g (by simpa using a);simp only[List.take_succ_cons,List.map_cons,List.sum_cons]at d;rw[List.drop_drop,show P.cellsOf f.type+(g.offset-(base+P.cellsOf f.type))=g.offset-base by omega];simpa using this)
   refine⟨p++q,?_,.cons hs c (Nat.le_refl _)⟩
   have:=hp.append n
   rwa [List.take_append_drop]at this
theorem IS {B:DataW H->Nat}{r:TypeId->List Value->Option (DataW H×List MemPlace)}{e:TypeId}(ih:∀cs x,r e cs=some x->∃pvs,CRep W cs pvs/\BV P (B x.1) e pvs) :∀(n:Nat) (xs:List (DataW H×List MemPlace)) (cs:List Value),cs.length=n*P.cellsOf e->xs.length=n->(∀i,i<n->r e ((cs.drop (i*P.cellsOf e)).take (P.cellsOf e))=xs[i]?) ->
  ∃pvs,CRep W cs pvs/\Bb P (Hy (xs.map fun x=>B x.1)) (List.replicate n e) pvs
 |0,xs,cs,hl,hx,_=>by obtain rfl:xs=[]:=List.eq_nil_of_length_eq_zero hx;obtain rfl:cs=[]:=List.eq_nil_of_length_eq_zero (by simpa using hl);exact⟨[],⟨rfl,fun i c=>Bw c (by simp)⟩,.nil⟩
 |n+1,xs,cs,hl,hx,hr=>by
  cases xs with
  |nil=>simp at hx
  |cons x xs=>
   have a:=hr 0 (by omega);rw[Nat.zero_mul,List.drop_zero]at a;obtain⟨p,hp,hs⟩:=ih _ _ a;rw[Nat.succ_mul]at hl;obtain⟨q,d,b⟩:=IS ih n xs (cs.drop (P.cellsOf e)) (by simp[hl]) (by simpa using hx) (fun i c=>by
    have:=hr (i+1) (by omega)
    rw[List.drop_drop,show P.cellsOf e+i*P.cellsOf e=(i+1)*P.cellsOf e by rw[Nat.succ_mul];omega];simpa using this)
   refine⟨p++q,?_,.cons hs b (Nat.le_refl _)⟩
   have:=hp.append d
   rwa [List.take_append_drop]at this
theorem CV (K:Kids P (· < P.types.size)){B:DataW H->Nat}(q:Bulk B){T:List TypeId}(hT:Nt P T=true)(hTl:∀t∈T,t<P.types.size):∀(fuel:Nat) (t:TypeId) (cs:List Value) (x:DataW H×List MemPlace),t∈T ->
 DataW.trod enc P W 0 (fun _=>true) true fuel t cs=some x->∃pvs,CRep W cs pvs/\BV P (B x.1) t pvs:=by
 intro fuel
 induction fuel with
 |zero=>intro t cs x _ h;simp[DataW.trod]at h
 |succ n ih=>
  intro t cs x ht h;have hp:=List.all_eq_true.1 hT t ht;cases c:P.underlying t with
  |none=>simp[c]at hp
  |some d=>
   cases d with
   |bool=>obtain⟨b,rfl,rfl⟩:=DataW.trod_bool c h;exact⟨[.bb b],.one (.bb b) rfl,.bool c (q.bool b)⟩
   |int k=>obtain⟨m,rfl,rfl,hw⟩:=DataW.trod_int c h;exact⟨[.v (.int k m)],.one (.v _) rfl,.int c hw (q.int _ _)⟩
   |string=>
    obtain⟨s,rfl,rfl,_⟩:=DataW.trod_string c h;refine⟨[.str s.data.toList],.one ?_ rfl,.str c (q.str _)⟩
    have:=RepP.str (w:=W) (Pi:=fun _ _=>False) s.data.toList
    simpa using this
   |slice e=>
    simp only[c,Bool.and_eq_true,List.contains_eq_mem,decide_eq_true_eq]at hp;obtain⟨hpe,hpk⟩:=hp;rcases DataW.trod_slice c h with⟨rfl,rfl⟩ | ⟨a,len,cap,elems,rest,n',hn,rfl,rfl,_,hlen,_,hel,hall,_⟩
    .exact⟨[.sl false (P.cellsOf e) 0 fun _=>[]],.one (.slnil _ _) rfl,.slice (fun _=>0) c (fun i g=>Bw g (by omega)) (fun i g=>Bw g (by omega)) (by simpa[Hy]using q.nil)⟩
    obtain rfl:n' = n:=by omega
    have each:∀i,i<len->∃z:List PV×(Nat×(Nat->Value)),z.1.length=P.cellsOf e/\BV P z.2.1 e z.1/\z.2.1=B (elems.getD i (.nil,[])).1 /\
     ∀j,j<P.cellsOf e->W.cell? ((a.add (i*P.cellsOf e)).add j)=some (z.2.2 j)/\RepP W (fun _ _=>False) (z.2.2 j) (z.1.getD j default)/\(z.2.2 j).oneCell' = true:=by
     intro i g;have hk:=hall i g;have hi' : i<elems.length:=by omega
     rw[List.getElem?_eq_getElem hi']at hk;obtain⟨cs',h1,h2⟩:=Option.bind_eq_some_iff.1 hk;obtain⟨pvs,hc,hs⟩:=ih _ _ _ hpe h2;obtain⟨_,u,y⟩:=World.cells?_some h1;refine⟨(pvs,(_,fun j=>cs'.getD j undef)),by rw[<- hc.1,u],hs,?_,fun j l=>⟨?_,(hc.2 j (by rw[<- hc.1,u];exact l)).1,(hc.2 j (by rw[<- hc.1,u];exact l)).2⟩⟩
     .simp[List.getD_eq_getElem?_getD,List.getElem?_eq_getElem hi']
     rw[y j l];simp[List.getElem?_eq_getElem (show j<cs'.length by omega)]
    obtain⟨z,o⟩:=choose_lt (α:=List PV×(Nat×(Nat->Value))) each;obtain⟨b,off,sp⟩:=a;have hsp:0<len->sp=none:=fun h0=>by
     have:=((o 0 h0).2.2.2 0 hpk).1
     simpa[Addr.add]using World.cell?_spot this
    refine⟨[.sl false (P.cellsOf e) len fun i=>(z i).1],.one (.sl false b off cap (P.cellsOf e) len _ (fun i j=>(z i).2.2 j) hlen (fun i g=>(o i g).1) (fun i j g l=>?_) (fun i j g l=>((o i g).2.2.2 j l).2.1) sp hsp) rfl,
     .slice (fun i=>(z i).2.1) c (fun i g=>(o i g).1) (fun i g=>(o i g).2.1) ?_⟩
    .have:=((o i g).2.2.2 j l).1
     obtain rfl:=hsp (by omega);refine⟨?_,fun h=>h,((o i g).2.2.2 j l).2.2⟩;rw[<- this,WideShapes.add_plain,WideShapes.add_plain]
    refine Nat.le_trans (Nat.succ_le_succ (Nat.le_of_eq (congrArg Hy ?_))) (q.slice (elems.map (·.1)) (rest.map (·.1)));apply List.ext_getElem
    .simp[hel]
    intro i h1 h2;simp only[List.length_map,List.length_range]at h1
    have:=(o i h1).2.2.1
    simp only[List.getElem_map,List.getElem_range,this];simp[List.getD_eq_getElem?_getD,List.getElem?_eq_getElem (show i<elems.length by omega)]
   |array k e=>
    simp only[c,List.contains_eq_mem,decide_eq_true_eq]at hp;obtain⟨xs,n',hn,rfl,hl,hx,hr⟩:=DataW.trod_array c h;obtain⟨_,h2⟩:=K.array (hTl t ht) c;obtain rfl:n' = n:=by omega
    obtain⟨pvs,hc,hs⟩:=IS (B:=B) (W:=W) (r:=DataW.trod enc P W 0 (fun _=>true) true n') (fun cs x hx=>ih e cs x hp hx) k xs cs (by rw[hl,h2]) hx hr;refine⟨pvs,hc,.arr c hs ?_⟩
    have:=q.agg (xs.map (·.1))
    simpa[List.map_map,Function.comp_def]using this
   |struct fs=>
    simp only[c]at hp;obtain⟨xs,n',hn,rfl,hl,hx,hr⟩:=DataW.trod_struct c h;obtain⟨h1,h2,h3⟩:=K.struct (hTl t ht) c;obtain rfl:n' = n:=by omega
    obtain⟨pvs,hc,hs⟩:=Fr (B:=B) (W:=W) (r:=DataW.trod enc P W 0 (fun _=>true) true n') (· ∈ T) ih fs.toList xs cs 0 (fun f hf=>by have:=List.all_eq_true.1 hp f hf;simpa using this) (by rw[hl,h2])
     (fun j f hf=>by rw[h3 j f hf];omega) (by simpa using hx) (fun i f hf=>by rw[Nat.sub_zero];exact hr i f (by simpa using hf))
    refine⟨pvs,hc,.struct c hs ?_⟩
    have:=q.agg (xs.map (·.1))
    simpa[List.map_map,Function.comp_def]using this
   |_=>simp[c]at hp
end
end Go.AM
namespace Go.AM
section
variable {S:T3}{P:Program}
theorem Ia {d:Option Nat}{k k' : St->Prop}{Q Q' : I6}(hk:∀s,k s->k' s)(b:∀e s,Q e s->Q' e s)(r:EU)(s:St)(h:Cx d k Q r s):Cx d k' Q' r s:=by
 cases r with
 |ret a=>exact hk _ h
 |panic x=>exact b _ _ h
theorem DQ (hS:H4 S P){o:Oper}{k k' : St->Prop}{Q Q' : I6}(hk:∀s,k s->k' s)(z:∀e s,Q e s->Q' e s){st:St}(h:wOp S P o k Q st):wOp S P o k' Q' st:=by
 have q:∀d ids f args st,Kv S d ids f args st (Cx o.dst k Q)->Kv S d ids f args st (Cx o.dst k' Q'):=by rintro d ids f args st ⟨a,ob,h1,i,l,u,v⟩;exact⟨a,ob,h1,i,l,u,hS.monoF _ _ _ _ _ (fun r o ks ⟨w,h7⟩=>⟨w,Ia hk z _ _ h7⟩) v⟩
 unfold wOp at h⊢;split at h
 .rcases h with⟨as,regs,f',as',h1,i,ids,l⟩ | ⟨j,xs,regs,ys,rest,h1,i,l,u,v,w⟩ | ⟨f',as',c,xs,h1,i,l,u⟩
  .exact .inl ⟨as,regs,f',as',h1,i,ids,q _ _ _ _ _ l⟩
  .exact .inr (.inl ⟨j,xs,regs,ys,rest,h1,i,l,u,v,fun b=>hk _ (w b)⟩)
  exact .inr (.inr ⟨f',as',c,xs,h1,i,l,hS.monoF _ _ _ _ _ (fun r o ks e=>e.imp (fun⟨a,e1,e2,e3⟩=>⟨a,e1,e2,hk _ e3⟩) fun⟨e0,m,n,g,e1,e2,e3,e4,e5⟩=>⟨e0,m,n,g,e1,e2,e3,e4,hk _ e5⟩) u⟩)
 .obtain⟨as,regs,t,y,f',h1,i,l,ids,u⟩:=h;exact⟨as,regs,t,y,f',h1,i,l,ids,q _ _ _ _ _ u⟩
 .obtain⟨t,y,h1,i⟩:=h;exact⟨t,y,h1,z _ _ i⟩
 rcases h with⟨out,h1,i,l⟩ | ⟨c,x,h1,i,l⟩
 .exact .inl ⟨out,h1,i,hk _ l⟩
 exact .inr ⟨c,x,h1,i,hk _ l⟩
theorem Bc (hS:H4 S P){all:List Oper}{Q Q' : I6}(a:∀e s,Q e s->Q' e s):∀(rest:List Oper) {st:St},CW S P all rest Q st->CW S P all rest Q' st
 |[],st,h=>a _ _ h
 |o::rest,st,h=>by
  simp only[CW]at h⊢;refine hS.mono _ _ _ (fun t h=>?_) h;split at h
  .exact DQ hS (fun s=>Bc hS a rest) a h
  obtain⟨b,h1,c⟩:=h;refine⟨b,h1,?_⟩;split
  .rename_i hb;rw[Bh hb]at c;exact DQ hS (fun s=>Bc hS a rest) a c
  rename_i hb;rw[Bv hb]at c;exact Bc hS a rest c
theorem Fs (hS:H4 S P){all:List Oper}{o:Oper}{k k' : St->Prop}{Q Q' : I6}(hk:∀s,k s->k' s)(c:∀e s,Q e s->Q' e s){st:St}(h:EH S P all o k Q st):EH S P all o k' Q' st:=by
 unfold EH at h⊢;refine hS.mono _ _ _ (fun t h=>?_) h;split at h
 .exact DQ hS hk c h
 obtain⟨b,h1,a⟩:=h;refine⟨b,h1,?_⟩;split
 .rename_i hb;rw[Bh hb]at a;exact DQ hS hk c a
 rename_i hb;rw[Bv hb]at a;exact hk _ a
theorem MK (hS:H4 S P){ops:List Oper}{Q:I6}{st:St}(hm:P.follows .mixedOrders=true)(m:Ds ops=true)(h:S.up st fun s=>Ma S P ops Q s):Ma S P ops Q st:=by
 refine⟨hm,m,fun D s=>S.up s fun s'=>∃Inv:(Nat->Bool)->St->Prop,Inv D s' /\
  (∀D i s o,Inv D s->ops[i]? = some o->D i=false->(∀e∈o.after.toList,Z1 e=true->D e.on=true) ->
   EH S P ops o (Inv fun j=>if j=i then true else D j) Q s) /\
  ∀D s,Inv D s->(∀i,i<ops.length->D i=true)->S.up s (Q .normal),?_,?_,?_⟩
 .refine hS.mono _ _ _ (fun s hs=>?_) h;obtain⟨_,_,Inv,h1,b,c⟩:=hs;exact⟨Inv,h1,b,c⟩
 .intro D i s o f n g l
  have:S.up s fun s'=>EH S P ops o (fun t=>S.up t fun t'=>∃Inv:(Nat->Bool)->St->Prop,Inv (fun j=>if j=i then true else D j) t' /\
   (∀D i s o,Inv D s->ops[i]? = some o->D i=false->(∀e∈o.after.toList,Z1 e=true->D e.on=true) ->
    EH S P ops o (Inv fun j=>if j=i then true else D j) Q s) /\
   ∀D s,Inv D s->(∀i,i<ops.length->D i=true)->S.up s (Q .normal)) Q s':=by
   refine hS.mono _ _ _ (fun s' a=>?_) f;obtain⟨Inv,h1,b,c⟩:=a;exact Fs hS (fun t ht=>hS.refl _ _ ⟨Inv,ht,b,c⟩) (fun _ _ h=>h) (b D i s' o h1 n g l)
  unfold EH at this⊢;exact hS.trans _ _ this
 intro D s f d;refine hS.trans _ _ (hS.mono _ _ _ (fun s' a=>?_) f);obtain⟨Inv,h1,b,c⟩:=a;exact c D s' h1 d
theorem Gc (hS:H4 S P){k k' : St->Prop}{Q Q' : I6}(hk:∀s,k s->k' s)(a:∀e s,Q e s->Q' e s)(e:EG)(s:St)(h:thn S k Q e s):thn S k' Q' e s:=by
 cases e with
 |normal=>exact hS.mono _ _ _ hk h
 |_=>exact a _ _ h
theorem JU (hS:H4 S P){g:Nat}{ts:List Nat}{next:St->Prop}{Q Q' : I6}(a:∀e s,Q e s->Q' e s)(e:EG)(s:St)(h:AW S g ts next Q e s):AW S g ts next Q' e s:=by
 cases e with
 |normal=>exact h
 |panic x=>exact h
 |_=>exact hS.mono _ _ _ (fun t ⟨cs,h1,b,c,d⟩=>⟨cs,h1,b,c,a _ _ d⟩) h
theorem P7 (hS:H4 S P):∀(c:Code) {Q Q' : I6},(∀e s,Q e s->Q' e s)->∀{st:St},awp S P c Q st->awp S P c Q' st
 |.skip,Q,Q',hq,st,h=>hq _ _ h
 |.label _,Q,Q',hq,st,h=>hq _ _ h
 |.region _ ops draw,Q,Q',hq,st,h=>by
  unfold awp at h⊢;split
  .rename_i hb;rw[Bh hb]at h;obtain⟨h1,j,Inv,n,q,u⟩:=h;exact⟨h1,j,Inv,n,fun D i s o a b c d=>Fs hS (fun _ h=>h) hq (q D i s o a b c d),fun D s a b=>hS.mono _ _ _ (fun t=>hq _ t) (u D s a b)⟩
  rename_i hb;rw[Bv hb]at h;exact Bc hS hq _ h
 |.seq a b,Q,Q',hq,st,h=>P7 hS a (Gc hS (fun s=>P7 hS b hq) hq) h
 |.cond c t e,Q,Q',hq,st,h=>by
  obtain⟨b,h1,j⟩:=h;refine⟨b,h1,?_⟩;split
  .rename_i hb;rw[Bh hb]at j;exact P7 hS t hq j
  rename_i hb;rw[Bv hb]at j;exact P7 hS e hq j
 |.block id b,Q,Q',hq,st,h=>P7 hS b (fun e s h=>by
  cases e with
  |exit i=>simp only[blk]at h⊢;split at h<;>simp_all
  |_=>exact hq _ _ h) h
 |.loop b,Q,Q',hq,st,h=>by
  obtain⟨X,s,J,m,h1,j⟩:=h;refine⟨X,s,J,m,h1,fun x hx=>P7 hS b (fun e t h=>?_) (j x hx)⟩;cases e with
  |normal=>exact h
  |_=>exact hq _ _ h
 |.scope b,Q,Q',hq,st,h=>P7 hS b (fun e s h=>by
  cases e with
  |goto l=>exact h
  |_=>exact hq _ _ h) h
 |.exit id,Q,Q',hq,st,h=>hq _ _ h
 |.goto l,Q,Q',hq,st,h=>hq _ _ h
 |.ret,Q,Q',hq,st,h=>hq _ _ h
 |.rangeFunc g ps asg body,Q,Q',hq,st,h=>by
  obtain⟨f,first,caps,as,bs,objs,ids,ts,gh,L,I,Fin,h1,j,n,q,u,h6,h7,h8,h9,w,y,z,a0,a1,a2,a3⟩:=h;refine⟨f,first,caps,as,bs,objs,ids,ts,gh,L,I,Fin,h1,j,n,q,u,h6,h7,h8,h9,w,y,z,a0,?_,?_,a3⟩
  .intro ys rest s a b c;refine P7 hS asg (fun e t h=>?_) (a1 ys rest s a b c);cases e with
   |normal=>exact hS.mono _ _ _ (fun t h=>P7 hS body (JU hS hq) h) h
   |_=>exact h
  intro s r a b c d
  have:=a2 s r a b c d
  cases r with
  |ret v=>exact hq _ _ this
  |panic x=>exact hq _ _ this
 |.refuse _,Q,Q',hq,st,h=>h
theorem ML (hS:H4 S P){F:I6}(a:∀s,S.up s (F .normal)->F .normal s):∀(K:List It) (s:St),S.up s (kp S P K F .normal)->kp S P K F .normal s
 |[],s,h=>a s h
 |.code c::K,s,h=>hS.trans _ _ (hS.mono _ _ _ (fun t h=>h) h)
 |.blk id::K,s,h=>ML hS a K s h
 |.lp X s' J m n::K,s,h=>hS.trans _ _ h
 |.mid M::K,s,h=>hS.trans _ _ h
 |.scp::K,s,h=>ML hS a K s h
theorem Qk (hS:H4 S P){F:I6}(a:∀s,S.up s (F .normal)->F .normal s){K:List It}{M:St->Prop}(b:∀t,M t->G S P F (.pop .normal K t))(e:EG)(s:St)(h:kp S P (.mid M::K) F e s):kp S P K F e s:=by
 cases e with
 |normal=>exact ML hS a K s (hS.mono _ _ _ b h)
 |_=>exact h
end
end Go.AM
namespace Go.AM
section
variable {S:T3}{P:Program}{F:I6}{K:List It}{st:St}
theorem IT (hS:H4 S P){all rest:List Oper}{o:Oper}{t:TypeId}{m k:Operand}{ok:Bool}{key:PV}{regs:B4}{j:Nat}{es:List (PV×PV)}{kt e:TypeId}{x:PV}{b:Bool}{fd:Option PV}
 (i:Y1 all st.env o=some true) (f:o.op=.lookup t m k ok) (l:T5 st.regs (aev st.env k)=some (key,regs)) (hm:aev st.env m=.mref j) (n:A1 regs j=some (.map es))
 (ht:tk P t=some (.map kt e)) (hk:An P kt key=true) (q:find (Ct P kt) key es=some fd) (hx:(match fd with|some x=>some (x,true)|none=>(AU P e).map fun z=>(z,false))=some (x,b)) (hc:B9 (Co P kt))
 (hn:G S P F (.ops all rest K (put { st with regs:=regs } o.dst (if ok then .tup [.p x,.bool b]else .p x)))):G S P F (.ops all (o::rest) K st):=by
 refine ND hS (out:=⟨Co P kt,if ok then .tup [.p x,.bool b]else .p x,regs⟩) i ?_ (fun c a=>by rw[f]at a;cases a) (fun x d=>by rw[f]at d;cases d) hc hn;rw[f];simp only[aop,l,hm,V5,ht,hk,n,q];cases fd with
 |some y=>simp only[Option.some.injEq,Prod.mk.injEq]at hx;obtain⟨rfl,rfl⟩:=hx;rfl
 |none=>
  simp only at hx⊢;cases g:AU P e with
  |none=>simp[g]at hx
  |some z=>simp only[g,Option.map_some,Option.some.injEq,Prod.mk.injEq]at hx;obtain⟨rfl,rfl⟩:=hx;rfl
theorem Ib (hS:H4 S P){all rest:List Oper}{o:Oper}{t:TypeId}{m k x:Operand}{key y:PV}{regs:B4}{j:Nat}{es es' : List (PV×PV)}{kt e:TypeId}
 (g:Y1 all st.env o=some true) (d:o.op=.mapUpdate t m k x) (f:aev st.env k=.p key) (i:T5 st.regs (aev st.env x)=some (y,regs)) (hm:aev st.env m=.mref j) (l:A1 regs j=some (.map es))
 (ht:tk P t=some (.map kt e)) (hk:An P kt (nP key)=true) (n:upd (Ct P kt) (nP key) y es=some es') (hc:B9 (Co P kt))
 (hn:G S P F (.ops all rest K (put { st with regs:=ins j (.map es') regs } o.dst Cu))):G S P F (.ops all (o::rest) K st):=by
 refine ND hS (out:=⟨Co P kt,Cu,ins j (.map es') regs⟩) g ?_ (fun c a=>by rw[d]at a;cases a) (fun x b=>by rw[d]at b;cases b) hc hn;rw[d];simp only[aop,i,hm,f,ht,hk,l,n]
end
end Go.AM
namespace Go.AM
abbrev Str:=List UInt8
structure Sl (α : Type) where
 n:Nat
 g:Nat -> α
instance {α : Type} [Inhabited α]:Inhabited (Sl α):=⟨⟨0,fun _=>default⟩⟩
namespace Sl
variable {α : Type}
def toList (s:Sl α):List α:=(List.range s.n).map s.g
abbrev nil [Inhabited α]:Sl α:=⟨0,fun _=>default⟩
abbrev rep (n:Nat)(a : α):Sl α:=⟨n,fun _=>a⟩
abbrev sub (s:Sl α)(a b:Nat):Sl α:=⟨b-a,fun i=>s.g (a+i)⟩
abbrev drop (s:Sl α)(a:Nat):Sl α:=⟨s.n-a,fun i=>s.g (a+i)⟩
abbrev take (s:Sl α)(b:Nat):Sl α:=⟨b,s.g⟩
abbrev push (s:Sl α)(a : α):Sl α:=⟨s.n+1,fun i=>if i<s.n then s.g i else a⟩
abbrev app (s t:Sl α):Sl α:=⟨s.n+t.n,fun i=>if i<s.n then s.g i else t.g (i-s.n)⟩
abbrev upd (s:Sl α)(k:Nat)(a : α):Sl α:=⟨s.n,fun i=>if i=k then a else s.g i⟩
abbrev of [Inhabited α](l:List α):Sl α:=⟨l.length,fun i=>l.getD i default⟩
end Sl
abbrev vSl {α : Type}(k:Nat)(c : α -> List PV)(s:Sl α):PV:=.sl false k s.n fun i=>c (s.g i)
abbrev pI (k:IntKind)(n:Int):PV:=.v (.int k n)
abbrev D6 (l:Str)(i:Int):Int:=(((l.getD i.toNat 0).toNat:Nat):Int)
abbrev pN (n:Int):AV:=.p (.v (.int .i64 n))
abbrev pU (n:Int):AV:=.p (.v (.int .u32 n))
abbrev pB (b:Bool):AV:=.p (.bb b)
abbrev Gd:PV:=.v (.pointer none)
abbrev LT:PV:=.v (.slice none 0 0)
section
variable {R:Type}
def BW {A:Type}(N:Nat)(body:(A->Option R)->A->Option R):A->Option R:=match N with
 |0=>fun _=>none
 |N+1=>fun a=>body (BW N body) a
variable {A B C D E F G H:Type}
def MM (N:Nat)(body:(A->B->Option R)->A->B->Option R)(a:A)(b:B):Option R:=BW N (fun c x=>body (fun a b=>c (a,b)) x.1 x.2) (a,b)
def OT (N:Nat)(body:(A->B->C->Option R)->A->B->C->Option R)(a:A)(b:B)(c:C):Option R:=BW N (fun d x=>body (fun a b c=>d (a,b,c)) x.1 x.2.1 x.2.2) (a,b,c)
theorem Lq {N:Nat}{body:(A->Option R)->A->Option R}{a:A}:BW (N+1) body a=body (BW N body) a:=rfl
def lt {K:Type}(k:K)(f:K->Option R):Option R:=f k
end
section
variable {R X Y:Type}{r:R}
theorem itT {b:Bool}{x y:Option R}(hb:b=true)(h:(if b then x else y)=some r):x=some r:=by rwa [Bh hb]at h
theorem itF {b:Bool}{x y:Option R}(hb:b=false)(h:(if b then x else y)=some r):y=some r:=by rwa [Bv (by simp[hb])]at h
theorem V4 {p:Prop}[Decidable p]{x:Option R}(h:(if p then x else none)=some r):p/\x=some r:=by
 split at h
 .exact⟨by assumption,h⟩
 cases h
theorem D7 {x:Option X}{f:X->Option R}(h:x.bind f=some r):∃a,x=some a/\f a=some r:=Option.bind_eq_some_iff.1 h
theorem B5 {a b:R}(h:some a=some b):a=b:=Option.some.inj h
end
section
variable {S:T3}{P:Program}{F:I6}{K:List It}{st:St}
theorem F6 (hS:H4 S P){n:Nat}{rs:List ResultVar}{Q:EU->List Obj->List Bool->Prop}(s:St)(h:S.up s (Z9 S P n rs Q .normal)):Z9 S P n rs Q .normal s:=hS.trans _ _ h
theorem Ql (hS:H4 S P){b:Code}{R A:Type}{body:(A->Option R)->A->Option R}{N:Nat}{a0:A}{r:R}(h:BW N body a0=some r)(s:A->St)(ids:List (Nat×Nat))(hle:Le ids st (s a0))
 (d:∀(X:Type) (s' : X->St) (J:X->Prop) (m:X->Nat) (n:Nat) (c:A->Option R) (a:A),(∀st ids a,Le ids st (s a)->c a=some r->G S P F (.pop .normal (.lp X s' J m n::K) st))->body c a=some r->G S P F (.code b (.lp X s' J m n::K) (s a))) :
 G S P F (.code (.loop b) K st):=by
 refine KE hS (X:=Nat×A) (fun x=>s x.2) (fun x=>BW x.1 body x.2=some r) (fun x=>x.1) (N,a0) ids hle h ?_;rintro⟨n,a⟩ hx;cases n with
 |zero=>cases hx
 |succ n=>exact d _ _ _ _ _ (BW n body) a (fun st ids a hle h=>KF hS (n,a) ids hle h (Nat.lt_succ_self n)) hx
theorem OU (hS:H4 S P){all rest:List Oper}{o:Oper}(t:St)(ids:List (Nat×Nat))(hle:Le ids st t)(h:G S P F (.ops all (o::rest) K t)):G S P F (.ops all (o::rest) K st):=
 Oo hS (hS.le ids _ _ _ hle h)
end
theorem pm:(∀b,(true||b)=true)/\(∀b,(b||true)=true)/\(∀b,(false||b)=b)/\(∀b,(b||false)=b)/\(∀b,(true&&b)=b)/\(∀b,(b&&true)=b)/\(∀b,(false&&b)=false)/\(∀b,(b&&false)=false)/\((!true)=false)/\((!false)=true)/\((false=true)=False)/\((true=true)=True):=by refine⟨?_,?_,?_,?_,?_,?_,?_,?_,?_,?_,?_,?_⟩<;>simp
section
variable {regs:B4}{ids:List (Nat×Nat)}
variable {env r:Env}{t:Nat}{a b:AV}{x y:PV}
theorem OV {α : Type}{c : α -> List PV}{n:Nat}{v:Sl α}{f:Nat->List PV}{z cs:List PV}{x : α}(h:∀i,i<n->f i=c (v.g i))(hn:n=v.n)(hx:cs=c x):∀i,i<n+1->AS n f (S7 z [(0,cs)]) i=c ((v.push x).g i):=by
 subst hn hx;intro i a;show (if i<v.n then f i else S7 z [(0,c x)] (i-v.n))=c (if i<v.n then v.g i else x);split
 .exact h i ‹_›
 obtain rfl:i=v.n:=by omega
 simp[S7]
theorem same {n:Nat}{f:Nat->List PV}:∀i,i<n->f i=f i:=fun _ _=>rfl
end
end Go.AM
namespace Go.AM
abbrev cI (k:IntKind)(n:Int):List PV:=[.v (.int k n)]
abbrev cS (s:Str):List PV:=[.str s]
abbrev cL {α : Type}(k:Nat)(c : α -> List PV)(s:Sl α):List PV:=[vSl k c s]
section
variable {S:T3}{P:Program}{F:I6}{K:List It}{st:St}
end
section
variable {regs:B4}{ids:List (Nat×Nat)}
theorem le_yf {i j:Nat}(h:lk ids j=some i):leA regs ids (.yf i) (.yf j):=by unfold leA;exact⟨i,h,rfl⟩
theorem Qm {l m:List AV}(h:leL regs ids l m):leA regs ids (.tup l) (.tup m):=by unfold leA;exact⟨l,rfl,h⟩
theorem Qn {l m:List AV}(h:leL regs ids l m):leA regs ids (.agr l) (.agr m):=by unfold leA;exact⟨l,rfl,h⟩
end
end Go.AM
namespace Go.AM
def A8 {κ ν : Type}(kP : κ -> PV)(vP : ν -> PV)(es:List (κ × ν)):List (PV×PV):=es.map fun p=>(kP p.1,vP p.2)
def Q4 {κ ν : Type}(eq : κ -> κ -> Bool)(k : κ):List (κ × ν)->Option ν
 |[]=>none
 |(a,v)::es=>if eq k a then some v else Q4 eq k es
def DR {κ ν : Type}(eq : κ -> κ -> Bool)(k : κ)(v : ν):List (κ × ν)->List (κ × ν)
 |[]=>[(k,v)]
 |(a,x)::es=>if eq k a then (k,v)::es else (a,x)::DR eq k v es
theorem H5 {κ ν : Type}{kP : κ -> PV}{vP : ν -> PV}{cmp:PV->PV->Option Bool}{eq : κ -> κ -> Bool}(hc:∀a b,cmp (kP a) (kP b)=some (eq a b))(k : κ):∀es:List (κ × ν),find cmp (kP k) (A8 kP vP es)=some ((Q4 eq k es).map vP)
 |[]=>rfl
 |(a,v)::es=>by
  show (match cmp (kP k) (kP a)with|some true=>some (some (vP v))|some false=>find cmp (kP k) (A8 kP vP es)|none=>none)=some ((Q4 eq k ((a,v)::es)).map vP);rw[hc];simp only[Q4];cases h:eq k a
  .simpa using H5 hc k es
  rfl
theorem Bo {κ ν : Type}{kP : κ -> PV}{vP : ν -> PV}{cmp:PV->PV->Option Bool}{eq : κ -> κ -> Bool}(hc:∀a b,cmp (kP a) (kP b)=some (eq a b))(k : κ)(x : ν):∀es:List (κ × ν),upd cmp (kP k) (vP x) (A8 kP vP es)=some (A8 kP vP (DR eq k x es))
 |[]=>rfl
 |(a,v)::es=>by
  show (match cmp (kP k) (kP a)with|some true=>some ((kP k,vP x)::A8 kP vP es)|some false=>(upd cmp (kP k) (vP x) (A8 kP vP es)).map ((kP a,vP v) :: ·)|none=>none)=some (A8 kP vP (DR eq k x ((a,v)::es)));rw[hc];simp only[DR];cases h:eq k a
  .simp only[Bo hc k x es,Option.map_some,By,Bool.false_eq_true];rfl
  rfl
abbrev eqS (a b:Str):Bool:=a==b
def Cq {X Y:Type}(o:Option X)(a:Y)(f:X->Y):Y:=match o with
 |none=>a
 |some x=>f x
theorem JV {X R:Type}{r:R}{o:Option X}{a:Option R}{f:X->Option R}(b:o=none)(h:Cq o a f=some r):a=some r:=by subst b;exact h
theorem JW {X R:Type}{r:R}{o:Option X}{x:X}{a:Option R}{f:X->Option R}(b:o=some x)(h:Cq o a f=some r):f x=some r:=by subst b;exact h
theorem H9 {X Y:Type}(a:Y)(f:X->Y):Cq none a f=a:=rfl
theorem G6 {X Y:Type}(x:X)(a:Y)(f:X->Y):Cq (some x) a f=f x:=rfl
section
variable {R T A B C D:Type}
def iter0 (L:List T)(body:Option R->T->Option R)(k:Option R):Option R:=match L with
 |[]=>k
 |t::L=>body (iter0 L body k) t
def Ic (L:List T)(body:(A->Option R)->T->A->Option R)(k:A->Option R)(a:A):Option R:=match L with
 |[]=>k a
 |t::L=>body (Ic L body k) t a
end
section
variable {S:T3}{P:Program}{F:I6}{K:List It}{st:St}
theorem OW (hS:H4 S P){g:Operand}{ps:Array Tmp}{asg body:Code}{f:FuncId}{first caps as bs:List AV}{objs:List Obj}{R T A:Type}{enc:T->List PV}{L:List T}{mb:(A->Option R)->T->A->Option R}{mk:A->Option R}{a0:A}{r:R}
 (ids ts:List Nat) (gh:Nat) (s:A->St) (idl:List (Nat×Nat)) (h:Ic L mb mk a0=some r) (y:JS S f as bs objs (L.map enc))
 (hp:BJ st.env g=some (f,first,caps)) (j:∃fn,P.funcs[f]? = some fn/\fn.body.isSome=true/\(fn.name == "runtime.NumGoroutine")=false) (l:I5 ids st.regs ids=some objs) (m:AI objs=true) (z:G7 ids=true) (n:Ap ids first=some as) (o:Ap ids caps=some bs) (q:objs.length=ids.length)
 (u:Nat.blt gh 1000=true) (v:A1 st.regs gh=none) (w:Nat.blt ids.length 1000=true) (x:G7 ts=true) (d:∀t:T,(enc t).length=ps.size)
 (hle:Le idl ⟨R7 ts (ts.map (get st.env)),H8 ids (ids.map fun _=>false) st.regs⟩ (s a0)) (hk:∀a,(s a).env.map (·.1)=ts) (hn:∀a,A1 (s a).regs gh=none)
 (b:∀(t:T) (next:St->Prop) (c:A->Option R) (a:A),(∀(st st1:St) (cs:List AV) (idl:List (Nat×Nat)) (a:A),Le idl st st1->A1 st1.regs gh=some (.ghost cs)->cs.length=ts.length->A1 (del gh st1.regs) gh=none->(⟨R7 ts cs,del gh st1.regs⟩:St)=s a->c a=some r->G S P (AW S gh ts next (kp S P K F)) (.pop .normal [] st)) ->
  mb c t a=some r->G S P (BU S P body gh ts next (kp S P K F)) (.code asg [] ⟨DX ps.toList (enc t) (s a).env,ins gh (.ghost ((s a).env.map (·.2))) (s a).regs⟩))
 (i:∀a,mk a=some r->G S P F (.pop .normal K (s a))):G S P F (.code (.rangeFunc g ps asg body) K st):=by
 refine OO hS ids ts gh (L.map enc) s (fun rest a=>∃L',rest=L'.map enc/\Ic L' mb mk a=some r) a0 idl hp j l m z n o q (by simpa[Nat.blt_eq]using u) v (by simpa[Nat.blt_eq]using w) x (fun ys hy=>?_) y hle ⟨L,rfl,h⟩ hk hn ?_ ?_
 .obtain⟨t,_,rfl⟩:=List.mem_map.1 hy;exact d t
 .rintro ys rest a ⟨L',hL,hx⟩;cases L' with
  |nil=>cases hL
  |cons t L'=>simp only[List.map_cons,List.cons.injEq]at hL;obtain⟨rfl,rfl⟩:=hL;refine b t _ (Ic L' mb mk) a (fun st st1 cs idl a hle h1 h2 h3 h4 h5=>?_) hx;exact OP hS st1 a idl hle h1 h2 h3 h4 ⟨L',rfl,h5⟩
 rintro a ⟨L',hL,hx⟩;cases L' with
 |nil=>exact i a hx
 |cons t L'=>cases hL
end
end Go.AM
namespace Go.AM
section
variable {S:T3}{P:Program}{all:List Oper}{k:Env->B4->Prop}
theorem Id {cls:List Cls}{o:Oper}{rest:List Oper}{env:Env}{regs regs1:B4}{t:TypeId}{m q x:Operand}{key y:PV}{j:Nat}{es es' : List (PV×PV)}{kt e:TypeId}
 (d:O6 all env o=some true) (b:o.op=.mapUpdate t m q x) (a:aev env q=.p key) (f:T5 regs (aev env x)=some (y,regs1)) (hm:aev env m=.mref j) (g:A1 regs1 j=some (.map es))
 (ht:tk P t=some (.map kt e)) (hk:An P kt (nP key)=true) (i:upd (Ct P kt) (nP key) y es=some es') (hc:B9 (Co P kt))
 (hn:CU S P all cls rest (Et o.dst Cu env) (ins j (.map es') regs1) k):CU S P all (.w::cls) (o::rest) env regs k:=by
 refine IQ (c:=Co P kt) (v:=Cu) (regs':=ins j (.map es') regs1) d ?_ hc ?_ hn
 .rw[b];simp only[aop,f,hm,a,ht,hk,g,i]
 rw[b];rfl
theorem IU {cl:Cls}{cls:List Cls}{o:Oper}{rest:List Oper}{env:Env}{regs regs1:B4}{t:TypeId}{m q:Operand}{ok:Bool}{key:PV}{j:Nat}{es:List (PV×PV)}{kt e:TypeId}{x:PV}{b:Bool}{fd:Option PV}
 (f:O6 all env o=some true) (g:o.op=.lookup t m q ok) (i:T5 regs (aev env q)=some (key,regs1)) (hm:aev env m=.mref j) (l:A1 regs1 j=some (.map es))
 (ht:tk P t=some (.map kt e)) (hk:An P kt key=true) (n:find (Ct P kt) key es=some fd) (hx:(match fd with|some x=>some (x,true)|none=>(AU P e).map fun z=>(z,false))=some (x,b)) (hc:B9 (Co P kt)) (a:Hb cl env (o.dst.getD 0) o.op=true)
 (hn:CU S P all cls rest (Et o.dst (if ok then .tup [.p x,.bool b]else .p x) env) regs1 k):CU S P all (cl::cls) (o::rest) env regs k:=by
 refine IQ (c:=Co P kt) (v:=if ok then .tup [.p x,.bool b]else .p x) (regs':=regs1) f ?_ hc a hn;rw[g];simp only[aop,i,hm,V5,ht,hk,l,n];cases fd with
 |some y=>simp only[Option.some.injEq,Prod.mk.injEq]at hx;obtain⟨rfl,rfl⟩:=hx;rfl
 |none=>
  simp only at hx⊢;cases d:AU P e with
  |none=>simp[d]at hx
  |some z=>simp only[d,Option.map_some,Option.some.injEq,Prod.mk.injEq]at hx;obtain⟨rfl,rfl⟩:=hx;rfl
end
end Go.AM
namespace Go.AM
section
variable (P:Program)
def stp (g:Cfg):Cfg:=(run P none 400 [] g).cfg
def cnd (g:Cfg):List Prop:=(run P none 400 [] g).conds
def Cfg.st:Cfg->St
 |.code _ _ s=>s
 |.ops _ _ _ s=>s
 |.pop _ _ s=>s
def Cfg.k:Cfg->List It
 |.code _ K _=>K
 |.ops _ _ K _=>K
 |.pop _ K _=>K
def mkO {R:Type _}(env:Env)(regs:B4)(κ : Env->B4->R):R:=fE env fun env=>fR regs fun regs=>κ env regs
theorem Ft {R:Type _}(env:Env)(regs:B4)(κ : Env->B4->R):mkO env regs κ = κ env regs:=by simp only[mkO,fE_eq,Om]
def MN {R:Type _}(d:Option Nat)(a:AV)(env:Env)(regs:B4)(κ : St->R):R:=match d with
 |some d=>mkO (ins d a env) regs fun env regs=>κ ⟨env,regs⟩
 |none=>mkO env regs fun env regs=>κ ⟨env,regs⟩
theorem BX {R:Type _}(d:Option Nat)(a:AV)(env:Env)(regs:B4)(κ : St->R):MN d a env regs κ = κ (put ⟨env,regs⟩ d a):=by cases d<;>simp only[MN,Ft,put]
def OX:Cfg->Option Bool
 |.code (.cond c _ _) _ st=>match aev st.env c with
  |.p (.bb b)=>some b
  |_=>none
 |_=>none
def Qo:Cfg->Cfg
 |.code (.cond _ t _) K st=>.code t K st
 |g=>g
def Qp:Cfg->Cfg
 |.code (.cond _ _ e) K st=>.code e K st
 |g=>g
def Lr:Cfg->Option Bool
 |.ops all (o::_) _ st=>match o.guard with
  |some (j,_)=>match QN all j with
   |some d=>match get st.env d with
    |.p (.bb b)=>some b
    |_=>none
   |none=>none
  |none=>none
 |_=>none
def Hh (b:Bool):Cfg->Cfg
 |.ops all (o::rest) K st=>match o.guard with
  |some (j,_)=>match QN all j with
   |some d=>MN (some d) (.p (.v (.bool b))) st.env st.regs fun st=>.ops all (o::rest) K st
   |none=>.ops all (o::rest) K st
  |none=>.ops all (o::rest) K st
 |g=>g
def OY (ids:List Nat):Cfg->Option (FuncId×List AV×List Obj)
 |.ops all (o::_) _ st=>match Y1 all st.env o,o.op with
  |some true,.call c=>match c.callee with
   |.value f=>match CT st.regs (c.args.toList.map (aev st.env))with
    |some (as,regs)=>match Gw st.env f as with
     |some (fn,as')=>match Ap ids as',I5 ids regs ids with
      |some a,some ob=>if G7 ids&&AI ob then some (fn,a,ob)else none
      |_,_=>none
     |none=>none
    |none=>none
   |_=>none
  |_,_=>none
 |_=>none
def OZ (ids:List Nat)(ks:List Bool)(n:Nat):Cfg->Bool
 |.ops _ (o::_) _ st=>match o.op with
  |.call c=>match CT st.regs (c.args.toList.map (aev st.env))with
   |some (_,regs)=>L9 regs ids ks (o.dst.getD 0) n
   |none=>false
  |_=>false
 |_=>false
def Pa (ids:List Nat)(ks:List Bool)(r:AV)(objs' : List Obj):Cfg->Cfg
 |.ops all (o::rest) K st=>match o.op with
  |.call c=>match CT st.regs (c.args.toList.map (aev st.env))with
   |some (_,regs)=>MN o.dst (unA (F0 (o.dst.getD 0) ids ks objs'.length) r) st.env
    (FG (F0 (o.dst.getD 0) ids ks objs'.length) (F0 (o.dst.getD 0) ids ks objs'.length) objs' (H8 ids ks regs)) fun st=>.ops all rest K st
   |none=>.ops all (o::rest) K st
  |_=>.ops all (o::rest) K st
 |g=>g
structure LookI where
 kt:TypeId
 e:TypeId
 key:PV
 es:List (PV×PV)
def Pb:Cfg->Option LookI
 |.ops all (o::_) _ st=>match Y1 all st.env o,o.op with
  |some true,.lookup t m k _=>match T5 st.regs (aev st.env k),aev st.env m with
   |some (key,regs),.mref j=>match A1 regs j,tk P t with
    |some (.map es),some (.map kt e)=>if An P kt key then some ⟨kt,e,key,es⟩else none
    |_,_=>none
   |_,_=>none
  |_,_=>none
 |_=>none
def MO (e:TypeId):Option PV->Option (PV×Bool)
 |some x=>some (x,true)
 |none=>(AU P e).map fun z=>(z,false)
def Pc (x:PV)(b:Bool):Cfg->Cfg
 |.ops all (o::rest) K st=>match o.op with
  |.lookup _ _ k ok=>match T5 st.regs (aev st.env k)with
   |some (_,regs)=>MN o.dst (if ok then .tup [.p x,.bool b]else .p x) st.env regs fun st=>.ops all rest K st
   |none=>.ops all (o::rest) K st
  |_=>.ops all (o::rest) K st
 |g=>g
def updE:Cfg->Option (TypeId×PV×PV×List (PV×PV))
 |.ops all (o::_) _ st=>match Y1 all st.env o,o.op with
  |some true,.mapUpdate t m k x=>match aev st.env k,aev st.env m,T5 st.regs (aev st.env x)with
   |.p key,.mref j,some (y,regs)=>match A1 regs j,tk P t with
    |some (.map es),some (.map kt _)=>if An P kt (nP key) then some (kt,nP key,y,es)else none
    |_,_=>none
   |_,_,_=>none
  |_,_=>none
 |_=>none
def updK (es' : List (PV×PV)):Cfg->Cfg
 |.ops all (o::rest) K st=>match o.op with
  |.mapUpdate _ m _ x=>match aev st.env m,T5 st.regs (aev st.env x)with
   |.mref j,some (_,regs)=>MN o.dst Cu st.env (ins j (.map es') regs) fun st=>.ops all rest K st
   |_,_=>.ops all (o::rest) K st
  |_=>.ops all (o::rest) K st
 |g=>g
def DC:Cfg->Bool
 |.code (.loop _) _ _=>true
 |_=>false
def Ie:Cfg->Code
 |.code (.loop b) _ _=>b
 |_=>.skip
def popSt:Cfg->Option St
 |.pop .normal _ st=>some st
 |_=>none
def Hi (M:It):Nat->List It->List It
 |0,K=>M::K
 |n+1,i::K=>i::Hi M n K
 |_+1,[]=>[M]
def Qq (n:Nat)(M:St->Prop):Cfg->Cfg
 |.code c K st=>.code c (Hi (.mid M) n K) st
 |.ops all rest K st=>.ops all rest (Hi (.mid M) n K) st
 |.pop e K st=>.pop e (Hi (.mid M) n K) st
def Ls:Cfg->Bool
 |.ops _ (_::_) _ _=>true
 |_=>false
def opsS (st:St):Cfg->Cfg
 |.ops all rest K _=>.ops all rest K st
 |g=>g
def PM:Cfg->Option St
 |.pop .ret [] st=>some st
 |.pop .normal [] st=>some st
 |_=>none
inductive Leaf where
 |eq (x y:PV)
 |fn (n m:Nat) (f g:Nat->List PV)
 |mp (x y:List (PV×PV))
 |yl (x y:List (List PV)) (b c:Bool)
 |nt (a b:Nat)
 |ob (n:Nat) (f g:Nat->Obj)
inductive LV where
 |eq (x:PV)
 |fn (n:Nat) (f:Nat->List PV)
 |mp (x:List (PV×PV))
 |yl (x:List (List PV)) (b:Bool)
 |nt (a:Nat)
 |ob (f:Nat->Obj)
def Leaf.src:Leaf->LV
 |.eq x _=>.eq x
 |.fn n _ f _=>.fn n f
 |.mp x _=>.mp x
 |.yl x _ b _=>.yl x b
 |.nt a _=>.nt a
 |.ob _ f _=>.ob f
def Leaf.tgt:Leaf->LV
 |.eq _ y=>.eq y
 |.fn _ m _ g=>.fn m g
 |.mp _ y=>.mp y
 |.yl _ y _ c=>.yl y c
 |.nt _ b=>.nt b
 |.ob _ _ g=>.ob g
def Leaf.ok:Leaf->Prop
 |.eq x y=>x=y
 |.fn n m f g=>n=m/\∀i,i<n->f i=g i
 |.mp x y=>x=y
 |.yl x y b c=>x=y/\b=c
 |.nt a b=>a=b
 |.ob n f g=>∀i,i<n->f i=g i
theorem Leaf.ok_of {l:Leaf}(h:l.src=l.tgt):l.ok:=by
 cases l with
 |eq x y=>simp only[Leaf.src,Leaf.tgt,LV.eq.injEq]at h;exact h
 |fn n m f g=>simp only[Leaf.src,Leaf.tgt,LV.fn.injEq]at h;obtain⟨rfl,rfl⟩:=h;exact⟨rfl,fun _ _=>rfl⟩
 |mp x y=>simp only[Leaf.src,Leaf.tgt,LV.mp.injEq]at h;exact h
 |yl x y b c=>simp only[Leaf.src,Leaf.tgt,LV.yl.injEq]at h;exact h
 |nt a b=>simp only[Leaf.src,Leaf.tgt,LV.nt.injEq]at h;exact h
 |ob n f g=>simp only[Leaf.src,Leaf.tgt,LV.ob.injEq]at h;subst h;exact fun _ _=>rfl
def Pd:PV->PV->Leaf
 |.v (.bool b),.bb c=>.eq (.bb b) (.bb c)
 |.v (.slice none 0 0),.sl false _ n f=>.fn 0 n f f
 |.sl nn k n f,.sl false l m g=>if k=l then .fn n m f g else .eq (.sl nn k n f) (.sl false l m g)
 |x,y=>.eq x y
mutual
def BY (regs:B4)(ids:List (Nat×Nat))(a b:AV):Option (List Leaf):=
 match b with
 |.top=>some []
 |.p y=>match viewP regs a with
  |some x=>some [Pd x y]
  |none=>none
 |.reg j off=>match a with | .reg i off'=>if lk ids j=some i/\off=off' then some []else none|_=>none
 |.vec j=>match a with
  |.vec i=>if lk ids j=some i then some []else none
  |.p (.v (.slice none 0 0))=>if lk ids j=none then some []else none
  |_=>none
 |.vecp j n=>match a with | .vecp i m=>if lk ids j=some i/\n=m then some []else none|_=>none
 |.elt j k n off=>match a with | .elt i k' n' off'=>if lk ids j=some i/\k=k' /\ n=n' /\ off=off' then some []else none|_=>none
 |.mref j=>match a with | .mref i=>if lk ids j=some i then some []else none|_=>none
 |.yf j=>match a with | .yf i=>if lk ids j=some i then some []else none|_=>none
 |.rsl j n=>match a with | .rsl i m=>if lk ids j=some i/\n=m then some []else none|_=>none
 |.clo f x y=>match a with
  |.clo f' x' y'=>match EN regs ids x' x,EN regs ids y' y with|some l,some m=>some (.nt f' f::l++m)|_,_=>none
  |_=>none
 |.tup l=>match a with | .tup l'=>EN regs ids l' l|_=>none
 |.agr l=>match a with | .agr l'=>EN regs ids l' l|_=>none
def EN (regs:B4)(ids:List (Nat×Nat))(a b:List AV):Option (List Leaf):=
 match b with
 |[]=>match a with | []=>some [] | _=>none
 |y::s=>match a with
  |x::r=>match BY regs ids x y,EN regs ids r s with|some l,some m=>some (l++m)|_,_=>none
  |[]=>none
end
def MP (regs:B4)(ids:List (Nat×Nat))(env:Env):Env->Option (List Leaf)
 |[]=>some []
 |(t,b)::r=>match BY regs ids (get env t) b,MP regs ids env r with|some l,some m=>some (l++m)|_,_=>none
def EO (regs:B4)(ids:List (Nat×Nat))(o p:Obj):Option (List Leaf):=
 match p with
 |.cells cs=>match o with | .cells cs'=>EN regs ids cs' cs|_=>none
 |.vec e k n f vw=>match o with
  |.vec e' k' m g vw'=>if e=e' /\ k=k' /\ (vw' = true->vw=true)then some [.fn m n g f]else none
  |_=>none
 |.map es=>match o with | .map es'=>some [.mp es' es] | _=>none
 |.arr n f=>match o with | .arr m g=>some [.fn m n (fun i=>[g i]) (fun i=>[f i])] | _=>none
 |.ghost cs=>match o with | .ghost cs'=>EN regs ids cs' cs|_=>none
 |.yld r b=>match o with | .yld r' b'=>some [.yl r' r b' b] | _=>none
 |.fam e n jr x=>match o with
  |.fam e' m jr' x'=>if e=e' /\ lk ids jr=some jr' then (match x,x' with
   |none,none=>some [.nt m n]
   |some (i,a),some (i',a')=>match nov a' a,BY regs ids a' a with
    |true,some l=>some (.nt m n :: .nt i' i::l)
    |_,_=>none
   |_,_=>none)else none
  |_=>none
 |.rows n g=>match o with | .rows m g'=>some [.nt m n,.ob n g' g] | _=>none
 |.dead=>some []
def MQ (regs:B4)(ids:List (Nat×Nat)):B4->Option (List Leaf)
 |[]=>some []
 |(j,p)::r=>match (match lk ids j with
  |some i=>match A1 regs i with
   |some o=>EO regs ids o p
   |none=>none
  |none=>match p with
   |.vec _ _ n f _=>some [.fn 0 n f f]
   |_=>none:Option (List Leaf)),MQ regs ids r with
  |some l,some m=>some (l++m)
  |_,_=>none
def leK (ids:List (Nat×Nat))(s t:St):Option (List Leaf):=
 if (wf t&&G7 (ids.map (·.2))&&Jq ids&&EV ids t.regs&&Dt ids (Mb s.env t.env++CA ids s.regs t.regs) t.regs) then
  match MP s.regs ids s.env t.env,MQ s.regs ids t.regs with
  |some l,some m=>some (l++m)
  |_,_=>none
 else none
theorem MR {x y:PV}(h:(Pd x y).ok):leP x y:=by
 unfold Pd at h;split at h
 .simp only[Leaf.ok,PV.bb.injEq]at h;subst h;exact .inr (.inr (.inr (.inl ⟨_,rfl,rfl⟩)))
 .obtain⟨rfl,_⟩:=h;exact .inr (.inr (.inl ⟨_,_,rfl,rfl⟩))
 .split at h
  .rename_i hk;subst hk;obtain⟨rfl,h⟩:=h;exact .inr (.inl ⟨_,_,_,_,_,rfl,rfl,h⟩)
  exact .inl h
 exact .inl h
theorem Ev {l m:List Leaf}(h:∀x∈l++m,x.ok):(∀x∈l,x.ok)/\∀x∈m,x.ok:=
 ⟨fun x hx=>h x (List.mem_append_left _ hx),fun x hx=>h x (List.mem_append_right _ hx)⟩
mutual
theorem Ge {regs:B4}{ids:List (Nat×Nat)}{a:AV}(b:AV){L:List Leaf}(h:BY regs ids a b=some L)(hL:∀x∈L,x.ok):leA regs ids a b:=by
 cases b with
 |top=>unfold leA;trivial
 |p y=>
  unfold BY at h;split at h
  .rename_i x hx;cases h;unfold leA;exact⟨x,hx,MR (hL _ (by simp))⟩
  cases h
 |reg j off=>
  unfold BY at h;split at h
  .split at h
   .rename_i c;obtain⟨h1,rfl⟩:=c;exact PW h1
   cases h
  cases h
 |vec j=>
  unfold BY at h;split at h
  .split at h
   .rename_i h1;exact PU h1
   cases h
  .split at h
   .rename_i h1;exact Ou h1
   cases h
  cases h
 |vecp j n=>
  unfold BY at h;split at h
  .split at h
   .rename_i c;obtain⟨h1,rfl⟩:=c;unfold leA;exact⟨_,h1,rfl⟩
   cases h
  cases h
 |elt j k n off=>
  unfold BY at h;split at h
  .split at h
   .rename_i c;obtain⟨h1,rfl,rfl,rfl⟩:=c;unfold leA;exact⟨_,h1,rfl⟩
   cases h
  cases h
 |mref j=>
  unfold BY at h;split at h
  .split at h
   .rename_i h1;exact Ov h1
   cases h
  cases h
 |rsl j n=>
  unfold BY at h;split at h
  .split at h
   .rename_i c;obtain⟨h1,rfl⟩:=c;unfold leA;exact⟨_,h1,rfl⟩
   cases h
  cases h
 |yf j=>
  unfold BY at h;split at h
  .split at h
   .rename_i h1;exact le_yf h1
   cases h
  cases h
 |clo f x y=>
  unfold BY at h;split at h
  .split at h
   .rename_i l m h1 g;cases h;have d:=hL _ (List.mem_cons_self ..);simp only[Leaf.ok]at d;subst d;obtain⟨i,o⟩:=Ev fun x hx=>hL x (List.mem_cons_of_mem _ hx);exact PX (Ax x h1 i) (Ax y g o)
   cases h
  cases h
 |tup l=>
  unfold BY at h;split at h
  .exact Qm (Ax l h hL)
  cases h
 |agr l=>
  unfold BY at h;split at h
  .exact Qn (Ax l h hL)
  cases h
theorem Ax {regs:B4}{ids:List (Nat×Nat)}{a:List AV}(b:List AV){L:List Leaf}(h:EN regs ids a b=some L)(hL:∀x∈L,x.ok):leL regs ids a b:=by
 cases b with
 |nil=>
  unfold EN at h;split at h
  .exact Ow
  cases h
 |cons y s=>
  unfold EN at h;split at h
  .split at h
   .rename_i l m h1 c;cases h;obtain⟨d,f⟩:=Ev hL;exact Me (Ge y h1 d) (Ax s c f)
   cases h
  cases h
end
theorem IV {regs:B4}{ids:List (Nat×Nat)}{env:Env}:∀(t:Env) {L:List Leaf},MP regs ids env t=some L->(∀x∈L,x.ok)->Kz regs ids env t
 |[],_,_,_=>trivial
 |(t,b)::r,L,h,hL=>by
  simp only[MP]at h;split at h
  .rename_i l m h1 a;cases h;obtain⟨c,d⟩:=Ev hL;exact⟨Ge b h1 c,IV r a d⟩
  cases h
theorem MS {regs:B4}{ids:List (Nat×Nat)}{o p:Obj}{L:List Leaf}(h:EO regs ids o p=some L)(hL:∀x∈L,x.ok):leO regs ids o p:=by
 cases p with
 |cells cs=>
  simp only[EO]at h;split at h
  .exact Mf (Ax cs h hL)
  cases h
 |vec e k n f vw=>
  simp only[EO]at h;split at h
  .split at h
   .rename_i d;obtain⟨rfl,rfl,j⟩:=d;cases h;obtain⟨rfl,h1⟩:=hL _ (List.mem_singleton.2 rfl);exact⟨_,_,rfl,h1,j⟩
   cases h
  cases h
 |map es=>
  simp only[EO]at h;split at h
  .cases h
   have:=hL _ (List.mem_singleton.2 rfl)
   simp only[Leaf.ok]at this;subst this;rfl
  cases h
 |arr n f=>
  simp only[EO]at h;split at h
  .cases h;obtain⟨rfl,h1⟩:=hL _ (List.mem_singleton.2 rfl);exact⟨_,rfl,fun i l=>by simpa using h1 i l⟩
  cases h
 |ghost cs=>
  simp only[EO]at h;split at h
  .exact⟨_,rfl,Ax cs h hL⟩
  cases h
 |yld r b=>
  simp only[EO]at h;split at h
  .cases h;obtain⟨rfl,rfl⟩:=hL _ (List.mem_singleton.2 rfl);rfl
  cases h
 |fam e n jr x=>
  simp only[EO]at h;split at h
  .split at h
   .rename_i m;obtain⟨rfl,c⟩:=m;split at h
    .cases h;have a:=hL _ (List.mem_cons_self ..);simp only[Leaf.ok]at a;subst a;exact⟨_,_,rfl,c,rfl⟩
    .split at h
     .rename_i hn hl;cases h;have a:=hL _ (List.mem_cons_self ..);have h1:=hL _ (List.mem_cons_of_mem _ (List.mem_cons_self ..));simp only[Leaf.ok]at a h1;subst a h1;exact⟨_,_,rfl,c,_,rfl,hn,Ge _ hl fun x hx=>hL x (by simp[hx])⟩
     cases h
    cases h
   cases h
  cases h
 |rows n g=>
  simp only[EO]at h;split at h
  .cases h;have a:=hL _ (List.mem_cons_self ..);simp only[Leaf.ok]at a;subst a;exact⟨_,rfl,hL (.ob _ _ _) (by simp)⟩
  cases h
 |dead=>trivial
theorem IW {regs:B4}{ids:List (Nat×Nat)}:∀(t:B4) {L:List Leaf},MQ regs ids t=some L->(∀x∈L,x.ok)->Gy regs ids t
 |[],_,_,_=>trivial
 |(j,p)::r,L,h,hL=>by
  simp only[MQ]at h;split at h
  .rename_i l m h1 c;cases h;obtain⟨b,d⟩:=Ev hL;refine⟨?_,IW r c d⟩;split at h1
   .rename_i i a;split at h1
    .rename_i o f;exact .inl ⟨i,o,a,f,MS h1 b⟩
    cases h1
   rename_i a;split at h1
   .cases h1;obtain⟨rfl,_⟩:=b _ (List.mem_singleton.2 rfl);exact .inr ⟨a,_,_,_,_,rfl⟩
   cases h1
  cases h
theorem NJ {ids:List (Nat×Nat)}{s t:St}{L:List Leaf}(h:leK ids s t=some L)(hL:∀x∈L,x.ok):Le ids s t:=by
 unfold leK at h;split at h
 .rename_i hw;split at h
  .rename_i l m h1 a;cases h;obtain⟨b,c⟩:=Ev hL;exact le_mk hw (IV _ h1 b) (IW _ a c)
  cases h
 cases h
theorem kle {ids:List (Nat×Nat)}{s t:St}(h:(leK ids s t).map (·.map Leaf.src)=(leK ids s t).map (·.map Leaf.tgt):=by kernel_rfl)(h1:(leK ids s t).isSome=true:=by kernel_rfl):Le ids s t:=by
 obtain⟨L,hL⟩:=Option.isSome_iff_exists.1 h1;rw[hL]at h;simp only[Option.map_some,Option.some.injEq]at h;refine NJ hL fun x hx=>?_;obtain⟨i,a,rfl⟩:=List.mem_iff_getElem.1 hx
 have:=congrArg (·[i]?) h
 simp only[List.getElem?_map,List.getElem?_eq_getElem a,Option.map_some,Option.some.injEq]at this;exact Leaf.ok_of this
def Qr (is:List Nat)(f:Leaf->LV)(L:List Leaf):List (Option LV):=L.zipIdx.map fun q=>if is.contains q.2 then none else some (f q.1)
theorem kleR {ids:List (Nat×Nat)}{s t:St}(rs:List (Nat×Leaf))(d:∀q∈rs,q.2.ok)(h:(leK ids s t).map (Qr (rs.map (·.1)) Leaf.src)=(leK ids s t).map (Qr (rs.map (·.1)) Leaf.tgt):=by kernel_rfl)
 (a:(leK ids s t).map (fun L=>rs.map fun q=>L[q.1]?)=some (rs.map fun q=>some q.2):=by kernel_rfl):Le ids s t:=by
 cases hL:leK ids s t with
 |none=>rw[hL]at a;cases a
 |some L=>
  rw[hL]at h a;simp only[Option.map_some,Option.some.injEq]at h a;refine NJ hL fun x hx=>?_;obtain⟨i,b,rfl⟩:=List.mem_iff_getElem.1 hx;by_cases hm:(rs.map (·.1)).contains i=true
  .simp only[List.contains_eq_mem,decide_eq_true_eq,List.mem_map]at hm;obtain⟨q,c,rfl⟩:=hm;obtain⟨k,hk,rfl⟩:=List.mem_iff_getElem.1 c
   have:=congrArg (·[k]?) a
   simp only[List.getElem?_map,List.getElem?_eq_getElem hk,Option.map_some,Option.some.injEq,List.getElem?_eq_getElem b]at this;rw[this];exact d _ c
  have:=congrArg (·[i]?) h
  simp only[Qr,List.getElem?_map,List.getElem?_zipIdx,List.getElem?_eq_getElem b,Option.map_some,Nat.zero_add,hm,Option.some.injEq]at this;exact Leaf.ok_of (by simpa using this)
end
section
variable {P:Program}
variable {S:T3}{F:I6}{g:Cfg}{pr:Prop}
theorem BZ (hS:H4 S P)(hc:pr)(h:G S P F (stp P g))(hp:pr=B9 (cnd P g):=by kernel_rfl):G S P F g:=
 (KD (F:=F) hS 400 [] g (by subst hp;exact hc)).2 h
theorem Qs (hS:H4 S P)(hc:pr){b:Bool}(ht:b=true->G S P F (Qo (stp P g)))(a:b=false->G S P F (Qp (stp P g)))(hp:pr=B9 (cnd P g):=by kernel_rfl)(hb:OX (stp P g)=some b:=by kernel_rfl):G S P F g:=by
 refine BZ hS hc ?_ hp;generalize stp P g=g' at hb ht a;unfold OX at hb;split at hb
 .split at hb
  .rename_i hc;cases hb;exact PS hc ht a
  cases hb
 cases hb
theorem Pe (hS:H4 S P)(hc:pr){b:Bool}(ht:b=true->G S P F (Hh true (stp P g)))(a:b=false->G S P F (Hh false (stp P g)))(hp:pr=B9 (cnd P g):=by kernel_rfl)(hb:Lr (stp P g)=some b:=by kernel_rfl):G S P F g:=by
 refine BZ hS hc ?_ hp;generalize stp P g=g' at hb ht a;unfold Lr at hb;split at hb
 .split at hb
  .rename_i d;split at hb
   .rename_i f;split at hb
    .rename_i c;cases hb;simp only[Hh,d,f,BX,put]at ht a;exact Oq hS d f c ht a
    cases hb
   cases hb
  cases hb
 cases hb
theorem Qt (hS:H4 S P)(ids:List Nat)(hc:pr){fn:FuncId}{args:List AV}{objs objs' : List Obj}{r:AV}{ks:List Bool}(i:N5 S fn args objs r objs' ks)
 (hk:G S P F (Pa ids ks r objs' (stp P g))) (hp:pr=B9 (cnd P g):=by kernel_rfl) (a:OY ids (stp P g)=some (fn,args,objs):=by kernel_rfl) (hn:OZ ids ks objs'.length (stp P g)=true:=by kernel_rfl):G S P F g:=by
 refine BZ hS hc ?_ hp;generalize stp P g=g' at a hn hk;unfold OY at a;split at a
 .split at a
  .rename_i j f;split at a
   .rename_i c;split at a
    .rename_i ha;split at a
     .rename_i hw;split at a
      .rename_i l d;split at a
       .rename_i b;cases a;simp only[Bool.and_eq_true]at b;simp only[Pa,OZ,f,ha,BX]at hk hn;exact Or hS ids j f c ha hw l d i b.1 b.2 hn hk
       cases a
      cases a
     cases a
    cases a
   cases a
  cases a
 cases a
theorem MT (hS:H4 S P)(hc:pr){kt e:TypeId}{key:PV}{es:List (PV×PV)}{x:PV}{b:Bool}{fd:Option PV}
 (j:find (Ct P kt) key es=some fd) (c:B9 (Co P kt))
 (hk:G S P F (Pc x b (stp P g))) (hp:pr=B9 (cnd P g):=by kernel_rfl) (a:Pb P (stp P g)=some ⟨kt,e,key,es⟩:=by kernel_rfl) (hx:MO P e fd=some (x,b):=by kernel_rfl):G S P F g:=by
 refine BZ hS hc ?_ hp;generalize stp P g=g' at a hk;unfold Pb at a;split at a
 .split at a
  .rename_i l f;split at a
   .rename_i i hm;split at a
    .rename_i m ht;split at a
     .rename_i d;simp only[Option.some.injEq,LookI.mk.injEq]at a;obtain⟨rfl,rfl,rfl,rfl⟩:=a;simp only[Pc,f,i,BX]at hk;cases fd with
      |some y=>exact IT (fd:=some y) hS l f i hm m ht d j hx c hk
      |none=>exact IT (fd:=none) hS l f i hm m ht d j hx c hk
     cases a
    cases a
   cases a
  cases a
 cases a
theorem MU (hS:H4 S P)(hc:pr){kt:TypeId}{key y:PV}{es es' : List (PV×PV)}
 (j:upd (Ct P kt) key y es=some es') (b:B9 (Co P kt)) (hk:G S P F (updK es' (stp P g))) (hp:pr=B9 (cnd P g):=by kernel_rfl) (a:updE P (stp P g)=some (kt,key,y,es):=by kernel_rfl):G S P F g:=by
 refine BZ hS hc ?_ hp;generalize stp P g=g' at a hk;unfold updE at a;split at a
 .split at a
  .rename_i l d;split at a
   .rename_i h1 f i;split at a
    .rename_i m ht;split at a
     .rename_i c;simp only[Option.some.injEq,Prod.mk.injEq]at a;obtain⟨rfl,rfl,rfl,rfl⟩:=a;simp only[updK,d,f,i,BX]at hk;exact Ib hS l d h1 i f m ht c j b hk
     cases a
    cases a
   cases a
  cases a
 cases a
theorem Qu (hS:H4 S P)(hc:pr)(st:St){ids:List (Nat×Nat)}(hk:G S P F (opsS st (stp P g)))(hp:pr=B9 (cnd P g):=by kernel_rfl)(a:Ls (stp P g)=true:=by kernel_rfl)(hle:Le ids (stp P g).st st:=by exact kle):G S P F g:=by
 refine BZ hS hc ?_ hp;generalize stp P g=g' at a hle hk;unfold Ls at a;split at a
 .exact OU hS st ids hle hk
 cases a
end
section
variable {S:T3}{P:Program}{F:I6}{g:Cfg}{pr:Prop}
theorem CL (hS:H4 S P){K1 K2:List It}(h:∀e s,kp S P K1 F e s->kp S P K2 F e s):∀(K:List It) (e:EG) (s:St),kp S P (K++K1) F e s->kp S P (K++K2) F e s
 |[],e,s,hk=>h e s hk
 |.code c::K,e,s,hk=>by simp only[List.cons_append,kp]at hk⊢;exact Gc hS (fun t=>P7 hS c (CL hS h K)) (CL hS h K) e s hk
 |.blk id::K,e,s,hk=>by
  simp only[List.cons_append,kp]at hk⊢;cases e with
  |exit i=>
   simp only[blk]at hk⊢;split at hk
   .rename_i a;rw[Bh a];exact CL hS h K _ _ hk
   rename_i a;rw[Bv a];exact CL hS h K _ _ hk
  |_=>exact CL hS h K _ _ hk
 |.lp X s' J m n::K,e,s,hk=>by
  simp only[List.cons_append,kp]at hk⊢;cases e with
  |normal=>exact hk
  |_=>exact CL hS h K _ _ hk
 |.mid M::K,e,s,hk=>by simp only[List.cons_append,kp]at hk⊢;exact Gc hS (fun t h=>h) (CL hS h K) e s hk
 |.scp::K,e,s,hk=>by
  simp only[List.cons_append,kp]at hk⊢;cases e with
  |goto l=>exact hk
  |_=>exact CL hS h K _ _ hk
theorem IX (M:It):∀(n:Nat) (K:List It),n<=K.length->Hi M n K=K.take n++M::K.drop n
 |0,K,_=>by simp[Hi]
 |n+1,i::K,h=>by simp only[Hi,List.take_succ_cons,List.drop_succ_cons,List.cons_append,IX M n K (by simpa using h)]
 |n+1,[],h=>by simp at h
theorem NK (hS:H4 S P)(a:∀s,S.up s (F .normal)->F .normal s)(n:Nat)(hn:n<=g.k.length){M:St->Prop}(b:∀t,M t->G S P F (.pop .normal (g.k.drop n) t))(h:G S P F (Qq n M g)):G S P F g:=by
 have hk:∀e s,kp S P (Hi (.mid M) n g.k) F e s->kp S P g.k F e s:=by
  intro e s;rw[IX _ _ _ hn]
  conv=>rhs;rw[<- List.take_append_drop n g.k]
  exact CL hS (Qk hS a b) _ e s
 cases g with
 |code c K st=>exact P7 hS c hk h
 |ops all rest K st=>exact Bc hS hk rest h
 |pop e K st=>exact hk e st h
theorem J_cut (hS:H4 S P)(hc:pr)(b:∀s,S.up s (F .normal)->F .normal s)(n:Nat)(s:St)
 (h1:∀(M:St->Prop),(∀(g' : Cfg) (ids:List (Nat×Nat)) (pr:Prop),pr->(hp:pr=B9 (cnd P g'):=by kernel_rfl)->(a:stp P g' = .pop .normal (.mid M::(stp P g).k.drop n) (stp P g').st:=by kernel_rfl)->(hle:Le ids (stp P g').st s:=by exact kle)->G S P F g')->G S P F (Qq n M (stp P g)))
 (c:G S P F (.pop .normal ((stp P g).k.drop n) s)) (hp:pr=B9 (cnd P g):=by kernel_rfl) (hn:Nat.ble n (stp P g).k.length=true:=by kernel_rfl):G S P F g:=by
 refine BZ hS hc ?_ hp;refine NK hS b n (Nat.le_of_ble_eq_true hn) (M:=fun t=>t=s) (fun t ht=>by subst ht;exact c) (h1 _ fun g' ids pr hc hp a hle=>?_);refine BZ hS hc ?_ hp;rw[a];exact hS.le ids _ _ _ hle rfl
theorem J_lt (hS:H4 S P)(hc:pr)(c:∀s,S.up s (F .normal)->F .normal s){R A:Type}{f:(A->Option R)->Option R}{k0:A->Option R}{r:R}(h:lt k0 f=some r)(n:Nat)(s:A->St)
 (h1:∀(M:St->Prop) (k:A->Option R),(∀(g' : Cfg) (ids:List (Nat×Nat)) (pr:Prop) (a:A),pr->k a=some r->(hp:pr=B9 (cnd P g'):=by kernel_rfl)->(b:stp P g' = .pop .normal (.mid M::(stp P g).k.drop n) (stp P g').st:=by kernel_rfl)->(hle:Le ids (stp P g').st (s a):=by exact kle)->G S P F g')->f k=some r->G S P F (Qq n M (stp P g)))
 (d:∀a,k0 a=some r->G S P F (.pop .normal ((stp P g).k.drop n) (s a))) (hp:pr=B9 (cnd P g):=by kernel_rfl) (hn:Nat.ble n (stp P g).k.length=true:=by kernel_rfl):G S P F g:=by
 refine BZ hS hc ?_ hp;refine NK hS c n (Nat.le_of_ble_eq_true hn) (M:=fun t=>∃a,t=s a/\k0 a=some r) (fun t ⟨a,ht,hk⟩=>by subst ht;exact d a hk) (h1 _ k0 (fun g' ids pr a hc hk hp b hle=>?_) h);refine BZ hS hc ?_ hp;rw[b];exact hS.le ids _ _ _ hle ⟨a,rfl,hk⟩
theorem Ig {g:Cfg}(h:DC g=true):g=.code (.loop (Ie g)) g.k g.st:=by
 unfold DC at h;split at h
 .rfl
 cases h
theorem Qv (hS:H4 S P)(hc:pr){R A:Type}{body:(A->Option R)->A->Option R}{N:Nat}{a0:A}{r:R}(h:BW N body a0=some r)(s:A->St){ids:List (Nat×Nat)}
 (i:∀(X:Type) (s' : X->St) (J:X->Prop) (m:X->Nat) (n:Nat) (b:A->Option R) (a:A),
  (∀(g' : Cfg) (ids:List (Nat×Nat)) (pr:Prop) (a:A),pr->b a=some r->(hp:pr=B9 (cnd P g'):=by kernel_rfl)->(f:stp P g' = .pop .normal (.lp X s' J m n::(stp P g).k) (stp P g').st:=by kernel_rfl)->(hle:Le ids (stp P g').st (s a):=by exact kle)->G S P F g') ->
  body b a=some r->G S P F (.code (Ie (stp P g)) (.lp X s' J m n::(stp P g).k) (s a))) (hp:pr=B9 (cnd P g):=by kernel_rfl) (hl:DC (stp P g)=true:=by kernel_rfl) (hle:Le ids (stp P g).st (s a0):=by exact kle):G S P F g:=by
 refine BZ hS hc ?_ hp;rw[Ig hl];refine Ql hS h s ids hle fun X s' J m n b a hb c=>i X s' J m n b a (fun g' ids pr a hc d hp f hle=>?_) c;refine BZ hS hc ?_ hp;rw[f];exact hb _ _ _ hle d
def JX (P:Program)(st:St)(rs:List ResultVar)(outs:List Nat):Option (AV×List Obj):=match AX P st rs with
 |some l=>match Gr outs (one l),I5 outs st.regs outs with
  |some a,some o=>if G7 outs then some (a,o)else none
  |_,_=>none
 |none=>none
theorem J_ret (hS:H4 S P)(hc:pr){n:Nat}{rs:List ResultVar}{Q:EU->List Obj->List Bool->Prop}{a:AV}{objs:List Obj}(outs:List Nat)(c:Q (.ret a) objs (BF n outs))(hp:pr=B9 (cnd P g):=by kernel_rfl)(d:(PM (stp P g)).bind (fun st=>JX P st rs outs)=some (a,objs):=by kernel_rfl) :G S P (Z9 S P n rs Q) g:=by
 refine BZ hS hc ?_ hp;generalize stp P g=g' at d;obtain⟨st,h1,b⟩:=Option.bind_eq_some_iff.1 d;unfold JX at b;split at b
 .rename_i l hl;split at b
  .rename_i f i;split at b
   .rename_i j;cases b;unfold PM at h1;split at h1
    .cases h1;exact hS.refl _ _ ⟨l,outs,a,objs,hl,j,f,i,c⟩
    .cases h1;exact hS.refl _ _ ⟨l,outs,a,objs,hl,j,f,i,c⟩
    cases h1
   cases b
  cases b
 cases b
theorem Qw (hS:H4 S P)(hc:pr){n:Nat}{rs:List ResultVar}{Q:EU->List Obj->List Bool->Prop}{a:AV}{objs:List Obj}(st:St)(outs:List Nat){ids:List (Nat×Nat)}(f:Q (.ret a) objs (BF n outs))(hp:pr=B9 (cnd P g):=by kernel_rfl)(c:(PM (stp P g)).isSome=true:=by kernel_rfl)(hle:Le ids (stp P g).st st:=by exact kle)(d:JX P st rs outs=some (a,objs):=by kernel_rfl) :G S P (Z9 S P n rs Q) g:=by
 refine BZ hS hc ?_ hp;generalize stp P g=g' at c hle;have b:=d;unfold JX at b;split at b
 .rename_i l hl;split at b
  .rename_i d i;split at b
   .rename_i j;cases b;unfold PM at c;split at c
    .exact hS.le ids _ _ _ hle ⟨l,outs,a,objs,hl,j,d,i,f⟩
    .exact hS.le ids _ _ _ hle ⟨l,outs,a,objs,hl,j,d,i,f⟩
    cases c
   cases b
  cases b
 cases b
theorem Pf (hS:H4 S P){f:FuncId}{fn:Func}{args:List AV}{objs objs' : List Obj}{ks:List Bool}{r:AV}(d:P.funcs[f]? = some fn)
 (h:G S P (Z9 S P objs.length fn.results.toList fun res o k=>res=.ret r/\o=objs' /\ k=ks) (.code (fn.body.getD .skip) [] { env:=argEnv args,regs:=objRegs objs }))
 (hc:fn.body.isSome=true:=by kernel_rfl) (hn:Nat.ble args.length fn.ntmps=true:=by kernel_rfl) (g:Nat.blt objs.length 1000=true:=by kernel_rfl)
 (b:P3 fn.ntmps (fn.body.getD .skip)=true:=by kernel_rfl) (c:(fn.name == "runtime.NumGoroutine")=false:=by kernel_rfl):N5 S f args objs r objs' ks:=by
 obtain⟨code,a⟩:=Option.isSome_iff_exists.1 hc;rw[a,Option.getD_some]at b h;exact KH hS d a (Nat.le_of_ble_eq_true hn) (by simpa[Nat.blt_eq]using g) rfl b c h
theorem al0:∀q∈([]:List (Nat×Leaf)),q.2.ok:=fun _ h=>by cases h
theorem al1 {i:Nat}{l:Leaf}{rs:List (Nat×Leaf)}(h:l.ok)(t:∀q∈rs,q.2.ok):∀q∈(i,l)::rs,q.2.ok:=fun q a=>by
 rcases List.mem_cons.1 a with rfl|a
 .exact h
 exact t q a
structure SC where
 all:List Oper
 cls:List Cls
 rest:List Oper
 env:Env
 regs:B4
 kn:List Nat
def SG (S:T3)(P:Program)(sc:SC)(k:Env->B4->Prop):Prop:=CU S P sc.all sc.cls sc.rest sc.env sc.regs k
def Ay (P:Program)(sc:SC):SC:=match EF P sc.kn sc.all sc.cls sc.rest [] sc.env sc.regs with
 |⟨_,cls,rest,env,regs⟩=>⟨sc.all,cls,rest,env,regs,sc.kn⟩
def IY (P:Program)(sc:SC):List Prop:=(EF P sc.kn sc.all sc.cls sc.rest [] sc.env sc.regs).conds
def Az:Cfg->Bool
 |.code (.region _ _ true) _ _=>true
 |_=>false
def Ca:Cfg->SC
 |.code (.region _ ops true) _ st=>⟨ops.toList,ops.toList.map fun o=>QQ o.op,ops.toList,st.env,st.regs,[]⟩
 |_=>⟨[],[],[],[],[],[]⟩
theorem Pg (hS:H4 S P)(hc:pr)
 (h:SG S P (Ca (stp P g)) fun env regs=>G S P F (.pop .normal (stp P g).k ⟨env,regs⟩)) (hp:pr=B9 (cnd P g):=by kernel_rfl) (c:Az (stp P g)=true:=by kernel_rfl) (a:P.follows .mixedOrders=true:=by kernel_rfl) (b:Es (Ca (stp P g)).all (Ca (stp P g)).cls=true:=by kernel_rfl):G S P F g:=by
 refine BZ hS hc ?_ hp;generalize stp P g=g' at c b h;unfold Az at c;split at c
 .exact MI hS a rfl b h
 cases c
section
variable {sc:SC}{k:Env->B4->Prop}
theorem Ph (hc:pr)(h:SG S P (Ay P sc) k)(hp:pr=B9 (IY P sc):=by kernel_rfl):SG S P sc k:=by subst hp;unfold Ay at h;unfold IY at hc;unfold SG at *;generalize a:EF P sc.kn sc.all sc.cls sc.rest [] sc.env sc.regs=r at h hc;obtain⟨c,cls,rest,env,regs⟩:=r;exact s_go a hc h
theorem C_end (hc:pr)(h:k (Ay P sc).env (Ay P sc).regs)(hp:pr=B9 (IY P sc):=by kernel_rfl)(a:(Ay P sc).rest.isEmpty=true:=by kernel_rfl):SG S P sc k:=by
 refine Ph hc ?_ hp;generalize Ay P sc=s at a h;obtain⟨all,cls,rest,env,regs,kn⟩:=s;cases rest with
 |nil=>exact s_end h
 |cons=>simp at a
def NL {R:Type _}(d:Option Nat)(a:AV)(env:Env)(regs:B4)(κ : Env->B4->R):R:=match d with
 |some d=>mkO (ins d a env) regs κ
 |none=>mkO env regs κ
theorem Bd {R:Type _}(d:Option Nat)(a:AV)(env:Env)(regs:B4)(κ : Env->B4->R):NL d a env regs κ = κ (Et d a env) regs:=by cases d<;>simp only[NL,Ft,Et]
def dguardE (sc:SC):Option Bool:=match sc.rest with
 |o::_=>match o.guard with
  |some (j,_)=>match QN sc.all j with
   |some d=>match get sc.env d with
    |.p (.bb b)=>if QL sc.env then some b else none
    |_=>none
   |none=>none
  |none=>none
 |[]=>none
def IZ (ids:List Nat)(sc:SC):Option (FuncId×List AV×List Obj):=match sc.rest with
 |o::_=>match O6 sc.all sc.env o,o.op with
  |some true,.call c=>match c.callee with
   |.value f=>match CT sc.regs (c.args.toList.map (aev sc.env))with
    |some (as,regs)=>match Gw sc.env f as with
     |some (fn,as')=>match Ap ids as',I5 ids regs ids with
      |some a,some ob=>if G7 ids&&AI ob then some (fn,a,ob)else none
      |_,_=>none
     |none=>none
    |none=>none
   |_=>none
  |_,_=>none
 |[]=>none
def MV (js:List Nat):AV->Bool
 |.vec j=>js.contains j
 |.vecp j _=>js.contains j
 |_=>true
theorem Ja {js:List Nat}{regs' : B4}:∀{l:List AV}{regs:B4}{as:List AV},l.all (MV js)=true->CT regs l=some (as,regs')->∀q,q ∉ js->A1 regs' q=A1 regs q
 |[],regs,as,_,h,q,_=>by simp only[CT,Option.some.injEq,Prod.mk.injEq]at h;rw[<- h.2]
 |a::r,regs,as,hl,h,q,hq=>by
  simp only[List.all_cons,Bool.and_eq_true]at hl;simp only[CT]at h;split at h
  .rename_i x R1 h1;split at h
   .rename_i l1 R2 c;simp only[Option.some.injEq,Prod.mk.injEq]at h;obtain⟨_,rfl⟩:=h;rw[Ja hl.2 c q hq];cases a with
    |vec j=>
     simp only at h1;split at h1
     .rename_i x2 R3 b;cases h1;exact Gb (by simpa[inJ,MV]using hl.1) b q hq
     cases h1
    |vecp j m=>
     simp only at h1;split at h1
     .rename_i x2 R3 b;cases h1;exact Gb (by simpa[inJ,MV]using hl.1) b q hq
     cases h1
    |_=>cases h1;rfl
   cases h
  cases h
def Qx (R:B4)(a:AV):Option (AV×B4):=match a with | .vec _ | .vecp _ _=>(match T5 R a with|some (x,regs)=>some (AV.p x,regs)|none=>none)|a=>some (a,R)
theorem Lt (R:B4)(a:AV)(r:List AV):CT R (a::r)=match Qx R a with
 |some (a,regs)=>match CT regs r with
  |some (l,regs)=>some (a::l,regs)
  |none=>none
 |none=>none:=rfl
theorem MW {js:List Nat}{a x:AV}{R R2 R' : B4}(hl:inJ js a=true)(d:∀q∈js,A1 R2 q=A1 R q)(hx:Qx R a=some (x,R')):∃R3,Qx R2 a=some (x,R3)/\(∀q∈js,A1 R3 q=A1 R' q)/\∀q,q ∉ js->A1 R3 q=A1 R2 q:=by
 have up:∀(i:Nat) (o:Obj),i∈js->(∀q∈js,A1 (ins i o R2) q=A1 (ins i o R) q)/\∀q,q ∉ js->A1 (ins i o R2) q=A1 R2 q:=fun i o g=>
  ⟨fun q f=>by rw[K6,K6,d q f],fun q f=>by rw[K6,Bv (by rintro rfl;exact f g)]⟩
 cases a with
 |p y=>cases hx;exact⟨R2,rfl,d,fun _ _=>rfl⟩
 |vec j=>
  have b:j∈js:=by simpa[inJ]using hl
  simp only[Qx,T5,d j b]at hx⊢;cases c:A1 R j with
  |none=>simp[c]at hx
  |some ob=>cases ob<;>simp only[c]at hx⊢<;>first|(cases hx;exact⟨_,rfl,up _ _ b⟩)|cases hx
 |vecp j m=>
  have b:j∈js:=by simpa[inJ]using hl
  simp only[Qx,T5,d j b]at hx⊢;cases c:A1 R j with
  |none=>simp[c]at hx
  |some ob=>cases ob<;>simp only[c]at hx⊢<;>first|(cases hx;exact⟨_,rfl,up _ _ b⟩)|cases hx
 |_=>cases hl
theorem Gf {js:List Nat}:∀{l:List AV}{R R2 R1:B4}{as:List AV},l.all (inJ js)=true->(∀q∈js,A1 R2 q=A1 R q)->CT R l=some (as,R1) ->
 ∃R3,CT R2 l=some (as,R3)/\(∀q∈js,A1 R3 q=A1 R1 q)/\∀q,q ∉ js->A1 R3 q=A1 R2 q
 |[],R,R2,R1,as,_,h2,h=>by simp only[CT,Option.some.injEq,Prod.mk.injEq]at h;obtain⟨rfl,rfl⟩:=h;exact⟨R2,rfl,h2,fun _ _=>rfl⟩
 |a::r,R,R2,R1,as,hl,h2,h=>by
  simp only[List.all_cons,Bool.and_eq_true]at hl;simp only[Lt]at h⊢;split at h
  .rename_i x R' hx;obtain⟨R3,e1,e2,e3⟩:=MW hl.1 h2 hx;split at h
   .rename_i l1 R'' c;simp only[Option.some.injEq,Prod.mk.injEq]at h;obtain⟨rfl,rfl⟩:=h;obtain⟨R4,f1,f2,f3⟩:=Gf hl.2 e2 c;exact⟨R4,by simp only[e1,f1],f2,fun q b=>(f3 q b).trans (e3 q b)⟩
   cases h
  cases h
theorem Hj {m:List Nat}:∀{ids:List Nat}{objs:List Obj}{A B:B4}{q:Nat},A1 A q=A1 B q->A1 (FG m ids objs A) q=A1 (FG m ids objs B) q
 |[],_,_,_,_,h=>h
 |_::_,[],_,_,_,h=>h
 |j::ids,o::objs,A,B,q,h=>by simp only[FG];exact Hj (by rw[K6,K6,h])
theorem Pj {all:List Oper}{k:Env->B4->Prop}{js:List Nat}{cls:List Cls}{o:Oper}{rest:List Oper}{env:Env}{regs regs1:B4}{c:Call}{f:Operand}{as:List AV}{fn:FuncId}{as' args:List AV}{objs' : List Obj}{ks:List Bool}{r:AV}
 (j:O6 all env o=some true) (l:o.op=.call c) (m:c.callee=.value f) (g:(c.args.toList.map (aev env)).all (inJ js)=true)
 (ha:CT regs (c.args.toList.map (aev env))=some (as,regs1)) (hw:Gw env f as=some (fn,as')) (n:Ap [] as' = some args) (s:N5 S fn args [] r objs' ks)
 (d:((F0 (o.dst.getD 0) [] ks objs'.length).all fun q=>js.contains q)=true) (hn:L9 regs1 [] ks (o.dst.getD 0) objs'.length=true)
 (hk:CU S P all cls rest (Et o.dst (unA (F0 (o.dst.getD 0) [] ks objs'.length) r) env) (FG (F0 (o.dst.getD 0) [] ks objs'.length) (F0 (o.dst.getD 0) [] ks objs'.length) objs' (H8 [] ks regs1)) k) :
 CU S P all (.a js::cls) (o::rest) env regs k:=by
 have i:∀q,q ∉ js->q ∉ F0 (o.dst.getD 0) [] ks objs'.length:=fun q b h=>b (by simpa using List.all_eq_true.1 d q h);refine⟨true,j,?_⟩;rw[Bh rfl];refine⟨_,_,.inr (.inr (.inr (.inr ⟨js,rfl,fun q b=>?_,fun R2 t=>?_⟩))),hk⟩
 .rw[DO (i q b)];obtain⟨R3,e1,_,e3⟩:=Gf (R2:=regs) g (fun _ _=>rfl) ha;rw[ha]at e1;cases e1;exact e3 q b
 obtain⟨R3,e1,e2,e3⟩:=Gf g t ha;refine⟨_,⟨c,f,as,R3,fn,as',args,[],objs',ks,r,[],l,m,e1,hw,n,rfl,s,rfl,rfl,?_,rfl,rfl⟩,fun q b=>Hj (e2 q b),fun q b=>(DO (i q b)).trans (e3 q b)⟩;unfold L9 at hn⊢;rw[List.all_eq_true]at hn⊢;intro p hp;have h1:=hn p hp;have u:nid (o.dst.getD 0) p∈js:=by
  have:=List.all_eq_true.1 d (nid (o.dst.getD 0) p) (by unfold F0;exact List.mem_map.2 ⟨p,hp,rfl⟩)
  simpa using this
 show (A1 R3 (nid (o.dst.getD 0) p)).isNone=true;rw[e2 _ u];exact h1
def Ew (ids:List Nat)(ks:List Bool)(n:Nat)(sc:SC):Bool:=match sc.cls,sc.rest with
 |.w::_,o::_=>match o.op with
  |.call c=>match CT sc.regs (c.args.toList.map (aev sc.env))with
   |some (_,regs)=>L9 regs ids ks (o.dst.getD 0) n
   |none=>false
  |_=>false
 |.b js::_,o::_=>match o.op with
  |.call c=>match CT sc.regs (c.args.toList.map (aev sc.env))with
   |some (_,regs)=>((c.args.toList.map (aev sc.env)).all (MV js)&&ids.isEmpty)&&(((F0 (o.dst.getD 0) ids ks n).all fun q=>js.contains q)&&L9 regs ids ks (o.dst.getD 0) n)
   |none=>false
  |_=>false
 |.a js::_,o::_=>match o.op with
  |.call c=>match CT sc.regs (c.args.toList.map (aev sc.env))with
   |some (_,regs)=>((c.args.toList.map (aev sc.env)).all (inJ js)&&ids.isEmpty)&&(((F0 (o.dst.getD 0) ids ks n).all fun q=>js.contains q)&&L9 regs ids ks (o.dst.getD 0) n)
   |none=>false
  |_=>false
 |_,_=>false
def Hk (ids:List Nat)(ks:List Bool)(r:AV)(objs' : List Obj)(sc:SC):SC:=match sc.rest with
 |o::rest=>match o.op with
  |.call c=>match CT sc.regs (c.args.toList.map (aev sc.env))with
   |some (_,regs)=>NL o.dst (unA (F0 (o.dst.getD 0) ids ks objs'.length) r) sc.env
    (FG (F0 (o.dst.getD 0) ids ks objs'.length) (F0 (o.dst.getD 0) ids ks objs'.length) objs' (H8 ids ks regs)) fun env regs=>⟨sc.all,sc.cls.tail,rest,env,regs,sc.kn⟩
   |none=>sc
  |_=>sc
 |[]=>sc
theorem Qy (ids:List Nat)(hc:pr){fn:FuncId}{args:List AV}{objs objs' : List Obj}{r:AV}{ks:List Bool}(u:N5 S fn args objs r objs' ks)
 (hk:SG S P (Hk ids ks r objs' (Ay P sc)) k) (hp:pr=B9 (IY P sc):=by kernel_rfl) (d:IZ ids (Ay P sc)=some (fn,args,objs):=by kernel_rfl) (hn:Ew ids ks objs'.length (Ay P sc)=true:=by kernel_rfl):SG S P sc k:=by
 refine Ph hc ?_ hp;generalize Ay P sc=s at d hn hk;obtain⟨all,cls,rest,env,regs,kn⟩:=s;cases rest with
 |nil=>simp[IZ]at d
 |cons o rest=>
  simp only[IZ]at d;split at d
  .rename_i c v g;split at d
   .rename_i i;split at d
    .rename_i ha;split at d
     .rename_i hw;split at d
      .rename_i x j;split at d
       .rename_i f;cases d;simp only[Bool.and_eq_true]at f;cases cls with
        |nil=>simp[Ew]at hn
        |cons cl cls=>
         cases cl with
         |w=>simp only[Ew,g,ha]at hn;simp only[Hk,g,ha,Bd,List.tail_cons]at hk;exact Lo ids (.inl rfl) v g i ha hw x j u f.1 f.2 hn hk
         |b js=>simp only[Ew,g,ha,Bool.and_eq_true,List.isEmpty_iff]at hn;obtain⟨⟨l,m⟩,n,t⟩:=hn;subst m;simp only[Hk,g,ha,Bd,List.tail_cons]at hk;refine Lo [] (.inr ⟨js,rfl,fun q y=>?_⟩) v g i ha hw x j u f.1 f.2 t hk;rw[DO (fun h=>y (by simpa using List.all_eq_true.1 n q h))];exact Ja l ha q y
         |a js=>simp only[Ew,g,ha,Bool.and_eq_true,List.isEmpty_iff]at hn;obtain⟨⟨l,m⟩,n,t⟩:=hn;subst m;simp only[Hk,g,ha,Bd,List.tail_cons]at hk;cases j;exact Pj v g i l ha hw x u n t hk
         |_=>simp[Ew]at hn
       cases d
      cases d
     cases d
    cases d
   cases d
  cases d
def dpureN (sc:SC):Bool:=match sc.cls,sc.rest with
 |_::_,o::_=>match o.op with
  |.call c=>(c.args.toList.map (aev sc.env)).all Mw
  |_=>false
 |_,_=>false
def AA (P:Program)(sc:SC):Option (List Prop×PV):=match sc.cls,sc.rest with
 |_::_,o::_=>match O6 sc.all sc.env o with
  |some true=>ET P sc.env o.op
  |_=>none
 |_,_=>none
def Ih (x:PV)(sc:SC):SC:=match sc.rest with
 |o::rest=>NL o.dst (.p x) sc.env sc.regs fun env regs=>⟨sc.all,sc.cls.tail,rest,env,regs,sc.kn⟩
 |[]=>sc
theorem Pk (hc:pr){x:PV}(hk:SG S P (Ih x (Ay P sc)) k)(hp:pr=B9 (IY P sc):=by kernel_rfl)(a:(AA P (Ay P sc)).map (·.2)=some x:=by kernel_rfl)(b:((AA P (Ay P sc)).map fun q=>B9 q.1)=some (true=true):=by kernel_rfl):SG S P sc k:=by
 refine Ph hc ?_ hp;generalize Ay P sc=s at a b hk;obtain⟨all,cls,rest,env,regs,kn⟩:=s;cases rest with
 |nil=>cases cls<;>simp[AA]at a
 |cons o rest=>
  cases cls with
  |nil=>simp[AA]at a
  |cons cl cls=>
   cases d:O6 all env o with
   |none=>simp[AA,d]at a
   |some bb=>
    cases bb with
    |false=>simp[AA,d]at a
    |true=>
     simp only[AA,d]at a b;cases ha:ET P env o.op with
     |none=>rw[ha]at a;cases a
     |some q=>obtain⟨c,y⟩:=q;rw[ha]at a b;simp only[Option.map_some,Option.some.injEq]at a b;subst a;simp only[Ih,Bd,List.tail_cons]at hk;exact MH d ha (by rw[b];trivial) hk
def Hl (P:Program)(sc:SC):Option LookI:=match sc.cls,sc.rest with
 |cl::_,o::_=>match O6 sc.all sc.env o,o.op with
  |some true,.lookup t m q _=>match T5 sc.regs (aev sc.env q),aev sc.env m with
   |some (key,regs),.mref j=>match A1 regs j,tk P t with
    |some (.map es),some (.map kt e)=>if (An P kt key&&Hb cl sc.env (o.dst.getD 0) o.op) then some ⟨kt,e,key,es⟩else none
    |_,_=>none
   |_,_=>none
  |_,_=>none
 |_,_=>none
def Lu (x:PV)(b:Bool)(sc:SC):SC:=match sc.rest with
 |o::rest=>match o.op with
  |.lookup _ _ q ok=>match T5 sc.regs (aev sc.env q)with
   |some (_,regs)=>NL o.dst (if ok then .tup [.p x,.bool b]else .p x) sc.env regs fun env regs=>⟨sc.all,sc.cls.tail,rest,env,regs,sc.kn⟩
   |none=>sc
  |_=>sc
 |[]=>sc
theorem MX (hc:pr){kt e:TypeId}{key:PV}{es:List (PV×PV)}{x:PV}{b:Bool}{fd:Option PV}
 (j:find (Ct P kt) key es=some fd) (g:B9 (Co P kt)) (hk:SG S P (Lu x b (Ay P sc)) k) (hp:pr=B9 (IY P sc):=by kernel_rfl) (a:Hl P (Ay P sc)=some ⟨kt,e,key,es⟩:=by kernel_rfl) (hx:MO P e fd=some (x,b):=by kernel_rfl):SG S P sc k:=by
 refine Ph hc ?_ hp;generalize Ay P sc=s at a hk;obtain⟨all,cls,rest,env,regs,kn⟩:=s;cases rest with
 |nil=>cases cls<;>simp[Hl]at a
 |cons o rest=>
  cases cls with
  |nil=>simp[Hl]at a
  |cons cl cls=>
   simp only[Hl]at a;split at a
   .rename_i l f;split at a
    .rename_i i hm;split at a
     .rename_i m ht;split at a
      .rename_i c;simp only[Option.some.injEq,LookI.mk.injEq]at a;obtain⟨rfl,rfl,rfl,rfl⟩:=a;simp only[Bool.and_eq_true]at c;simp only[Lu,f,i,Bd,List.tail_cons]at hk;have d:=c.2;simp only[f]at d;cases fd with
       |some y=>exact IU (fd:=some y) l f i hm m ht c.1 j hx g (by rw[f];exact d) hk
       |none=>exact IU (fd:=none) l f i hm m ht c.1 j hx g (by rw[f];exact d) hk
      cases a
     cases a
    cases a
   cases a
def Ii (P:Program)(sc:SC):Option (TypeId×PV×PV×List (PV×PV)):=match sc.cls,sc.rest with
 |.w::_,o::_=>match O6 sc.all sc.env o,o.op with
  |some true,.mapUpdate t m q x=>match aev sc.env q,aev sc.env m,T5 sc.regs (aev sc.env x)with
   |.p key,.mref j,some (y,regs)=>match A1 regs j,tk P t with
    |some (.map es),some (.map kt _)=>if An P kt (nP key) then some (kt,nP key,y,es)else none
    |_,_=>none
   |_,_,_=>none
  |_,_=>none
 |_,_=>none
def Pl (es' : List (PV×PV))(sc:SC):SC:=match sc.rest with
 |o::rest=>match o.op with
  |.mapUpdate _ m _ x=>match aev sc.env m,T5 sc.regs (aev sc.env x)with
   |.mref j,some (_,regs)=>NL o.dst Cu sc.env (ins j (.map es') regs) fun env regs=>⟨sc.all,sc.cls.tail,rest,env,regs,sc.kn⟩
   |_,_=>sc
  |_=>sc
 |[]=>sc
theorem MY (hc:pr){kt:TypeId}{key y:PV}{es es' : List (PV×PV)}
 (i:upd (Ct P kt) key y es=some es') (b:B9 (Co P kt)) (hk:SG S P (Pl es' (Ay P sc)) k) (hp:pr=B9 (IY P sc):=by kernel_rfl) (a:Ii P (Ay P sc)=some (kt,key,y,es):=by kernel_rfl):SG S P sc k:=by
 refine Ph hc ?_ hp;generalize Ay P sc=s at a hk;obtain⟨all,cls,rest,env,regs,kn⟩:=s;cases rest with
 |nil=>cases cls with
  |nil=>simp[Ii]at a
  |cons cl cls=>cases cl<;>simp[Ii]at a
 |cons o rest=>
  cases cls with
  |nil=>simp[Ii]at a
  |cons cl cls=>
   cases cl with
   |w=>
    simp only[Ii]at a;split at a
    .rename_i j d;split at a
     .rename_i h1 f g;split at a
      .rename_i l ht;split at a
       .rename_i c;simp only[Option.some.injEq,Prod.mk.injEq]at a;obtain⟨rfl,rfl,rfl,rfl⟩:=a;simp only[Pl,d,f,g,Bd,List.tail_cons]at hk;exact Id j d h1 g f l ht c i b hk
       cases a
      cases a
     cases a
    cases a
   |_=>simp[Ii]at a
end
end
structure KG (S:T3) (P:Program) (F:I6) (g:Cfg):Prop where
 out:G S P F g
structure DG (S:T3) (P:Program) (sc:SC) (k:Env->B4->Prop):Prop where
 out:SG S P sc k
structure KLe (ids:List (Nat×Nat)) (s t:St):Prop where
 out:Le ids s t
section
variable {S:T3}{P:Program}{F:I6}{g:Cfg}{pr:Prop}
theorem kl {ids:List (Nat×Nat)}{s t:St}(h:(leK ids s t).map (·.map Leaf.src)=(leK ids s t).map (·.map Leaf.tgt):=by kernel_rfl)(h1:(leK ids s t).isSome=true:=by kernel_rfl):KLe ids s t:=⟨kle h h1⟩
theorem klR {ids:List (Nat×Nat)}{s t:St}(rs:List (Nat×Leaf))(a:∀q∈rs,q.2.ok)(h:(leK ids s t).map (Qr (rs.map (·.1)) Leaf.src)=(leK ids s t).map (Qr (rs.map (·.1)) Leaf.tgt):=by kernel_rfl)
 (b:(leK ids s t).map (fun L=>rs.map fun q=>L[q.1]?)=some (rs.map fun q=>some q.2):=by kernel_rfl):KLe ids s t:=⟨kleR rs a h b⟩
theorem A9 (hS:H4 S P)(hc:pr){b:Bool}(ht:b=true->KG S P F (Qo (stp P g)))(a:b=false->KG S P F (Qp (stp P g)))(hp:pr=B9 (cnd P g):=by kernel_rfl)(hb:OX (stp P g)=some b:=by kernel_rfl):KG S P F g:=
 ⟨Qs hS hc (fun h=>(ht h).out) (fun h=>(a h).out) hp hb⟩
theorem C4 (hS:H4 S P)(hc:pr){b:Bool}(ht:b=true->KG S P F (Hh true (stp P g)))(a:b=false->KG S P F (Hh false (stp P g)))(hp:pr=B9 (cnd P g):=by kernel_rfl)(hb:Lr (stp P g)=some b:=by kernel_rfl):KG S P F g:=
 ⟨Pe hS hc (fun h=>(ht h).out) (fun h=>(a h).out) hp hb⟩
theorem B2 (hS:H4 S P)(ids:List Nat)(hc:pr){fn:FuncId}{args:List AV}{objs objs' : List Obj}{r:AV}{ks:List Bool}(a:N5 S fn args objs r objs' ks)(hk:KG S P F (Pa ids ks r objs' (stp P g)))
 (hp:pr=B9 (cnd P g):=by kernel_rfl) (b:OY ids (stp P g)=some (fn,args,objs):=by kernel_rfl) (hn:OZ ids ks objs'.length (stp P g)=true:=by kernel_rfl):KG S P F g:=⟨Qt hS ids hc a hk.out hp b hn⟩
theorem Y5 (hS:H4 S P)(hc:pr){kt e:TypeId}{key:PV}{es:List (PV×PV)}{x:PV}{b:Bool}{fd:Option PV}(c:find (Ct P kt) key es=some fd)(a:B9 (Co P kt))(hk:KG S P F (Pc x b (stp P g)))
 (hp:pr=B9 (cnd P g):=by kernel_rfl) (d:Pb P (stp P g)=some ⟨kt,e,key,es⟩:=by kernel_rfl) (hx:MO P e fd=some (x,b):=by kernel_rfl):KG S P F g:=⟨MT hS hc c a hk.out hp d hx⟩
theorem Gg (hS:H4 S P)(hc:pr){kt:TypeId}{key y:PV}{es es' : List (PV×PV)}(b:upd (Ct P kt) key y es=some es')(a:B9 (Co P kt))(hk:KG S P F (updK es' (stp P g)))
 (hp:pr=B9 (cnd P g):=by kernel_rfl) (c:updE P (stp P g)=some (kt,key,y,es):=by kernel_rfl):KG S P F g:=⟨MU hS hc b a hk.out hp c⟩
theorem Lw (hS:H4 S P)(hc:pr)(st:St){ids:List (Nat×Nat)}(hk:KG S P F (opsS st (stp P g)))(hp:pr=B9 (cnd P g):=by kernel_rfl)(a:Ls (stp P g)=true:=by kernel_rfl)(hle:KLe ids (stp P g).st st:=by exact kl):KG S P F g:=
 ⟨Qu hS hc st hk.out hp a hle.out⟩
theorem Dg (hS:H4 S P)(hc:pr)(b:∀s,S.up s (F .normal)->F .normal s)(n:Nat)(s:St)
 (h1:∀(M:St->Prop),(∀(g' : Cfg) (ids:List (Nat×Nat)) (pr:Prop),pr->(hp:pr=B9 (cnd P g'):=by kernel_rfl)->(a:stp P g' = .pop .normal (.mid M::(stp P g).k.drop n) (stp P g').st:=by kernel_rfl)->(hle:KLe ids (stp P g').st s:=by exact kl)->KG S P F g')->KG S P F (Qq n M (stp P g)))
 (c:KG S P F (.pop .normal ((stp P g).k.drop n) s)) (hp:pr=B9 (cnd P g):=by kernel_rfl) (hn:Nat.ble n (stp P g).k.length=true:=by kernel_rfl):KG S P F g:=
 ⟨J_cut hS hc b n s (fun M hb=>(h1 M fun g' ids pr hc hp a hle=>⟨hb g' ids pr hc hp a hle.out⟩).out) c.out hp hn⟩
theorem Pm (hS:H4 S P)(hc:pr)(c:∀s,S.up s (F .normal)->F .normal s){R A:Type}{f:(A->Option R)->Option R}{k0:A->Option R}{r:R}(h:lt k0 f=some r)(n:Nat)(s:A->St)
 (h1:∀(M:St->Prop) (k:A->Option R),(∀(g' : Cfg) (ids:List (Nat×Nat)) (pr:Prop) (a:A),pr->k a=some r->(hp:pr=B9 (cnd P g'):=by kernel_rfl)->(b:stp P g' = .pop .normal (.mid M::(stp P g).k.drop n) (stp P g').st:=by kernel_rfl)->(hle:KLe ids (stp P g').st (s a):=by exact kl)->KG S P F g')->f k=some r->KG S P F (Qq n M (stp P g)))
 (d:∀a,k0 a=some r->KG S P F (.pop .normal ((stp P g).k.drop n) (s a))) (hp:pr=B9 (cnd P g):=by kernel_rfl) (hn:Nat.ble n (stp P g).k.length=true:=by kernel_rfl):KG S P F g:=
 ⟨J_lt hS hc c h n s (fun M k hb i=>(h1 M k (fun g' ids pr a hc hk hp b hle=>⟨hb g' ids pr a hc hk hp b hle.out⟩) i).out) (fun a hk=>(d a hk).out) hp hn⟩
theorem Be (hS:H4 S P)(hc:pr){R A:Type}{body:(A->Option R)->A->Option R}{N:Nat}{a0:A}{r:R}(h:BW N body a0=some r)(s:A->St){ids:List (Nat×Nat)}
 (i:∀(X:Type) (s' : X->St) (J:X->Prop) (m:X->Nat) (n:Nat) (b:A->Option R) (a:A),
  (∀(g' : Cfg) (ids:List (Nat×Nat)) (pr:Prop) (a:A),pr->b a=some r->(hp:pr=B9 (cnd P g'):=by kernel_rfl)->(f:stp P g' = .pop .normal (.lp X s' J m n::(stp P g).k) (stp P g').st:=by kernel_rfl)->(hle:KLe ids (stp P g').st (s a):=by exact kl)->KG S P F g') ->
  body b a=some r->KG S P F (.code (Ie (stp P g)) (.lp X s' J m n::(stp P g).k) (s a))) (hp:pr=B9 (cnd P g):=by kernel_rfl) (hl:DC (stp P g)=true:=by kernel_rfl) (hle:KLe ids (stp P g).st (s a0):=by exact kl):KG S P F g:=
 ⟨Qv hS hc h s (fun X s' J m n b a hb c=>(i X s' J m n b a (fun g' ids pr a hc d hp f hle=>⟨hb g' ids pr a hc d hp f hle.out⟩) c).out) hp hl hle.out⟩
theorem Hm (hS:H4 S P)(hc:pr){R A B:Type}{body:(A->B->Option R)->A->B->Option R}{N:Nat}{a0:A}{b0:B}{r:R}(h:MM N body a0 b0=some r)(s:A->B->St){ids:List (Nat×Nat)}
 (d:∀(X:Type) (s' : X->St) (J:X->Prop) (m:X->Nat) (n:Nat) (c:A->B->Option R) (a:A) (b:B),
  (∀(g' : Cfg) (ids:List (Nat×Nat)) (pr:Prop) (a:A) (b:B),pr->c a b=some r->(hp:pr=B9 (cnd P g'):=by kernel_rfl)->(o:stp P g' = .pop .normal (.lp X s' J m n::(stp P g).k) (stp P g').st:=by kernel_rfl)->(hle:KLe ids (stp P g').st (s a b):=by exact kl)->KG S P F g') ->
  body c a b=some r->KG S P F (.code (Ie (stp P g)) (.lp X s' J m n::(stp P g).k) (s a b))) (hp:pr=B9 (cnd P g):=by kernel_rfl) (hl:DC (stp P g)=true:=by kernel_rfl) (hle:KLe ids (stp P g).st (s a0 b0):=by exact kl):KG S P F g:=
 Be hS hc h (fun x=>s x.1 x.2) (fun X s' J m n c a hb=>d X s' J m n (fun a b=>c (a,b)) a.1 a.2 fun g' ids pr a b h1 f i j l=>hb g' ids pr (a,b) h1 f i j l) hp hl hle
theorem Jb (hS:H4 S P)(hc:pr){R A B C:Type}{body:(A->B->C->Option R)->A->B->C->Option R}{N:Nat}{a0:A}{b0:B}{c0:C}{r:R}(h:OT N body a0 b0 c0=some r)(s:A->B->C->St){ids:List (Nat×Nat)}
 (f:∀(X:Type) (s' : X->St) (J:X->Prop) (m:X->Nat) (n:Nat) (d:A->B->C->Option R) (a:A) (b:B) (c:C),
  (∀(g' : Cfg) (ids:List (Nat×Nat)) (pr:Prop) (a:A) (b:B) (c:C),pr->d a b c=some r->(hp:pr=B9 (cnd P g'):=by kernel_rfl)->(q:stp P g' = .pop .normal (.lp X s' J m n::(stp P g).k) (stp P g').st:=by kernel_rfl)->(hle:KLe ids (stp P g').st (s a b c):=by exact kl)->KG S P F g') ->
  body d a b c=some r->KG S P F (.code (Ie (stp P g)) (.lp X s' J m n::(stp P g).k) (s a b c))) (hp:pr=B9 (cnd P g):=by kernel_rfl) (hl:DC (stp P g)=true:=by kernel_rfl) (hle:KLe ids (stp P g).st (s a0 b0 c0):=by exact kl):KG S P F g:=
 Be hS hc h (fun x=>s x.1 x.2.1 x.2.2) (fun X s' J m n d a hb=>f X s' J m n (fun a b c=>d (a,b,c)) a.1 a.2.1 a.2.2 fun g' ids pr a b c h1 i j l o=>hb g' ids pr (a,b,c) h1 i j l o) hp hl hle
theorem I1 (hS:H4 S P)(hc:pr){n:Nat}{rs:List ResultVar}{Q:EU->List Obj->List Bool->Prop}{a:AV}{objs:List Obj}(outs:List Nat)(b:Q (.ret a) objs (BF n outs))(hp:pr=B9 (cnd P g):=by kernel_rfl)
 (c:(PM (stp P g)).bind (fun st=>JX P st rs outs)=some (a,objs):=by kernel_rfl):KG S P (Z9 S P n rs Q) g:=⟨J_ret hS hc outs b hp c⟩
theorem B6 (hS:H4 S P)(hc:pr){n:Nat}{rs:List ResultVar}{Q:EU->List Obj->List Bool->Prop}{a:AV}{objs:List Obj}(st:St)(outs:List Nat){ids:List (Nat×Nat)}(b:Q (.ret a) objs (BF n outs))(hp:pr=B9 (cnd P g):=by kernel_rfl)
 (c:(PM (stp P g)).isSome=true:=by kernel_rfl) (hle:KLe ids (stp P g).st st:=by exact kl) (d:JX P st rs outs=some (a,objs):=by kernel_rfl):KG S P (Z9 S P n rs Q) g:=⟨Qw hS hc st outs b hp c hle.out d⟩
theorem D8 (hS:H4 S P){f:FuncId}{fn:Func}{args:List AV}{objs objs' : List Obj}{ks:List Bool}{r:AV}(c:P.funcs[f]? = some fn)
 (h:KG S P (Z9 S P objs.length fn.results.toList fun res o k=>res=.ret r/\o=objs' /\ k=ks) (.code (fn.body.getD .skip) [] { env:=argEnv args,regs:=objRegs objs }))
 (hc:fn.body.isSome=true:=by kernel_rfl) (hn:Nat.ble args.length fn.ntmps=true:=by kernel_rfl) (d:Nat.blt objs.length 1000=true:=by kernel_rfl)
 (a:P3 fn.ntmps (fn.body.getD .skip)=true:=by kernel_rfl) (b:(fn.name == "runtime.NumGoroutine")=false:=by kernel_rfl):N5 S f args objs r objs' ks:=Pf hS c h.out hc hn d a b
theorem W3 (hS:H4 S P)(hc:pr)(h:DG S P (Ca (stp P g)) fun env regs=>KG S P F (.pop .normal (stp P g).k ⟨env,regs⟩))(hp:pr=B9 (cnd P g):=by kernel_rfl)(c:Az (stp P g)=true:=by kernel_rfl)(a:P.follows .mixedOrders=true:=by kernel_rfl)
 (b:Es (Ca (stp P g)).all (Ca (stp P g)).cls=true:=by kernel_rfl):KG S P F g:=by
 have e:(fun env regs=>KG S P F (.pop .normal (stp P g).k ⟨env,regs⟩))=fun env regs=>G S P F (.pop .normal (stp P g).k ⟨env,regs⟩):=by funext env regs;exact propext ⟨fun h=>h.out,fun h=>⟨h⟩⟩
 rw[e]at h;exact⟨Pg hS hc h.out hp c a b⟩
section
variable {sc:SC}{k:Env->B4->Prop}
theorem Bu (hc:pr)(h:k (Ay P sc).env (Ay P sc).regs)(hp:pr=B9 (IY P sc):=by kernel_rfl)(a:(Ay P sc).rest.isEmpty=true:=by kernel_rfl):DG S P sc k:=⟨C_end hc h hp a⟩
theorem NM (ids:List Nat)(hc:pr){fn:FuncId}{args:List AV}{objs objs' : List Obj}{r:AV}{ks:List Bool}(a:N5 S fn args objs r objs' ks)(hk:DG S P (Hk ids ks r objs' (Ay P sc)) k)
 (hp:pr=B9 (IY P sc):=by kernel_rfl) (b:IZ ids (Ay P sc)=some (fn,args,objs):=by kernel_rfl) (hn:Ew ids ks objs'.length (Ay P sc)=true:=by kernel_rfl):DG S P sc k:=⟨Qy ids hc a hk.out hp b hn⟩
theorem Pn (hc:pr){x:PV}(hk:DG S P (Ih x (Ay P sc)) k)(hp:pr=B9 (IY P sc):=by kernel_rfl)(b:(AA P (Ay P sc)).map (·.2)=some x:=by kernel_rfl)(a:((AA P (Ay P sc)).map fun q=>B9 q.1)=some (true=true):=by kernel_rfl):DG S P sc k:=⟨Pk hc hk.out hp b a⟩
theorem Bp (hc:pr){kt e:TypeId}{key:PV}{es:List (PV×PV)}{x:PV}{b:Bool}{fd:Option PV}(c:find (Ct P kt) key es=some fd)(a:B9 (Co P kt))(hk:DG S P (Lu x b (Ay P sc)) k)
 (hp:pr=B9 (IY P sc):=by kernel_rfl) (d:Hl P (Ay P sc)=some ⟨kt,e,key,es⟩:=by kernel_rfl) (hx:MO P e fd=some (x,b):=by kernel_rfl):DG S P sc k:=⟨MX hc c a hk.out hp d hx⟩
theorem Jc (hc:pr){kt:TypeId}{key y:PV}{es es' : List (PV×PV)}(b:upd (Ct P kt) key y es=some es')(a:B9 (Co P kt))(hk:DG S P (Pl es' (Ay P sc)) k)
 (hp:pr=B9 (IY P sc):=by kernel_rfl) (c:Ii P (Ay P sc)=some (kt,key,y,es):=by kernel_rfl):DG S P sc k:=⟨MY hc b a hk.out hp c⟩
end
end
end Go.AM
namespace Go.AM
section
variable {S:T3}{P:Program}{F:I6}{g:Cfg}{pr:Prop}
def yldE:Cfg->Option (List PV×List (List PV))
 |.ops all (o::_) _ st=>match Y1 all st.env o,o.op with
  |some true,.call c=>match c.callee with
   |.value f=>match aev st.env f,Z6 st.regs (c.args.toList.map (aev st.env))with
    |.yf j,some (xs,regs)=>match A1 regs j with
     |some (.yld (ys::rest) true)=>if Aq j regs=true/\xs.length=ys.length then some (xs,ys::rest)else none
     |_=>none
    |_,_=>none
   |_=>none
  |_,_=>none
 |_=>none
def Qz (b:Bool)(rest:List (List PV)):Cfg->Cfg
 |.ops all (o::ops) K st=>match o.op with
  |.call c=>match c.callee with
   |.value f=>match aev st.env f,Z6 st.regs (c.args.toList.map (aev st.env))with
    |.yf j,some (_,regs)=>MN o.dst (.p (.bb b)) st.env (ins j (.yld rest b) regs) fun st=>.ops all ops K st
    |_,_=>.ops all (o::ops) K st
   |_=>.ops all (o::ops) K st
  |_=>.ops all (o::ops) K st
 |g=>g
theorem Hn:∀l:List PV,Oh l l
 |[]=>trivial
 |x::l=>⟨.inl rfl,Hn l⟩
theorem Po (hS:H4 S P)(hc:pr){ys:List PV}{rest:List (List PV)}(ht:G S P F (Qz true rest (stp P g)))(d:G S P F (Qz false [] (stp P g)))(hp:pr=B9 (cnd P g))(a:yldE (stp P g)=some (ys,ys::rest)):G S P F g:=by
 refine BZ hS hc ?_ hp;generalize stp P g=g' at a ht d;unfold yldE at a;split at a
 .split at a
  .rename_i l i;split at a
   .rename_i c;split at a
    .rename_i hy j;split at a
     .rename_i m;split at a
      .rename_i f;simp only[Option.some.injEq,Prod.mk.injEq,List.cons.injEq]at a;obtain⟨rfl,rfl,rfl⟩:=a;simp only[Qz,i,c,hy,j,BX]at ht d;refine ON hS l i c hy j m f.1 (Hn _) fun b=>?_;cases b
       .exact d
       exact ht
      cases a
     cases a
    cases a
   cases a
  cases a
 cases a
theorem Lx (hS:H4 S P)(hc:pr){ys:List PV}{rest:List (List PV)}(ht:KG S P F (Qz true rest (stp P g)))(a:KG S P F (Qz false [] (stp P g)))(hp:pr=B9 (cnd P g):=by kernel_rfl)(b:yldE (stp P g)=some (ys,ys::rest):=by kernel_rfl):KG S P F g:=
 ⟨Po hS hc ht.out a.out hp b⟩
def MZ {T:Type}(x:T)(o:Option (List T)):Option (List T):=o.map (x :: ·)
theorem QA {T:Type}{x:T}{o:Option (List T)}{L:List T}(h:MZ x o=some L):∃L',L=x::L' /\ o=some L':=by simp only[MZ,Option.map_eq_some_iff]at h;obtain⟨l,h1,a⟩:=h;exact⟨l,a.symm,h1⟩
theorem Ly (hS:H4 S P)(hc:pr){R A:Type}{body:(A->Option R)->A->Option R}{N:Nat}{a0:A}{r0:R}(h:BW N body a0=some r0)(s:A->R->St){ids:List (Nat×Nat)}
 (f:∀(X:Type) (s' : X->St) (J:X->Prop) (m:X->Nat) (n:Nat) (b:A->Option R) (a:A) (r:R),
  (∀(g' : Cfg) (ids:List (Nat×Nat)) (pr:Prop) (a:A) (r:R),pr->b a=some r->(hp:pr=B9 (cnd P g'):=by kernel_rfl)->(d:stp P g' = .pop .normal (.lp X s' J m n::(stp P g).k) (stp P g').st:=by kernel_rfl)->(hle:KLe ids (stp P g').st (s a r):=by exact kl)->KG S P F g') ->
  body b a=some r->KG S P F (.code (Ie (stp P g)) (.lp X s' J m n::(stp P g).k) (s a r))) (hp:pr=B9 (cnd P g):=by kernel_rfl) (hl:DC (stp P g)=true:=by kernel_rfl) (hle:KLe ids (stp P g).st (s a0 r0):=by exact kl):KG S P F g:=by
 refine⟨BZ hS hc ?_ hp⟩;rw[Ig hl];refine KE hS (X:=Nat×A×R) (fun x=>s x.2.1 x.2.2) (fun x=>BW x.1 body x.2.1=some x.2.2) (fun x=>x.1) (N,a0,r0) ids hle.out h ?_;rintro⟨n,a,r⟩ hx;cases n with
 |zero=>cases hx
 |succ n=>exact (f _ _ _ _ _ (BW n body) a r (fun g' ids pr a r hc c hp d hle=>⟨BZ hS hc (by rw[d];exact KF hS (n,a,r) ids hle.out c (Nat.lt_succ_self n)) hp⟩) hx).out
theorem Na (hS:H4 S P){f:FuncId}{fn:Func}{first caps:List AV}{objs:List Obj}{L:List (List PV)}(i:P.funcs[f]? = some fn)
 (h:KG S P (Z9 S P (objs++[Obj.yld L true]).length fn.results.toList fun r objs' ks=>∃b,objs'[objs.length]? = some (.yld [] b)/\ks[objs.length]? = some true/\∃a,r=.ret a) (.code (fn.body.getD .skip) [] { env:=argEnv (first ++ .yf objs.length::caps),regs:=objRegs (objs++[Obj.yld L true]) }))
 (hc:fn.body.isSome=true:=by kernel_rfl) (hn:Nat.ble (first ++ .yf objs.length::caps).length fn.ntmps=true:=by kernel_rfl) (j:Nat.blt (objs++[Obj.yld L true]).length 1000=true:=by kernel_rfl)
 (d:P3 fn.ntmps (fn.body.getD .skip)=true:=by kernel_rfl) (g:(fn.name == "runtime.NumGoroutine")=false:=by kernel_rfl):JS S f first caps objs L:=by
 obtain⟨code,c⟩:=Option.isSome_iff_exists.1 hc;rw[c,Option.getD_some]at d h;exact JR hS i c (Nat.le_of_ble_eq_true hn) (by simpa[Nat.blt_eq]using j) rfl d g h.out
def Lz (P:Program)(ids:List Nat):Cfg->Option (FuncId×List AV×List AV×List Obj)
 |.code (.rangeFunc op _ _ _) _ st=>match BJ st.env op with
  |some (f,first,caps)=>match P.funcs[f]?,I5 ids st.regs ids,Ap ids first,Ap ids caps with
   |some fn,some objs,some as,some bs=>if (fn.body.isSome && !(fn.name == "runtime.NumGoroutine")&&AI objs&&G7 ids&&(objs.length==ids.length)&&Nat.blt ids.length 1000) then some (f,as,bs,objs)else none
   |_,_,_,_=>none
  |none=>none
 |_=>none
def Jd:Cfg->Array Tmp
 |.code (.rangeFunc _ ps _ _) _ _=>ps
 |_=>#[]
def NO:Cfg->Code
 |.code (.rangeFunc _ _ a _) _ _=>a
 |_=>.skip
def NP:Cfg->Code
 |.code (.rangeFunc _ _ _ b) _ _=>b
 |_=>.skip
def NQ (ids ts:List Nat)(g:Cfg):St:=⟨R7 ts (ts.map (get g.st.env)),H8 ids (ids.map fun _=>false) g.st.regs⟩
def rst (gh:Nat)(t:St):St:=⟨[],ins gh (.ghost (t.env.map (·.2))) t.regs⟩
def NR (gh:Nat)(ps:Array Tmp)(ys:List PV)(t:St):St:=⟨DX ps.toList ys t.env,ins gh (.ghost (t.env.map (·.2))) t.regs⟩
def exitE:Cfg->EG
 |.pop e _ _=>e
 |_=>.normal
def NS:Cfg->Bool
 |.pop .ret [] _=>true
 |.pop (.exit _) [] _=>true
 |_=>false
theorem LA (regs:B4)(d:Nat)(x:Obj):A1 (ins d x regs) d=some x:=by
 induction regs with
 |nil=>simp[ins,A1]
 |cons p r ih=>
  obtain⟨i,b⟩:=p;simp only[ins];split
  .simp[A1]
  split
  .simp[A1]
  rename_i h1 a;simp only[A1,a,By,ih]
theorem Ex (gh:Nat)(t:St):A1 (rst gh t).regs gh=some (.ghost (t.env.map fun p=>p.2)):=by unfold rst;exact LA _ _ _
def Je (ids:List Nat):Cfg->Option (FuncId×List AV×List AV×List Obj)
 |.code (.rangeFunc op _ _ _) _ st=>match BJ st.env op with
  |some (f,first,caps)=>match I5 ids st.regs ids,Ap ids first,Ap ids caps with
   |some objs,some as,some bs=>if (AI objs&&G7 ids&&(objs.length==ids.length)&&Nat.blt ids.length 1000) then some (f,as,bs,objs)else none
   |_,_,_=>none
  |none=>none
 |_=>none
theorem Jf {ids:List Nat}{g:Cfg}{q:FuncId×List AV×List AV×List Obj}(h:Lz P ids g=some q):Je ids g=some q/\∃fn,P.funcs[q.1]? = some fn/\fn.body.isSome=true/\(fn.name == "runtime.NumGoroutine")=false:=by
 unfold Lz at h;split at h
 .split at h
  .rename_i a;split at h
   .rename_i fn objs' as' bs' h1 c d f;split at h
    .rename_i b;cases h;simp only[Bool.and_eq_true,Bool.not_eq_true',beq_iff_eq]at b;obtain⟨⟨⟨⟨⟨e1,e2⟩,e3⟩,e4⟩,e5⟩,e6⟩:=b;refine⟨?_,fn,h1,e1,by simpa using e2⟩;simp only[Je,a,c,d,f,e3,e4,e5,e6,beq_self_eq_true,Bool.and_true,Bx]
    cases h
   cases h
  cases h
 cases h
theorem Nb (hS:H4 S P)(hc:pr){f:FuncId}{as bs:List AV}{objs:List Obj}{R T A:Type}{enc:T->List PV}{L:List T}{mb:(A->Option R)->T->A->Option R}{mk:A->Option R}{a0:A}{r:R}(o:∃fn,P.funcs[f]? = some fn/\fn.body.isSome=true/\(fn.name == "runtime.NumGoroutine")=false)
 (ids ts:List Nat) (gh:Nat) (s:A->St) {idl:List (Nat×Nat)}(h:Ic L mb mk a0=some r) (x:JS S f as bs objs (L.map enc))
 (i:∀t:T,(enc t).length=(Jd (stp P g)).size) (hk:∀a,(s a).env.map (·.1)=ts) (hn:∀a,A1 (s a).regs gh=none) (m:∀a,(⟨R7 ts ((s a).env.map (·.2)),del gh (ins gh (.ghost ((s a).env.map (·.2))) (s a).regs)⟩:St)=s a)
 (c:∀(t:T) (next:St->Prop) (d:A->Option R) (a:A),
  (∀(g' : Cfg) (ids:List (Nat×Nat)) (pr:Prop) (a:A),pr->d a=some r->(hp:pr=B9 (cnd P g'):=by kernel_rfl)->(b:stp P g' = .pop .normal [] (stp P g').st:=by kernel_rfl)->(hle:KLe ids (stp P g').st (rst gh (s a)):=by exact kl)->KG S P (AW S gh ts next (kp S P (stp P g).k F)) g') ->
  mb d t a=some r->KG S P (BU S P (NP (stp P g)) gh ts next (kp S P (stp P g).k F)) (.code (NO (stp P g)) [] (NR gh (Jd (stp P g)) (enc t) (s a))))
 (j:∀a,mk a=some r->KG S P F (.pop .normal (stp P g).k (s a)))
 (hp:pr=B9 (cnd P g):=by kernel_rfl) (b:Je ids (stp P g)=some (f,as,bs,objs):=by kernel_rfl) (q:Nat.blt gh 1000=true:=by kernel_rfl) (n:A1 (stp P g).st.regs gh=none:=by kernel_rfl) (u:G7 ts=true:=by kernel_rfl)
 (hle:KLe idl (NQ ids ts (stp P g)) (s a0):=by exact kl):KG S P F g:=by
 refine⟨BZ hS hc ?_ hp⟩;generalize stp P g=g1 at i c j b n hle;unfold Je at b;split at b
 .rename_i op ps asg body K st;split at b
  .rename_i f' first caps v
   split at b
   .rename_i objs' as' bs' y z h4;split at b
    .rename_i w;simp only[Option.some.injEq,Prod.mk.injEq]at b;obtain⟨rfl,rfl,rfl,rfl⟩:=b;simp only[Bool.and_eq_true,Bool.not_eq_true',beq_iff_eq]at w;obtain⟨⟨⟨e3,e4⟩,e5⟩,e6⟩:=w;refine OW hS ids ts gh s idl h x v o y e3 e4 z h4 e5 q n e6 u i hle.out hk hn (fun t next d a hb hm=>?_) (fun a hm=>(j a hm).out);refine (c t next d a (fun g' ids' pr a hc l hp b hle=>⟨BZ hS hc ?_ hp⟩) hm).out;rw[b];have hl:((s a).env.map (·.2)).length=ts.length:=by rw[<- hk a];simp
     refine hb _ (rst gh (s a)) ((s a).env.map fun p=>p.2) ids' a hle.out (Ex gh (s a)) hl ?_ (m a) l
     have:=congrArg St.regs (m a)
     simp only at this;show A1 (del gh (ins gh _ _)) gh=none;rw[this];exact hn a
    cases b
   cases b
  cases b
 cases b
theorem Pp (hS:H4 S P)(hc:pr){f:FuncId}{as bs:List AV}{objs:List Obj}{R T A:Type}{enc:T->List PV}{L:List T}{mb:(A->Option R)->T->A->Option R}{mk:A->Option R}{a0:A}{r:R}
 (ids ts:List Nat) (gh:Nat) (s:A->St) {idl:List (Nat×Nat)}(h:Ic L mb mk a0=some r) (q:JS S f as bs objs (L.map enc))
 (d:∀t:T,(enc t).length=(Jd (stp P g)).size) (hk:∀a,(s a).env.map (·.1)=ts) (hn:∀a,A1 (s a).regs gh=none) (j:∀a,(⟨R7 ts ((s a).env.map (·.2)),del gh (ins gh (.ghost ((s a).env.map (·.2))) (s a).regs)⟩:St)=s a)
 (b:∀(t:T) (next:St->Prop) (c:A->Option R) (a:A),
  (∀(g' : Cfg) (ids:List (Nat×Nat)) (pr:Prop) (a:A),pr->c a=some r->(hp:pr=B9 (cnd P g'):=by kernel_rfl)->(l:stp P g' = .pop .normal [] (stp P g').st:=by kernel_rfl)->(hle:KLe ids (stp P g').st (rst gh (s a)):=by exact kl)->KG S P (AW S gh ts next (kp S P (stp P g).k F)) g') ->
  mb c t a=some r->KG S P (BU S P (NP (stp P g)) gh ts next (kp S P (stp P g).k F)) (.code (NO (stp P g)) [] (NR gh (Jd (stp P g)) (enc t) (s a))))
 (i:∀a,mk a=some r->KG S P F (.pop .normal (stp P g).k (s a)))
 (hp:pr=B9 (cnd P g):=by kernel_rfl) (l:Lz P ids (stp P g)=some (f,as,bs,objs):=by kernel_rfl) (m:Nat.blt gh 1000=true:=by kernel_rfl) (n:A1 (stp P g).st.regs gh=none:=by kernel_rfl) (o:G7 ts=true:=by kernel_rfl)
 (hle:KLe idl (NQ ids ts (stp P g)) (s a0):=by exact kl):KG S P F g:=
 Nb hS hc (Jf l).2 ids ts gh s h q d hk hn j b i hp (Jf l).1 m n o hle
def QS (t:Nat)(a:AV):Cfg->Cfg
 |.ops all rest K st=>mkO (ins t a st.env) st.regs fun env regs=>.ops all rest K ⟨env,regs⟩
 |g=>g
theorem Pq (hS:H4 S P)(hc:pr)(t:Nat){k n:Nat}{f:Nat->List PV}(b:n=0->KG S P F (QS t (.p (.v (.slice none 0 0))) (stp P g)))(h1:KG S P F (QS t (.p (.sl true k n f)) (stp P g)))
 (hp:pr=B9 (cnd P g):=by kernel_rfl) (a:Ls (stp P g)=true:=by kernel_rfl) (c:get (stp P g).st.env t=.p (.sl false k n f):=by kernel_rfl):KG S P F g:=by
 refine⟨BZ hS hc ?_ hp⟩;generalize stp P g=g1 at b h1 a c;unfold Ls at a;split at a
 .refine PT hS t c (fun h=>?_) ?_
  .have:=(b h).out
   simpa only[QS,Ft]using this
  have:=h1.out
  simpa only[QS,Ft]using this
 cases a
def frzC (j:Nat)(ps:List PV):Cfg->Cfg
 |.code c K st=>mkO (LQ j ps st.env) (ins j .dead st.regs) fun env regs=>.code c K ⟨env,regs⟩
 |g=>g
theorem K_frz (hS:H4 S P)(hc:pr)(j:Nat)(ps:List PV)(hk:KG S P F (frzC j ps (stp P g)))(hp:pr=B9 (cnd P g):=by kernel_rfl)(c:Az (stp P g)=true:=by kernel_rfl)(b:P.follows .mixedOrders=true:=by kernel_rfl)
 (a:Ds (Ca (stp P g)).all=true:=by kernel_rfl) (f:A1 (stp P g).st.regs j=some (.cells (ps.map .p)):=by kernel_rfl):KG S P F g:=by
 refine⟨BZ hS hc ?_ hp⟩;generalize stp P g=g1 at hk c a f;unfold Az at c;split at c
 .rename_i id ops K st;have hk:=hk.out;simp only[frzC,Ft]at hk;show awp S P (.region id ops true) (kp S P K F) st;simp only[awp,Bx];have d : Ma S P ops.toList (kp S P K F) ⟨LQ j ps st.env,ins j .dead st.regs⟩:=by
   have:awp S P (.region id ops true) (kp S P K F) ⟨LQ j ps st.env,ins j .dead st.regs⟩:=hk
   simpa only[awp,Bx]using this
  exact MK hS b a (hS.frz st j ps _ f d)
 cases c
def clsN (js:List Nat):Nat->List Oper->List Cls
 |_,[]=>[]
 |i,o::r=>(if js.contains i then .n else if js.contains (i+1000)then .w else QQ o.op)::clsN js (i+1) r
def Gh (js:List Nat):Cfg->SC
 |.code (.region _ ops true) _ st=>⟨ops.toList,clsN js 0 ops.toList,ops.toList,st.env,st.regs,[]⟩
 |_=>⟨[],[],[],[],[],[]⟩
theorem Nc (hS:H4 S P)(hc:pr)(js:List Nat)(h:DG S P (Gh js (stp P g)) fun env regs=>KG S P F (.pop .normal (stp P g).k ⟨env,regs⟩))(hp:pr=B9 (cnd P g):=by kernel_rfl)(c:Az (stp P g)=true:=by kernel_rfl)(a:P.follows .mixedOrders=true:=by kernel_rfl)
 (b:Es (Gh js (stp P g)).all (Gh js (stp P g)).cls=true:=by kernel_rfl):KG S P F g:=by
 have e:(fun env regs=>KG S P F (.pop .normal (stp P g).k ⟨env,regs⟩))=fun env regs=>G S P F (.pop .normal (stp P g).k ⟨env,regs⟩):=by funext env regs;exact propext ⟨fun h=>h.out,fun h=>⟨h⟩⟩
 rw[e]at h;refine⟨BZ hS hc ?_ hp⟩;have h:=h.out;generalize stp P g=g' at c b h;unfold Az at c;split at c
 .exact Ll hS _ a b h
 cases c
def clsL (ls:List (Nat×Cls)):Nat->List Oper->List Cls
 |_,[]=>[]
 |i,o::r=>(match ls.find? (fun q=>q.1==i)with|some q=>q.2|none=>QQ o.op)::clsL ls (i+1) r
def Gi (ls:List (Nat×Cls)):Cfg->SC
 |.code (.region _ ops true) _ st=>⟨ops.toList,clsL ls 0 ops.toList,ops.toList,st.env,st.regs,[]⟩
 |_=>⟨[],[],[],[],[],[]⟩
theorem Nd (hS:H4 S P)(hc:pr)(ls:List (Nat×Cls))(h:DG S P (Gi ls (stp P g)) fun env regs=>KG S P F (.pop .normal (stp P g).k ⟨env,regs⟩))(hp:pr=B9 (cnd P g):=by kernel_rfl)(c:Az (stp P g)=true:=by kernel_rfl)(a:P.follows .mixedOrders=true:=by kernel_rfl)
 (b:Es (Gi ls (stp P g)).all (Gi ls (stp P g)).cls=true:=by kernel_rfl):KG S P F g:=by
 have e:(fun env regs=>KG S P F (.pop .normal (stp P g).k ⟨env,regs⟩))=fun env regs=>G S P F (.pop .normal (stp P g).k ⟨env,regs⟩):=by funext env regs;exact propext ⟨fun h=>h.out,fun h=>⟨h⟩⟩
 rw[e]at h;refine⟨BZ hS hc ?_ hp⟩;have h:=h.out;generalize stp P g=g' at c b h;unfold Az at c;split at c
 .exact Ll hS _ a b h
 cases c
theorem K_asg (hS:H4 S P)(hc:pr){body:Code}{gh:Nat}{ts:List Nat}{next:St->Prop}{Q:I6}(h:KG S P (AW S gh ts next Q) (.code body [] (stp P g).st))(hp:pr=B9 (cnd P g):=by kernel_rfl)(a:stp P g=.pop .normal [] (stp P g).st:=by kernel_rfl):KG S P (BU S P body gh ts next Q) g:=by refine⟨BZ hS hc ?_ hp⟩;rw[a];exact G_asg hS h.out
theorem Gj (hS:H4 S P)(hc:pr){K:List It}{gh:Nat}{ts:List Nat}{next:St->Prop}(t:St){ids:List (Nat×Nat)}(hk:KG S P F (.pop (exitE (stp P g)) K t))(hp:pr=B9 (cnd P g):=by kernel_rfl)(a:NS (stp P g)=true:=by kernel_rfl)
 (hle:KLe ids (stp P g).st (rst gh t):=by exact kl) (h1:t.env.map (·.1)=ts:=by kernel_rfl) (d:A1 t.regs gh=none:=by kernel_rfl) (b:(⟨R7 ts (t.env.map (·.2)),del gh (ins gh (.ghost (t.env.map (·.2))) t.regs)⟩:St)=t:=by kernel_rfl):KG S P (AW S gh ts next (kp S P K F)) g:=by
 refine⟨BZ hS hc ?_ hp⟩;generalize stp P g=g1 at hk a hle;have hl:(t.env.map (·.2)).length=ts.length:=by rw[<- h1];simp
 have c:A1 (del gh (ins gh (.ghost (t.env.map (·.2))) t.regs)) gh=none:=by
  have:=congrArg St.regs b
  simp only at this;rw[this];exact d
 unfold NS at a;split at a
 .exact IR hS trivial (rst gh t) ids hle.out (Ex gh t) hl c (by rw[show (⟨R7 ts (t.env.map (·.2)),del gh (rst gh t).regs⟩:St)=t from b];exact hk.out)
 .exact IR hS trivial (rst gh t) ids hle.out (Ex gh t) hl c (by rw[show (⟨R7 ts (t.env.map (·.2)),del gh (rst gh t).regs⟩:St)=t from b];exact hk.out)
 cases a
theorem Nf (hS:H4 S P){gh:Nat}{ts:List Nat}{next:St->Prop}{Q:I6}(s:St)(h:S.up s (AW S gh ts next Q .normal)):AW S gh ts next Q .normal s:=hS.trans _ _ h
end
end Go.AM
namespace Go.AM
section
variable {S:T3}{P:Program}{F:I6}{g:Cfg}{pr:Prop}
def frzOC (j:Nat)(ps:List PV):Cfg->Cfg
 |.ops all rest K st=>mkO (LQ j ps st.env) (ins j .dead st.regs) fun env regs=>.ops all rest K ⟨env,regs⟩
 |g=>g
def NT (ids:List Nat):Cfg->Option (FuncId×List AV×List Obj)
 |.ops all (o::_) _ st=>match Y1 all st.env o,o.op with
  |some true,.call c=>match c.callee with
   |.value f=>match Gw st.env f (c.args.toList.map (aev st.env))with
    |some (fn,as')=>match Ap ids as',I5 ids st.regs ids with
     |some a,some ob=>if G7 ids&&AI ob then some (fn,a,ob)else none
     |_,_=>none
    |none=>none
   |_=>none
  |_,_=>none
 |_=>none
def NU (ids:List Nat)(ks:List Bool)(n:Nat):Cfg->Bool
 |.ops _ (o::_) _ st=>L9 st.regs ids ks (o.dst.getD 0) n
 |_=>false
def NV (ids:List Nat)(ks:List Bool)(r:AV)(objs' : List Obj):Cfg->Cfg
 |.ops all (o::rest) K st=>MN o.dst (unA (F0 (o.dst.getD 0) ids ks objs'.length) r) st.env
  (FG (F0 (o.dst.getD 0) ids ks objs'.length) (F0 (o.dst.getD 0) ids ks objs'.length) objs' (H8 ids ks st.regs)) fun st=>.ops all rest K st
 |g=>g
theorem LB (hS:H4 S P)(ids:List Nat)(hc:pr){fn:FuncId}{args:List AV}{objs objs' : List Obj}{r:AV}{ks:List Bool}(f:N5 S fn args objs r objs' ks)(hk:KG S P F (NV ids ks r objs' (stp P g)))
 (hp:pr=B9 (cnd P g):=by kernel_rfl) (a:NT ids (stp P g)=some (fn,args,objs):=by kernel_rfl) (hn:NU ids ks objs'.length (stp P g)=true:=by kernel_rfl):KG S P F g:=by
 refine⟨BZ hS hc ?_ hp⟩;have hk:=hk.out;generalize stp P g=g' at a hn hk;unfold NT at a;split at a
 .split at a
  .rename_i i j;split at a
   .rename_i c;split at a
    .rename_i hw;split at a
     .rename_i l d;split at a
      .rename_i b;cases a;simp only[Bool.and_eq_true]at b;simp only[NV,NU,BX]at hk hn;exact Ot hS ids i j c hw l d f b.1 b.2 hn hk
      cases a
     cases a
    cases a
   cases a
  cases a
 cases a
def unrT:List (St->Prop)->Nat->St->Prop
 |[],_,_=>False
 |a::_,0,t=>a t
 |_::l,i+1,t=>unrT l i t
theorem Ng (hS:H4 S P)(hc:pr)(n:Nat)(T:Nat->St->Prop)(s0:St){ids:List (Nat×Nat)}(j:T 0 s0)
 (l:∀(X:Type) (s' : X->St) (J:X->Prop) (m:X->Nat) (i k:Nat) (t:St),i<=n->T i t ->
  (∀(g' : Cfg) (ids:List (Nat×Nat)) (pr:Prop) (t' : St),pr->Nat.ble (i+1) n=true->T (i+1) t' -> (hp:pr=B9 (cnd P g'):=by kernel_rfl)->(q:stp P g' = .pop .normal (.lp X s' J m k::(stp P g).k) (stp P g').st:=by kernel_rfl)->(hle:KLe ids (stp P g').st t':=by exact kl)->KG S P F g') ->
  KG S P F (.code (Ie (stp P g)) (.lp X s' J m k::(stp P g).k) t)) (hp:pr=B9 (cnd P g):=by kernel_rfl) (hl:DC (stp P g)=true:=by kernel_rfl) (hle:KLe ids (stp P g).st s0:=by exact kl):KG S P F g:=by
 refine⟨BZ hS hc ?_ hp⟩;rw[Ig hl];refine KE hS (X:=Nat×St) (fun x=>x.2) (fun x=>x.1<=n/\T x.1 x.2) (fun x=>n-x.1) (0,s0) ids hle.out ⟨Nat.zero_le _,j⟩ ?_;rintro⟨i,t⟩ ⟨o,ht⟩;refine (l (Nat×St) (fun x=>x.2) (fun x=>x.1<=n/\T x.1 x.2) (fun x=>n-x.1) i (n-i) t o ht fun g' ids' pr' t' b hn c d f a=>⟨BZ hS b ?_ d⟩).out;rw[f];have hn:i+1<=n:=Nat.le_of_ble_eq_true hn;exact hS.le ids' _ _ _ a.out ⟨(i+1,t'),rfl,⟨hn,c⟩,by show n-(i+1)<n-i;omega⟩
end
section
variable {S:T3}{P:Program}{F:I6}{g:Cfg}{pr:Prop}
end
end Go.AM
namespace Go.AM
section
variable {S:T3}{P:Program}{F:I6}{g:Cfg}{pr:Prop}
end
end Go.AM
namespace Go.AM
section
variable {S:T3}{P:Program}{F:I6}{g:Cfg}{R X:Type}{A B:Option R}{r:R}{b:Bool}
end
end Go.AM
namespace Go.AM
inductive BT where
 |l (b:Bool)
 |n (b:Bool) (t f:BT)
def BT.ev:BT->Bool
 |.l b=>b
 |.n b t f=>if b then t.ev else f.ev
inductive BE where
 |a (b:Bool)
 |n (x y:BE)
 |o (x y:BE)
def BE.den:BE->Bool
 |.a b=>b
 |.n x y=>x.den&&y.den
 |.o x y=>x.den||y.den
def BE.tr:BE->BT->BT->BT
 |.a b,t,f=>.n b t f
 |.n x y,t,f=>x.tr (y.tr t f) f
 |.o x y,t,f=>x.tr t (y.tr t f)
def BE.top:BE->BT
 |.a b=>.l b
 |.n x y=>x.tr y.top (.l false)
 |.o x y=>x.tr (.l true) y.top
theorem BE.tr_ev:∀(e:BE) (t f:BT),(e.tr t f).ev=if e.den then t.ev else f.ev
 |.a b,t,f=>rfl
 |.n x y,t,f=>by simp only[tr,den,x.tr_ev,y.tr_ev];by_cases h:x.den=true<;>simp[h]
 |.o x y,t,f=>by simp only[tr,den,x.tr_ev,y.tr_ev];by_cases h:x.den=true<;>simp[h]
theorem BE.top_ev:∀e:BE,e.top.ev=e.den
 |.a b=>rfl
 |.n x y=>by simp only[top,den,x.tr_ev,y.top_ev,BT.ev];by_cases h:x.den=true<;>simp[h]
 |.o x y=>by simp only[top,den,x.tr_ev,y.top_ev,BT.ev];by_cases h:x.den=true<;>simp[h]
def keeps:Op->Bool
 |.move _ | .assign _ | .pick .. | .load .. | .nilCheck _ | .binOp .. | .unOp .. | .convert .. | .fieldAddr .. | .field .. | .indexAddr .. | .index .. | .extract ..=>true
 |.call { callee:=.builtin .len,.. } | .call { callee:=.builtin .min,.. } | .call { callee:=.builtin .max,.. }=>true
 |_=>false
theorem JY {P:Program}{env:Env}{regs:B4}{d:Nat}{o:Op}{out:Out}(hk:keeps o=true)(h:aop P env regs d o=some out):out.regs=regs:=by unfold keeps at hk;split at hk<;>first|(cases hk;done)|(simp only[aop]at h;(repeat' split at h)<;>first|(cases h;rfl)|cases h)
theorem Fu {o:Op}(hk:keeps o=true):NC o=true:=by unfold keeps at hk;split at hk<;>first|cases hk;done|rfl
def Nh:List Prop->List Prop
 |[]=>[]
 |c=>[B9 c]
def bgo (P:Program)(regs:B4)(o:Oper)(last:Bool)(rec:List Prop->Env->Option (BT×List Prop))(c:List Prop)(env:Env)(runs:Bool):Option (BT×List Prop):=match runs with
 |true=>match keeps o.op,o.dst with
  |true,some d=>match aop P env regs d o.op with
   |some ⟨p,v,_⟩=>match last with
    |true=>match DV v with
     |some b=>some (.l b,Nh (p++c))
     |none=>none
    |false=>fA v fun v=>KB d v env fun env=>rec (p++c) env
   |none=>none
  |_,_=>none
 |false=>match last,o.dst with
  |false,some d=>KB d P2 env fun env=>rec c env
  |_,_=>none
def bev (P:Program)(all:List Oper)(regs:B4):List Oper->List Prop->Env->Option (BT×List Prop)
 |[],_,_=>none
 |o::rest,c,env=>
  match o.guard with
  |none=>bgo P regs o rest.isEmpty (fun c env=>bev P all regs rest c env) c env true
  |some (j,want)=>match get env (AJ all j)with
   |.p (.v (.bool b))=>bgo P regs o rest.isEmpty (fun c env=>bev P all regs rest c env) c env (b==want)
   |.p (.v (.tuple _))=>bgo P regs o rest.isEmpty (fun c env=>bev P all regs rest c env) c env false
   |.p (.bb b)=>match KB (AJ all j) (.p (.v (.bool true))) env fun env=>bgo P regs o rest.isEmpty (fun c env=>bev P all regs rest c env) [] env want,
    KB (AJ all j) (.p (.v (.bool false))) env fun env=>bgo P regs o rest.isEmpty (fun c env=>bev P all regs rest c env) [] env !want with
    |some (t,ct),some (f,cf)=>some (.n b t f,Nh c++(ct.map (fun p=>b=true->p)++cf.map (fun p=>b=false->p)))
    |_,_=>none
   |_=>none
def Kj (l:List Oper):List Nat:=l.filterMap (·.dst)
def Pr (ks:List Nat)(env:Env):Env:=env.filter fun q=>!ks.contains q.1
theorem Jg (ks:List Nat)(env:Env)(x:Nat):get (Pr ks env) x=if x∈ks then .top else get env x:=by
 induction env with
 |nil=>simp[Pr,get]
 |cons q r ih=>
  obtain⟨i,a⟩:=q;simp only[Pr,List.filter_cons];by_cases b:i∈ks
  .rw[Bv (by simpa using b)]
   have:=ih
   simp only[Pr]at this;rw[this];by_cases hx:x∈ks
   .simp[hx]
   have:i≠x:=fun e=>hx (e ▸ b)
   simp[hx,get,this]
  rw[Bh (by simpa using b)];simp only[get]
  have:=ih
  simp only[Pr]at this;rw[this];by_cases hx:i=x
  .subst hx;simp[b]
  simp[hx]
def Ij:List Oper->Option Nat
 |[]=>none
 |[o]=>o.dst
 |_::r=>Ij r
section
variable {S:T3}{P:Program}
theorem Fv {c:List Prop}(h:∀p∈Nh c,p):B9 c:=by
 cases c with
 |nil=>trivial
 |cons p r=>exact h _ (by simp[Nh])
theorem QB (hS:H4 S P){all:List Oper}{regs:B4}{Q:I6}{post:List Oper}{envF:Env}{V:Bool}{d:Nat}(hQ:∀s,S.up s (CW S P all post Q)->CW S P all post Q s)(hV:get envF d=.p (.bb V))
 (hw:CW S P all post Q ⟨envF,regs⟩) :
 ∀(L:List Oper) (c:List Prop) (env:Env) (T:BT) (C:List Prop),bev P all regs L c env=some (T,C)->(∀p∈C,p)->T.ev=V->Ij L=some d ->
  (∀x,x≠d->FI (get envF x) (get env x) \/ (x∈Kj L/\get envF x=.top))->(∀x∈Kj L,x≠d->get envF x=.top)->B9 c/\CW S P all (L++post) Q ⟨env,regs⟩:=by
 intro L
 induction L with
 |nil=>intro c env T C h;cases h
 |cons o rest ih=>
  intro c env T C h w i hd hl ht;simp only[bev,BK]at h;have key:∀(c:List Prop) (env:Env) (runs:Bool) (T:BT) (C:List Prop),bgo P regs o rest.isEmpty (fun c env=>bev P all regs rest c env) c env runs=some (T,C)->(∀p∈C,p)->T.ev=V ->
   (∀x,x≠d->FI (get envF x) (get env x) \/ (x∈Kj (o::rest)/\get envF x=.top)) ->
   B9 c/\(if runs then wOp S P o (CW S P all (rest++post) Q) Q ⟨env,regs⟩else CW S P all (rest++post) Q (put ⟨env,regs⟩ o.dst P2)):=by
   intro c env runs T C h w i hl;have l:rest.isEmpty=false->Ij rest=some d:=by
    intro hr;cases rest with
    |nil=>cases hr
    |cons a r=>simpa[Ij]using hd
   have a0:∀{d'},o.dst=some d' -> Kj (o::rest)=d' :: Kj rest:=fun g=>by simp[Kj,g]
   have m:∀d' (v:AV),o.dst=some d' -> ∀x,x≠d->FI (get envF x) (get (ins d' v env) x) \/ (x∈Kj rest/\get envF x=.top):=by
    intro d' v g x hx;rw[U8];by_cases n:d' = x
    .subst n;exact .inl (.inl (ht _ (by rw[a0 g];exact List.mem_cons_self ..) hx))
    rw[Bv n];rcases hl x hx with h|⟨h1,h2⟩
    .exact .inl h
    exact .inl (.inl h2)
   cases runs with
   |true=>
    simp only[bgo,Jr,BK,Bx]at h⊢;split at h
    .rename_i d' hk g;split at h
     .rename_i p v regs' ha;have hr:regs' = regs:=JY hk ha;subst hr;have ha' : aop P env regs' (o.dst.getD 0) o.op=some ⟨p,v,regs'⟩:=by rw[g];exact ha
      split at h
      .rename_i u;split at h
       .rename_i b hb;cases h;have a1:=Fv w;obtain⟨hc,hp⟩:=(R6 _ _).1 a1;refine⟨hc,DL (Fu hk) ha' hp ?_⟩;obtain rfl:rest=[]:=List.isEmpty_iff.1 u;simp only[Ij]at hd;have e:d' = d:=by rw[g]at hd;exact Option.some.inj hd
        subst e;refine hQ _ (hS.less _ ⟨envF,regs'⟩ _ (fun x=>?_) (fun _=>by rw[g];rfl) (by simpa using hw));rw[g];show FI (get envF x) (get (ins d' v env) x);rw[U8];by_cases hx:d' = x
        .subst hx;rw[Bh rfl,hV];have i:b=V:=i;subst i;unfold DV at hb;split at hb
         .cases hb;exact .inr (.inr ⟨_,rfl,rfl⟩)
         .cases hb;exact .inr (.inl rfl)
         cases hb
        rw[Bv hx];rcases hl x (fun e=>hx e.symm)with h|⟨_,h⟩
        .exact h
        exact .inl h
       cases h
      rename_i u;have hn:∀x,x≠d->FI (get envF x) (get (ins d' v env) x) \/ (x∈Kj rest/\get envF x=.top):=m d' v g;obtain⟨a1,a2⟩:=ih _ _ _ _ h w i (l (by simpa using u)) hn (fun x hx=>ht x (by rw[a0 g];exact List.mem_cons_of_mem _ hx));obtain⟨hc,hp⟩:=(R6 _ _).1 a1;exact⟨hc,DL (Fu hk) ha' hp (by rw[g];exact a2)⟩
     cases h
    cases h
   |false=>
    simp only[bgo,BK,Bool.false_eq_true,By]at h⊢;split at h
    .rename_i d' u g;have hn:∀x,x≠d->FI (get envF x) (get (ins d' P2 env) x) \/ (x∈Kj rest/\get envF x=.top):=m d' _ g;obtain⟨hc,a2⟩:=ih _ _ _ _ h w i (l (by simpa using u)) hn (fun x hx=>ht x (by rw[a0 g];exact List.mem_cons_of_mem _ hx));exact⟨hc,by rw[g];exact a2⟩
    cases h
  simp only[List.cons_append,CW];cases hg:o.guard with
  |none=>simp only[hg]at h;obtain⟨hc,hk⟩:=key _ _ _ _ _ h w i hl;exact⟨hc,hS.refl _ _ (by simpa[hg]using hk)⟩
  |some q=>
   obtain⟨j,want⟩:=q;simp only[hg]at h;split at h
   .rename_i b hb;obtain⟨hc,hk⟩:=key _ _ _ _ _ h w i hl;refine⟨hc,hS.refl _ _ ⟨some b,by rw[hb];rfl,?_⟩⟩;have e:(some b=some want)↔(b==want)=true:=by simp
    by_cases z:(b==want)=true
    .rw[Bh (e.2 z)];simpa[z]using hk
    rw[Bv (fun x=>z (e.1 x))];simpa[z]using hk
   .rename_i tt hb;obtain⟨hc,hk⟩:=key _ _ _ _ _ h w i hl;refine⟨hc,hS.refl _ _ ⟨none,by rw[hb];rfl,?_⟩⟩;rw[Bv (by simp)];simpa using hk
   .rename_i b hb;split at h
    .rename_i t ct f cf h1 h2;cases h;have hc:B9 c:=Fv fun p hp=>w p (List.mem_append_left _ hp);refine⟨hc,hS.bool _ _ b _ hb ?_⟩;have hl2:∀x,x≠d->FI (get envF x) (get (ins (AJ all j) (.p (.v (.bool b))) env) x) \/ (x∈Kj (o::rest)/\get envF x=.top):=by
      intro x hx;rw[U8];by_cases n:AJ all j=x
      .subst n;rw[Bh rfl];rcases hl _ hx with h|h
       .rw[hb]at h;rcases h with h|h|⟨y,h1,h2⟩
        .exact .inl (.inl h)
        .exact .inl (.inr (.inr ⟨b,h,rfl⟩))
        cases h2
       exact .inr h
      rw[Bv n];exact hl x hx
     cases b with
     |true=>
      obtain⟨_,hk⟩:=key _ _ _ _ _ h1 (fun p hp=>w (true=true->p) (List.mem_append_right _ (List.mem_append_left _ (List.mem_map.2 ⟨p,hp,rfl⟩))) rfl) i hl2;refine⟨some true,by show yv (get (ins _ _ _) _)=_;rw[U8,Bh rfl];rfl,?_⟩;cases want with
      |true=>simpa using hk
      |false=>simpa using hk
     |false=>
      obtain⟨_,hk⟩:=key _ _ _ _ _ h2 (fun p hp=>w (false=false->p) (List.mem_append_right _ (List.mem_append_right _ (List.mem_map.2 ⟨p,hp,rfl⟩))) rfl) i hl2;refine⟨some false,by show yv (get (ins _ _ _) _)=_;rw[U8,Bh rfl];rfl,?_⟩;cases want with
      |true=>simpa using hk
      |false=>simpa using hk
    cases h
   cases h
end
def Ps (P:Program)(m:Nat):Cfg->Option (BT×List Prop)
 |.ops all rest K st=>bev P all st.regs (rest.take m) [] st.env
 |_=>none
def QC (m:Nat)(b:Bool):Cfg->Cfg
 |.ops all rest K st=>match Ij (rest.take m)with
  |some d=>mkO (ins d (.p (.bb b)) (Pr (Kj (rest.take m)) st.env)) st.regs fun env regs=>.ops all (rest.drop m) K ⟨env,regs⟩
  |none=>.ops all rest K st
 |g=>g
def QD (m:Nat):Cfg->Bool
 |.ops all rest K st=>(Ij (rest.take m)).isSome
 |_=>false
def QE:List Prop->Prop
 |[]=>True
 |p::r=>r.foldl And p
theorem Ni {l:List Prop}(h:QE l):∀p∈l,p:=by
 have:∀(r:List Prop) (p:Prop),r.foldl And p->p/\∀q∈r,q:=by
  intro r
  induction r with
  |nil=>intro p h;exact⟨h,fun q b=>by cases b⟩
  |cons a r ih=>intro p h;obtain⟨⟨h1,c⟩,d⟩:=ih _ h;exact⟨h1,fun q b=>by rcases List.mem_cons.1 b with rfl|b;exact c;exact d q b⟩
 cases l with
 |nil=>intro p hp;cases hp
 |cons a r=>obtain⟨h1,c⟩:=this _ _ h;exact fun q b=>by rcases List.mem_cons.1 b with rfl|b;exact h1;exact c q b
section
variable {S:T3}{P:Program}{F:I6}{g:Cfg}{pr pc:Prop}
theorem kB (hS:H4 S P)(n:∀s,S.up s (F .normal)->F .normal s)(hc:pr)(c:pc)(m:Nat)(E:BE)(hk:KG S P F (QC m E.den (stp P g)))
 (hp:pr=B9 (cnd P g):=by kernel_rfl) (a:(Ps P m (stp P g)).map (·.1)=some E.top:=by kernel_rfl) (b:(Ps P m (stp P g)).map (fun x=>QE x.2)=some pc:=by kernel_rfl) (f:QD m (stp P g)=true:=by kernel_rfl):KG S P F g:=by
 refine⟨BZ hS hc ?_ hp⟩;have hk:=hk.out;generalize stp P g=g' at hk a b f;unfold Ps at a b;split at a
 .rename_i all rest K st;simp only[QD,Option.isSome_iff_exists]at f;obtain⟨d,j⟩:=f;simp only[QC,j,Ft]at hk;cases hb:bev P all st.regs (rest.take m) [] st.env with
  |none=>rw[hb]at a;cases a
  |some q=>
   obtain⟨T,C⟩:=q;simp only[hb]at a b;simp only[Option.map_some,Option.some.injEq]at a b;subst a
   have:=(QB hS (Q:=kp S P K F) (post:=rest.drop m) (envF:=ins d (.p (.bb E.den)) (Pr (Kj (rest.take m)) st.env)) (V:=E.den) (d:=d) ?_ (by rw[U8,Bh rfl]) hk (rest.take m) [] st.env E.top C hb
    (Ni (b ▸ c)) E.top_ev j (fun x hx=>?_) (fun x hx i=>?_)).2
   .rwa [List.take_append_drop]at this
   .intro s h;cases l:rest.drop m with
    |nil=>rw[l]at h;exact ML hS n K s h
    |cons o r=>rw[l]at h;exact hS.trans _ _ h
   .rw[U8,Bv (fun e=>hx e.symm),Jg];split
    .exact .inl (.inl rfl)
    exact .inl (.inr (.inl rfl))
   rw[U8,Bv (fun e=>i e.symm),Jg,Bh hx]
 cases a
end
end Go.AM
namespace Go.AM
section
variable {S:T3}{P:Program}{F:I6}{g:Cfg}{pr pc:Prop}
end
end Go.AM
namespace Go.AM
end Go.AM
