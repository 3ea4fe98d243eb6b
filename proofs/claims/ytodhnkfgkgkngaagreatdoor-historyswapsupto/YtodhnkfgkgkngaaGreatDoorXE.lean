/- Part 5. -/
import Derived.Test.YtodhnkfgkgkngaaGreatDoorXD
set_option linter.unusedSimpArgs false
set_option linter.unusedVariables false
set_option linter.unusedSectionVars false
namespace Go.AM
open Go.RowKit Go.ChangeShapes Go.Deep
mutual
inductive LeD:PV->PV->Prop
 |refl (x:PV):LeD x x
 |sl {k n:Nat}{f g:Nat->List PV}(h:∀i,i<n->LeDs (f i) (g i)):LeD (.sl false k n f) (.sl false k n g)
inductive LeDs:List PV->List PV->Prop
 |nil:LeDs [] []
 |cons {x y:PV}{l r:List PV}(h:LeD x y) (h' : LeDs l r):LeDs (x::l) (y::r)
end
theorem LeDs.refl:∀l:List PV,LeDs l l
 |[]=>.nil
 |x::l=>.cons (.refl x) (LeDs.refl l)
theorem LeDs.length {l r:List PV}(h:LeDs l r):l.length=r.length:=by
 induction l generalizing r with
 |nil=>cases h;rfl
 |cons x l ih=>cases h with|cons _ h'=>simp[ih h']
theorem LeDs.get {l r:List PV}(h:LeDs l r):∀i,LeD (l.getD i default) (r.getD i default):=by
 induction l generalizing r with
 |nil=>cases h;exact fun i=>.refl _
 |cons x l ih=>
  cases h with
  |cons h h'=>
   intro i;cases i with
   |zero=>exact h
   |succ i=>simpa using ih h' i
theorem LeDs.append {a b c d:List PV}(h:LeDs a b)(h' : LeDs c d):LeDs (a++c) (b++d):=by
 induction a generalizing b with
 |nil=>cases h;exact h'
 |cons x l ih=>cases h with|cons h1 h2=>exact .cons h1 (ih h2)
theorem RepP.leD {w:World}{Pi:Nat->Nat->Prop}{v:Value}{x:PV}(h:RepP w Pi v x):∀{y:PV},LeD x y->RepP w Pi v y:=by
 induction h with
 |slnil k f=>intro y hy;cases hy with
  |refl=>exact .slnil _ _
  |sl h=>exact .slnil _ _
 |sl nn b off cap k n f c hn hk hc h sp hsp ih=>
  intro y hy;cases hy with
  |refl=>exact .sl nn b off cap k n f c hn hk hc h sp hsp
  |sl h'=>exact .sl false b off cap k n _ c hn (fun i d=>by rw[<- (h' i d).length];exact hk i d) hc (fun i j d g=>ih i j d g ((h' i d).get j)) sp hsp
 |v x=>intro y hy;cases hy;exact .v x
 |bb b=>intro y hy;cases hy;exact .bb b
 |str l=>intro y hy;cases hy;exact .str l
 |agg vs cs hs h1 h ih=>intro y hy;cases hy;exact .agg vs cs hs h1 h
 |ptr b off cs c hc h ih=>intro y hy;cases hy;exact .ptr b off cs c hc h
 |iface t x a h ih=>intro y hy;cases hy;exact .iface t x a h
 |fn f x y a b hx hy ha hb iha ihb=>intro y hy;cases hy;exact .fn f x _ a b hx ‹_› ha hb
theorem CRep.leD {W:World}{cs:List Value}{p q:List PV}(h:CRep W cs p)(hl:LeDs p q):CRep W cs q:=
 ⟨by rw[h.1,hl.length],fun i a=>⟨(h.2 i (by rw[hl.length];exact a)).1.leD (hl.get i),(h.2 i (by rw[hl.length];exact a)).2⟩⟩
section
variable {P:Program}{t e:TypeId}{m:Nat}{pvs:List PV}
def DU (f:Nat->Nat):Nat->Nat
 |0=>0
 |k+1=>DU f k+f k
theorem ZV (f:Nat->Nat){k n:Nat}(h:k<=n):DU f k<=DU f n:=by
 induction h with
 |refl=>exact Nat.le_refl _
 |step _ ih=>simp only[DU];omega
theorem Je (f:Nat->Nat){k n:Nat}(h:k<n):f k<=DU f n:=by
 have:=ZV f (show k+1<=n from h)
 simp only[DU]at this;omega
theorem OQ {f g:Nat->Nat}:∀{n:Nat},(∀i,i<n->f i<=g i)->DU f n<=DU g n
 |0,_=>Nat.le_refl _
 |n+1,h=>by have h1:=OQ (n:=n) fun i a=>h i (by omega);have b:=h n (by omega);simp only[DU];omega
theorem LJ (f:Nat->Nat):∀n,PL ((List.range n).map f)=DU f n:=by
 have app:∀a b:List Nat,PL (a++b)=PL a+PL b:=by
  intro a b
  induction a with
  |nil=>simp[PL]
  |cons x r ih=>simp only[List.cons_append,OA,ih];omega
 intro n
 induction n with
 |zero=>rfl
 |succ n ih=>rw[List.range_succ,List.map_append,app,ih];simp[DU,PL]
def Jf (P:Program)(t:TypeId){T:Type}(c:T->List PV)(W:T->Prop)(sz:T->Nat):Prop:= ∀(m:Nat) (pvs:List PV),Fx P m t pvs->∃x:T,LeDs pvs (c x)/\W x/\sz x<=m
theorem N5 {k:IntKind}(ht:P.underlying t=some (.int k)):Jf P t (cI k) (fun n=>(Lit.int k n).wf=true) (fun _=>1):=by
 intro m pvs h;cases h with
 |bool ht'=>rw[ht]at ht';cases ht'
 |str ht'=>rw[ht]at ht';cases ht'
 |slice _ ht'=>rw[ht]at ht';cases ht'
 |arr ht'=>rw[ht]at ht';cases ht'
 |struct ht'=>rw[ht]at ht';cases ht'
 |int ht' hw hm=>rw[ht]at ht';cases ht';exact⟨_,LeDs.refl _,hw,hm⟩
theorem Tx (ht:P.underlying t=some .bool):Jf P t cB (fun _=>True) (fun _=>1):=by
 intro m pvs h;cases h with
 |int ht'=>rw[ht]at ht';cases ht'
 |str ht'=>rw[ht]at ht';cases ht'
 |slice _ ht'=>rw[ht]at ht';cases ht'
 |arr ht'=>rw[ht]at ht';cases ht'
 |struct ht'=>rw[ht]at ht';cases ht'
 |bool ht' hm=>exact⟨_,LeDs.refl _,trivial,hm⟩
theorem OR (ht:P.underlying t=some .string):Jf P t cS (fun _=>True) (fun l=>l.length+1):=by
 intro m pvs h;cases h with
 |int ht'=>rw[ht]at ht';cases ht'
 |bool ht'=>rw[ht]at ht';cases ht'
 |slice _ ht'=>rw[ht]at ht';cases ht'
 |arr ht'=>rw[ht]at ht';cases ht'
 |struct ht'=>rw[ht]at ht';cases ht'
 |str ht' hm=>exact⟨_,LeDs.refl _,trivial,hm⟩
theorem Af {T:Type}[Inhabited T]{c:T->List PV}{W:T->Prop}{sz:T->Nat}{k:Nat}(ht:P.underlying t=some (.slice e))(hk:P.cellsOf e=k)(h:Jf P e c W sz) :Jf P t (cL k c) (fun s=>∀i,i<s.n->W (s.g i)) (fun s=>DU (fun i=>sz (s.g i)) s.n+1):=by
 intro m pvs hs;cases hs with
 |int ht'=>rw[ht]at ht';cases ht'
 |bool ht'=>rw[ht]at ht';cases ht'
 |str ht'=>rw[ht]at ht';cases ht'
 |arr ht'=>rw[ht]at ht';cases ht'
 |struct ht'=>rw[ht]at ht';cases ht'
 | @slice _ _ e' n f ms ht' hl hel hm=>
  rw[ht]at ht';cases ht';obtain⟨g,b⟩:=choose_lt (α:=T) (p:=fun i x=>LeDs (f i) (c x)/\W x/\sz x<=ms i) fun i a=>h _ _ (hel i a);refine⟨⟨n,g⟩,?_,fun i a=>(b i a).2.1,?_⟩
  .subst hk;exact .cons (.sl fun i a=>(b i a).1) .nil
  have h1:=OQ (n:=n) fun i a=>(b i a).2.2;rw[LJ]at hm;show DU (fun i=>sz (g i)) n+1<=m;omega
theorem X8 {fs:Array Field}(ht:P.underlying t=some (.struct fs))(h:Fx P m t pvs):∃m',DY P m' (fs.toList.map (·.type)) pvs/\m' + 1<=m:=by
 cases h with
 |int ht'=>rw[ht]at ht';cases ht'
 |bool ht'=>rw[ht]at ht';cases ht'
 |str ht'=>rw[ht]at ht';cases ht'
 |slice _ ht'=>rw[ht]at ht';cases ht'
 |arr ht'=>rw[ht]at ht';cases ht'
 |struct ht' h hm=>rw[ht]at ht';cases ht';exact⟨_,h,hm⟩
theorem C7 {ts:List TypeId}(h:DY P m (t::ts) pvs):∃a b p q,pvs=p++q/\Fx P a t p/\DY P b ts q/\a+b<=m:=by
 cases h with
 |cons h h' hm=>exact⟨_,_,_,_,rfl,h,h',hm⟩
theorem Bl (h:DY P m [] pvs):pvs=[]:=by cases h;rfl
end
end Go.AM
namespace Go.AM
section
variable {S:Q8}{P:Program}{sc:SC}{k:Env->C4->Prop}{pr:Prop}
end
end Go.AM
namespace Go.AM
section
variable {κ ν : Type}
end
section
variable {S:Q8}{P:Program}{F:I4}{g:Cfg}{pr:Prop}
end
end Go.AM
namespace Go.AM
section
variable {S:Q8}{P:Program}{F:I4}{g:Cfg}{pr:Prop}
def Ag3:Cfg->Option (Prop×FuncId×List AV)
 |.ops all (o::_) _ st=>match Az all st.env o,o.op with
  |some true,.call c=>match c.callee with
   |.value f=>match NO st.env f (c.args.toList.map (aev st.env))with
    |some (fn,as)=>match Ml (NQ st.regs 9) as with
     |some (cs,xs)=>some (C8 cs,fn,xs.map .p)
     |none=>none
    |none=>none
   |_=>none
  |_,_=>none
 |_=>none
def Ag4 (r:AV):Cfg->Cfg
 |.ops all (o::rest) K st=>Xx o.dst r st.env st.regs fun st=>.ops all rest K st
 |g=>g
theorem Ag5 (hS:F5 S P)(hc:pr){cs:Prop}(d:cs){fn:FuncId}{args:List AV}{r:AV}(j:FunO S fn args [] r [] [])(hk:KG S P F (Ag4 r (stp P g)))
 (hp:pr=C8 (cnd P g):=by kernel_rfl) (a:Ag3 (stp P g)=some (cs,fn,args):=by kernel_rfl) (i:UF r=true:=by kernel_rfl):KG S P F g:=by
 refine⟨CU hS hc ?_ hp⟩;replace hk:=hk.out;generalize stp P g=g' at a hk;unfold Ag3 at a;split at a
 .rename_i all o rest K st;split at a
  .rename_i c l m;split at a
   .rename_i f b;split at a
    .rename_i fn' as hw;split at a
     .rename_i cs' xs hl;simp only[Option.some.injEq,Prod.mk.injEq]at a;obtain⟨rfl,rfl,rfl⟩:=a;simp only[Ag4,Fy]at hk;refine Br hS l ?_;unfold wOp;obtain⟨callee,cargs,types⟩:=c;simp only at b hw;subst b;rw[m];exact .inr (.inr ⟨fn',as,cs',xs,hw,hl,d,hS.monoF _ _ _ _ _ (fun res o k ⟨h1,_,_⟩=>⟨r,h1,i,hk⟩) j⟩)
     cases a
    cases a
   cases a
  cases a
 cases a
end
end Go.AM
