/- Part 5. -/
import Derived.Test.YtnpknmmlpjnpeaaDoorKD
set_option linter.defProp false
set_option linter.unusedSimpArgs false
set_option linter.unusedVariables false
set_option linter.unusedSectionVars false
namespace Go.AM
def Ho {P:Program}{f:FuncId}{vw:Bool}{args:List PV}{e:TypeId}{k n:Nat}{g:Nat->List PV}(t:∀as w,(callFunc f as).run P w=.ok (.enter f as) w)(hk:∀i,i<n->(g i).length=k)
 (h:∀(w:World) (Pi:Nat->Nat->Prop) (vs:Array Value),(∀b off,Pi b off->b<w.heap.size)->vs.size=args.length->(∀i,i<args.length->RepP w Pi (vs.getD i undef) (args.getD i default)) ->
  Calls P f vs w fun x w'=>∃v,x=.returned v/\RowKit.Below w.heap.size w w' /\ ((v=.slice none 0 0/\n=0) \/ ∃b cap c,v=.slice (some ⟨b,0,none⟩) n cap/\w.heap.size<=b/\w'.heap[b]? = some (.cells c e (0,0))/\n<=cap/\c.size=cap*k/\cap<=maxLen /\
   ∀i j,i<n->j<k->RepP w Pi (c.getD (i*k+j) undef) ((g i).getD j default)/\(c.getD (i*k+j) undef).oneCell' = true)):N5 (DT P) f (args.map .p) [] (.vec 0) [.vec e k n g vw] []:=by
 intro 𝒢 C w vs rho hG hs hsz;have y:∀j,A1 (objRegs []) j=none:=fun j=>by simp[objRegs,objRegs.go,A1]
 have h0:=h w (Prv C.X (A1 (objRegs [])) rho) vs (fun b off hp=>by
  rcases hp with hp|⟨j,o,a,_⟩
  .exact hs.hp.bound b off hp
  .simp[y]at a) (by simpa using hsz) (fun i s=>by
  have:=hs.env i
  rw[O4]at this;have e:(args.map AV.p).getD i .top=.p (args.getD i default):=by simp[s]
  rw[e]at this;exact this.toP)
 refine⟨_,_,t _ _,callsIn_wide.2 (h0.mono ?_)⟩;rintro x w' ⟨v,rfl,hb,hv⟩;have hR:∀j o,A1 (objRegs [Obj.vec e k n g vw]) j=some o->j=0/\o=.vec e k n g vw:=fun j o a=>by
  simp only[objRegs,objRegs.go,A1]at a;split at a
  .rename_i hj0;cases a;exact⟨hj0.symm,rfl⟩
  cases a
 have z:A1 (objRegs [Obj.vec e k n g vw]) 0=some (.vec e k n g vw):=rfl
 let rho' : Nat->Value:=fun j=>if j=0 then v else rho j
 have hr0:rho' 0=v:=rfl;have l:∀b,C5 v (.vec e k n g vw) b->w.heap.size<=b/\b<w'.heap.size:=by
  intro b a0;rcases hv with⟨rfl,_⟩ | ⟨b',cap,c,rfl,h1,h2,_⟩
  .cases a0
  cases a0;exact⟨h1,(Array.getElem?_eq_some_iff.1 h2).1⟩
 have a1:∀b o,Prv C.X (A1 (objRegs [Obj.vec e k n g vw])) rho' b o->C.X b o \/ w.heap.size<=b:=by
  rintro b o (hX|⟨j,o',a,d,_⟩)
  .exact .inl hX
  obtain⟨rfl,rfl⟩:=hR j o' a;exact .inr (l b d).1
 have m:Keeps w (Prv C.X (A1 (objRegs [])) rho) w' (Prv C.X (A1 (objRegs [Obj.vec e k n g vw])) rho'):=fun b o u hp hc=>by
  have q:=World.block_lt_of_cell? w ⟨b,o,none⟩ hc;refine⟨by rw[<- hc];exact World.cell?_of_block (hb.block b q),fun hpp=>?_⟩;rcases a1 b o hpp with hX|hge
  .exact hp (.inl hX)
  have:b<w.heap.size:=q
  omega
 refine⟨C,.ret (.vec 0),[.vec e k n g vw],[],rho',hG,⟨rfl,rfl,rfl⟩,?_,⟨v,rfl,?_⟩,fun i s=>by simp at s⟩
 .refine⟨⟨fun j o a=>?_,fun i j oi oj b s a _ _=>by rw[(hR i oi s).1,(hR j oj a).1],fun j o b off a d hX=>?_,fun b off hp=>Nat.lt_of_lt_of_le (hs.hp.bound b off hp) hb.size⟩,hs.ext.trans ⟨hb.os,hb.output⟩,Nat.le_trans hs.size hb.size,fun b q hE=>?_,hs.keep.trans m,fun b d=>?_,fun j r b a=>by cases (hR j _ a).2⟩
  .obtain⟨rfl,rfl⟩:=hR j o a;rw[hr0];rcases hv with hn|⟨b,cap,c,rfl,h1,h2,h3,h4,h5,h6⟩
   .exact .inl hn
   exact .inr ⟨b,cap,c,rfl,h2,h3,h4,h5,hk,fun i j s a=>⟨(h6 i j s a).1.keeps m,(h6 i j s a).2⟩⟩
  .obtain⟨rfl,rfl⟩:=hR j o a;have h1:=(l b d).1;have h2:=hs.hp.bound b off hX;omega
  .rw[hb.block b (Nat.lt_of_lt_of_le q hs.size)];exact hs.same b q hE
  obtain⟨j,o,a,d⟩:=d;obtain⟨rfl,rfl⟩:=hR j o a;exact .inr (Nat.le_trans hs.size (l b d).1)
 rcases hv with⟨rfl,_⟩ | ⟨b,cap,c,rfl,_⟩
 .exact .vec 0 none 0 0 (by simp[Lv,z]) rfl
 exact .vec 0 _ n cap (by simp[Lv,z]) rfl
end Go.AM
namespace Go.AM
open Go.RowKit Go.ChangeShapes Go.Deep
mutual
inductive LeD:PV->PV->Prop
 |refl (x:PV):LeD x x
 |sl {k n:Nat}{f g:Nat->List PV}(h:∀i,i<n->LeDs (f i) (g i)):LeD (.sl false k n f) (.sl false k n g)
inductive LeDs:List PV->List PV->Prop
 |nil:LeDs [] []
 |cons {x y:PV}{l r:List PV}(h:LeD x y) (h' : LeDs l r):LeDs (x::l) (y::r)
end
theorem LeDs.refl:∀l:List PV,LeDs l l
 |[]=>.nil
 |x::l=>.cons (.refl x) (LeDs.refl l)
theorem LeDs.length {l r:List PV}(h:LeDs l r):l.length=r.length:=by
 induction l generalizing r with
 |nil=>cases h;rfl
 |cons x l ih=>cases h with|cons _ h'=>simp[ih h']
theorem LeDs.get {l r:List PV}(h:LeDs l r):∀i,LeD (l.getD i default) (r.getD i default):=by
 induction l generalizing r with
 |nil=>cases h;exact fun i=>.refl _
 |cons x l ih=>
  cases h with
  |cons h h'=>
   intro i;cases i with
   |zero=>exact h
   |succ i=>simpa using ih h' i
theorem LeDs.append {a b c d:List PV}(h:LeDs a b)(h' : LeDs c d):LeDs (a++c) (b++d):=by
 induction a generalizing b with
 |nil=>cases h;exact h'
 |cons x l ih=>cases h with|cons h1 h2=>exact .cons h1 (ih h2)
theorem RepP.leD {w:World}{Pi:Nat->Nat->Prop}{v:Value}{x:PV}(h:RepP w Pi v x):∀{y:PV},LeD x y->RepP w Pi v y:=by
 induction h with
 |slnil k f=>intro y hy;cases hy with
  |refl=>exact .slnil _ _
  |sl h=>exact .slnil _ _
 |sl nn b off cap k n f c hn hk hc h sp hsp ih=>
  intro y hy;cases hy with
  |refl=>exact .sl nn b off cap k n f c hn hk hc h sp hsp
  |sl h'=>exact .sl false b off cap k n _ c hn (fun i d=>by rw[<- (h' i d).length];exact hk i d) hc (fun i j d g=>ih i j d g ((h' i d).get j)) sp hsp
 |v x=>intro y hy;cases hy;exact .v x
 |bb b=>intro y hy;cases hy;exact .bb b
 |str l=>intro y hy;cases hy;exact .str l
 |agg vs cs hs h1 h ih=>intro y hy;cases hy;exact .agg vs cs hs h1 h
 |ptr b off cs c hc h ih=>intro y hy;cases hy;exact .ptr b off cs c hc h
 |iface t x a h ih=>intro y hy;cases hy;exact .iface t x a h
 |fn f x y a b hx hy ha hb iha ihb=>intro y hy;cases hy;exact .fn f x _ a b hx ‹_› ha hb
theorem CRep.leD {W:World}{cs:List Value}{p q:List PV}(h:CRep W cs p)(hl:LeDs p q):CRep W cs q:=
 ⟨by rw[h.1,hl.length],fun i a=>⟨(h.2 i (by rw[hl.length];exact a)).1.leD (hl.get i),(h.2 i (by rw[hl.length];exact a)).2⟩⟩
section
variable {P:Program}{t e:TypeId}{m:Nat}{pvs:List PV}
def Gp (f:Nat->Nat):Nat->Nat
 |0=>0
 |k+1=>Gp f k+f k
theorem Pt (f:Nat->Nat){k n:Nat}(h:k<=n):Gp f k<=Gp f n:=by
 induction h with
 |refl=>exact Nat.le_refl _
 |step _ ih=>simp only[Gp];omega
theorem Pu (f:Nat->Nat){k n:Nat}(h:k<n):f k<=Gp f n:=by
 have:=Pt f (show k+1<=n from h)
 simp only[Gp]at this;omega
theorem Hq {f g:Nat->Nat}:∀{n:Nat},(∀i,i<n->f i<=g i)->Gp f n<=Gp g n
 |0,_=>Nat.le_refl _
 |n+1,h=>by have h1:=Hq (n:=n) fun i a=>h i (by omega);have b:=h n (by omega);simp only[Gp];omega
theorem JZ (f:Nat->Nat):∀n,Hy ((List.range n).map f)=Gp f n:=by
 have app:∀a b:List Nat,Hy (a++b)=Hy a+Hy b:=by
  intro a b
  induction a with
  |nil=>simp[Hy]
  |cons x r ih=>simp only[List.cons_append,He,ih];omega
 intro n
 induction n with
 |zero=>rfl
 |succ n ih=>rw[List.range_succ,List.map_append,app,ih];simp[Gp,Hy]
def Ka (P:Program)(t:TypeId){T:Type}(c:T->List PV)(W:T->Prop)(sz:T->Nat):Prop:= ∀(m:Nat) (pvs:List PV),BV P m t pvs->∃x:T,LeDs pvs (c x)/\W x/\sz x<=m
theorem Hr {k:IntKind}(ht:P.underlying t=some (.int k)):Ka P t (cI k) (fun n=>(Lit.int k n).wf=true) (fun _=>1):=by
 intro m pvs h;cases h with
 |bool ht'=>rw[ht]at ht';cases ht'
 |str ht'=>rw[ht]at ht';cases ht'
 |slice _ ht'=>rw[ht]at ht';cases ht'
 |arr ht'=>rw[ht]at ht';cases ht'
 |struct ht'=>rw[ht]at ht';cases ht'
 |int ht' hw hm=>rw[ht]at ht';cases ht';exact⟨_,LeDs.refl _,hw,hm⟩
theorem Gt (ht:P.underlying t=some .string):Ka P t cS (fun _=>True) (fun l=>l.length+1):=by
 intro m pvs h;cases h with
 |int ht'=>rw[ht]at ht';cases ht'
 |bool ht'=>rw[ht]at ht';cases ht'
 |slice _ ht'=>rw[ht]at ht';cases ht'
 |arr ht'=>rw[ht]at ht';cases ht'
 |struct ht'=>rw[ht]at ht';cases ht'
 |str ht' hm=>exact⟨_,LeDs.refl _,trivial,hm⟩
theorem HA {T:Type}[Inhabited T]{c:T->List PV}{W:T->Prop}{sz:T->Nat}{k:Nat}(ht:P.underlying t=some (.slice e))(hk:P.cellsOf e=k)(h:Ka P e c W sz) :Ka P t (cL k c) (fun s=>∀i,i<s.n->W (s.g i)) (fun s=>Gp (fun i=>sz (s.g i)) s.n+1):=by
 intro m pvs hs;cases hs with
 |int ht'=>rw[ht]at ht';cases ht'
 |bool ht'=>rw[ht]at ht';cases ht'
 |str ht'=>rw[ht]at ht';cases ht'
 |arr ht'=>rw[ht]at ht';cases ht'
 |struct ht'=>rw[ht]at ht';cases ht'
 | @slice _ _ e' n f ms ht' hl hel hm=>
  rw[ht]at ht';cases ht';obtain⟨g,b⟩:=choose_lt (α:=T) (p:=fun i x=>LeDs (f i) (c x)/\W x/\sz x<=ms i) fun i a=>h _ _ (hel i a);refine⟨⟨n,g⟩,?_,fun i a=>(b i a).2.1,?_⟩
  .subst hk;exact .cons (.sl fun i a=>(b i a).1) .nil
  have h1:=Hq (n:=n) fun i a=>(b i a).2.2;rw[JZ]at hm;show Gp (fun i=>sz (g i)) n+1<=m;omega
theorem DE {fs:Array Field}(ht:P.underlying t=some (.struct fs))(h:BV P m t pvs):∃m',Bb P m' (fs.toList.map (·.type)) pvs/\m' + 1<=m:=by
 cases h with
 |int ht'=>rw[ht]at ht';cases ht'
 |bool ht'=>rw[ht]at ht';cases ht'
 |str ht'=>rw[ht]at ht';cases ht'
 |slice _ ht'=>rw[ht]at ht';cases ht'
 |arr ht'=>rw[ht]at ht';cases ht'
 |struct ht' h hm=>rw[ht]at ht';cases ht';exact⟨_,h,hm⟩
theorem AB {ts:List TypeId}(h:Bb P m (t::ts) pvs):∃a b p q,pvs=p++q/\BV P a t p/\Bb P b ts q/\a+b<=m:=by
 cases h with
 |cons h h' hm=>exact⟨_,_,_,_,rfl,h,h',hm⟩
theorem Fw (h:Bb P m [] pvs):pvs=[]:=by cases h;rfl
end
end Go.AM
namespace Go.AM
section
variable {S:T3}{P:Program}{sc:SC}{k:Env->B4->Prop}{pr:Prop}
end
end Go.AM
namespace Go.AM
section
variable {κ ν : Type}
def Cr (eq : κ -> κ -> Bool)(k : κ)(z : ν):List (κ × ν)->Nat × ν×List (κ × ν)
 |[]=>(0,z,[(k,z)])
 |(a,v)::es=>if eq k a then (0,v,(k,v)::es)else ((Cr eq k z es).1+1,(Cr eq k z es).2.1,(a,v)::(Cr eq k z es).2.2)
def PN:List (κ × ν)->Nat -> ν -> List (κ × ν)
 |[],_,_=>[]
 |(a,_)::es,0,v=>(a,v)::es
 |p::es,n+1,v=>p::PN es n v
theorem Gk {kP : κ -> PV}{vP : ν -> PV}{cmp:PV->PV->Option Bool}{eq : κ -> κ -> Bool}(hc:∀a b,cmp (kP a) (kP b)=some (eq a b))(k : κ)(z : ν):∀es:List (κ × ν),
 ∃q,Z0 cmp (kP k) (A8 kP vP es)=some q/\ent (kP k) (vP z) (A8 kP vP es) q=((Cr eq k z es).1,vP (Cr eq k z es).2.1,A8 kP vP (Cr eq k z es).2.2)
 |[]=>⟨none,rfl,rfl⟩
 |(a,v)::es=>by
  have e0:A8 kP vP ((a,v)::es)=(kP a,vP v)::A8 kP vP es:=rfl;rw[e0];simp only[Z0,hc,Cr];cases h:eq k a
  .obtain⟨q,h1,c⟩:=Gk (vP:=vP) hc k z es;refine⟨q.map (· + 1),by simp[h1],?_⟩;cases q with
   |none=>simp only[ent,Prod.mk.injEq]at c;simp only[ent,Option.map_none,Bool.false_eq_true,By,List.length_cons,Prod.mk.injEq];refine⟨by rw[c.1],c.2.1,?_⟩;rw[List.cons_append,c.2.2];rfl
   |some j=>simp only[ent,Prod.mk.injEq]at c;simp only[ent,Option.map_some,Bool.false_eq_true,By,Prod.mk.injEq];refine⟨by rw[c.1],by simpa using c.2.1,?_⟩;rw[List.getD_cons_succ,List.set_cons_succ,c.2.2];rfl
  exact⟨some 0,rfl,rfl⟩
theorem Ey (eq : κ -> κ -> Bool)(k : κ)(z : ν):∀es:List (κ × ν),(Cr eq k z es).1<(Cr eq k z es).2.2.length
 |[]=>by simp[Cr]
 |(a,v)::es=>by
  have:=Ey eq k z es
  simp only[Cr];split<;>simp<;>omega
theorem Ez {kP : κ -> PV}{vP : ν -> PV}:∀(es:List (κ × ν)) (i:Nat) (v : ν),i<es.length->Og (A8 kP vP es) i (vP v)=A8 kP vP (PN es i v)
 |[],i,v,h=>Bw h (by simp)
 |(a,x)::es,0,v,h=>rfl
 |p::es,n+1,v,h=>by have ih:=Ez (kP:=kP) (vP:=vP) es n v (by simpa using h);have e0:A8 kP vP (p::es)=(kP p.1,vP p.2)::A8 kP vP es:=rfl;have e1:A8 kP vP (PN (p::es) (n+1) v)=(kP p.1,vP p.2)::A8 kP vP (PN es n v):=rfl;rw[e0,e1,<- ih];simp only[Og,List.getD_cons_succ,List.set_cons_succ]
theorem EA (eq : κ -> κ -> Bool)(k : κ)(z v : ν):∀es:List (κ × ν),PN (Cr eq k z es).2.2 (Cr eq k z es).1 v=DR eq k v es
 |[]=>rfl
 |(a,x)::es=>by
  have ih:=EA eq k z v es;simp only[Cr,DR];by_cases h:eq k a=true
  .simp only[h,Bx];rfl
  simp only[h,By,Bool.false_eq_true];show (a,x)::PN (Cr eq k z es).2.2 (Cr eq k z es).1 v=_;rw[ih]
end
section
variable {S:T3}{P:Program}{F:I6}{g:Cfg}{pr:Prop}
structure EntI where
 kt:TypeId
 key:PV
 z:PV
 es:List (PV×PV)
end
end Go.AM
namespace Go.AM
section
variable {S:T3}{P:Program}{F:I6}{g:Cfg}{pr:Prop}
def QF:Cfg->Option (Prop×FuncId×List AV)
 |.ops all (o::_) _ st=>match Y1 all st.env o,o.op with
  |some true,.call c=>match c.callee with
   |.value f=>match Gw st.env f (c.args.toList.map (aev st.env))with
    |some (fn,as)=>match FH (Gx st.regs 9) as with
     |some (cs,xs)=>some (B9 cs,fn,xs.map .p)
     |none=>none
    |none=>none
   |_=>none
  |_,_=>none
 |_=>none
def NW (e:TypeId)(m n:Nat)(g:Nat->List PV):Cfg->Cfg
 |.ops all (o::rest) K st=>MN o.dst (.vec (nid (o.dst.getD 0) 0)) st.env (ins (nid (o.dst.getD 0) 0) (.vec e m n g false) st.regs) fun st=>.ops all rest K st
 |g=>g
def Jh:Cfg->Bool
 |.ops _ (o::_) _ st=>(A1 st.regs (nid (o.dst.getD 0) 0)).isNone
 |_=>false
theorem Pv (hS:H4 S P)(hc:pr){cs:Prop}(j:cs){fn:FuncId}{args:List AV}{e1:TypeId}{m n:Nat}{f1:Nat->List PV}(r:N5 S fn args [] (.vec 0) [.vec e1 m n f1 false] [])(q:∀i l,i<n->l<m->HC ((f1 i).getD l default)=true)(hk:KG S P F (NW e1 m n f1 (stp P g)))
 (hp:pr=B9 (cnd P g):=by kernel_rfl) (a:QF (stp P g)=some (cs,fn,args):=by kernel_rfl) (b:Jh (stp P g)=true:=by kernel_rfl):KG S P F g:=by
 refine⟨BZ hS hc ?_ hp⟩;replace hk:=hk.out;generalize stp P g=g' at a hk b;unfold QF at a;split at a
 .rename_i all o rest K st;split at a
  .rename_i c s t;split at a
   .rename_i f d;split at a
    .rename_i fn' as hw;split at a
     .rename_i cs' xs hl;simp only[Option.some.injEq,Prod.mk.injEq]at a;obtain⟨rfl,rfl,rfl⟩:=a;simp only[NW,BX]at hk;refine AY hS s ?_;unfold wOp;obtain⟨callee,cargs,types⟩:=c;simp only at d hw;subst d;rw[t];exact .inr (.inr ⟨fn',as,cs',xs,hw,hl,j,hS.monoF _ _ _ _ _ (fun res o k ⟨h1,u,_⟩=>.inr ⟨_,_,_,_,h1,u,q,by simpa[Jh]using b,hk⟩) r⟩)
     cases a
    cases a
   cases a
  cases a
 cases a
end
end Go.AM
namespace Go.AM
section
variable {S:T3}{P:Program}{pr:Prop}{sc:SC}{k:Env->B4->Prop}
def Nj (P:Program)(sc:SC):Option EntI:=match sc.cls,sc.rest with
 |cl::_,o::_=>match O6 sc.all sc.env o,o.op,Hb cl sc.env (o.dst.getD 0) o.op with
  |some true,.mapEntry t m k,true=>match aev sc.env k,aev sc.env m with
   |.p key,.mref j=>match A1 sc.regs j,tk P t with
    |some (.map es),some (.map kt e)=>match AU P e with
     |some z=>if An P kt (nP key) then some ⟨kt,nP key,z,es⟩else none
     |none=>none
    |_,_=>none
   |_,_=>none
  |_,_,_=>none
 |_,_=>none
def QG (i:Nat)(y:PV)(es' : List (PV×PV))(sc:SC):SC:=match sc.rest with
 |o::rest=>match o.op with
  |.mapEntry _ m _=>match aev sc.env m with
   |.mref j=>NL o.dst (.tup [.p y,.p (pI .i64 i)]) sc.env (ins j (.map es') sc.regs) fun env regs=>⟨sc.all,sc.cls.tail,rest,env,regs,sc.kn⟩
   |_=>sc
  |_=>sc
 |[]=>sc
theorem LC (hc:pr){kt:TypeId}{key z y:PV}{es es' : List (PV×PV)}{i:Nat}(b:∃q,Z0 (Ct P kt) key es=some q/\ent key z es q=(i,y,es'))(d:B9 (Co P kt))(hk:DG S P (QG i y es' (Ay P sc)) k)
 (hp:pr=B9 (IY P sc):=by kernel_rfl) (a:Nj P (Ay P sc)=some ⟨kt,key,z,es⟩:=by kernel_rfl):DG S P sc k:=by
 refine⟨Ph hc ?_ hp⟩;obtain⟨q,b,r⟩:=b;replace hk:=hk.out;generalize Ay P sc=s at a hk;obtain⟨all,cls,rest,env,regs,kn⟩:=s;cases rest with
 |nil=>cases cls<;>simp[Nj]at a
 |cons o rest=>
  cases cls with
  |nil=>simp[Nj]at a
  |cons cl cls=>
   simp only[Nj]at a;split at a
   .rename_i t m kk u l f;split at a
    .rename_i kp j h1 n;split at a
     .rename_i es0 kt0 e0 w ht;split at a
      .rename_i z0 x;split at a
       .rename_i g;simp only[Option.some.injEq,EntI.mk.injEq]at a;obtain⟨rfl,rfl,rfl,rfl⟩:=a;simp only[QG,l,n,Bd,List.tail_cons]at hk;refine IQ (c:=Co P kt0) (v:=.tup [.p y,.p (pI .i64 i)]) (regs':=ins j (.map es') regs) u ?_ d f hk;rw[l];simp only[aop,ht,n,h1,w,x,g,b,r]
       cases a
      cases a
     cases a
    cases a
   cases a
def Nk (sc:SC):Option (Int×PV×List (PV×PV)):=match sc.cls,sc.rest with
 |cl::_,o::_=>match O6 sc.all sc.env o,o.op,Hb cl sc.env (o.dst.getD 0) o.op with
  |some true,.entryStore _ m s x,true=>match aev sc.env m,asInt (aev sc.env s),T5 sc.regs (aev sc.env x)with
   |.mref j,some s,some (y,regs)=>match A1 regs j with
    |some (.map es)=>some (s,y,es)
    |_=>none
   |_,_,_=>none
  |_,_,_=>none
 |_,_=>none
def QH (es' : List (PV×PV))(sc:SC):SC:=match sc.rest with
 |o::rest=>match o.op with
  |.entryStore _ m s x=>match aev sc.env m,T5 sc.regs (aev sc.env x)with
   |.mref j,some (_,regs)=>NL o.dst Cu sc.env (ins j (.map es') regs) fun env regs=>⟨sc.all,sc.cls.tail,rest,env,regs,sc.kn⟩
   |_,_=>sc
  |_=>sc
 |[]=>sc
theorem Ji (hc:pr){i:Nat}{y:PV}{es es' : List (PV×PV)}(r:i<es.length)(g:Og es i y=es')(hk:DG S P (QH es' (Ay P sc)) k)
 (hp:pr=B9 (IY P sc):=by kernel_rfl) (a:Nk (Ay P sc)=some ((i:Int),y,es):=by kernel_rfl):DG S P sc k:=by
 refine⟨Ph hc ?_ hp⟩;replace hk:=hk.out;generalize Ay P sc=s at a hk;obtain⟨all,cls,rest,env,regs,kn⟩:=s;cases rest with
 |nil=>cases cls<;>simp[Nk]at a
 |cons o rest=>
  cases cls with
  |nil=>simp[Nk]at a
  |cons cl cls=>
   simp only[Nk]at a;split at a
   .rename_i t m s x l d b;split at a
    .rename_i j sv y0 regs1 h1 n f;split at a
     .rename_i es0 q;simp only[Option.some.injEq,Prod.mk.injEq]at a;obtain⟨rfl,rfl,rfl⟩:=a;subst g;simp only[QH,d,h1,f,Bd,List.tail_cons]at hk;refine IQ (c:=[0<=(i:Int)/\(i:Int)<(es0.length:Int)]) (v:=Cu) (regs':=ins j (.map (Og es0 i y0)) regs1) l ?_ (show 0<=(i:Int)/\(i:Int)<(es0.length:Int) by omega) b hk;rw[d];simp only[aop,h1,n,f,q];rfl
     cases a
    cases a
   cases a
end
end Go.AM
