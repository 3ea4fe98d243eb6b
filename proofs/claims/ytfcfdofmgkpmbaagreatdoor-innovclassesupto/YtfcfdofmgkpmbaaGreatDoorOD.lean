/- What a law's walk and its plain proof need, part 4: no condition of its own. -/
import Derived.Test.YtfcfdofmgkpmbaaGreatDoorOC
import Derived.KernelRfl
set_option linter.defProp false
set_option linter.unusedSimpArgs false
set_option linter.unusedVariables false
set_option linter.unusedSectionVars false
namespace Go.AM
def AX3:=@List.range_succ
def AY7:=@List.map_append
def AZ2:=@Nat.le_of_ble_eq_true
def Ba7:=@List.mem_map
def Bb4:=@List.mem_singleton
def Bd4:=@Nat.blt_eq
def Bk1:=@List.tail_cons
section
variable {S:AD}{P:Program}
theorem UH {d:Option Nat}{k k' : St->Prop}{Q Q' : K4}(hk:∀s,k s->k' s)(b:∀e s,Q e s->Q' e s)(r:LR)(s:St)(h:Kw d k Q r s):Kw d k' Q' r s:=by
 cases r with
 |ret a=>exact hk _ h
 |panic x=>exact b _ _ h
theorem LD (hS:H2 S P){o:Oper}{k k' : St->Prop}{Q Q' : K4}(hk:∀s,k s->k' s)(u:∀e s,Q e s->Q' e s){st:St}(h:wOp S P o k Q st):wOp S P o k' Q' st:=by
 have i:∀d ids f args st,Zr S d ids f args st (Kw o.dst k Q)->Zr S d ids f args st (Kw o.dst k' Q'):=by rintro d ids f args st ⟨a,ob,h1,g,l,m,n⟩;exact⟨a,ob,h1,g,l,m,hS.monoF _ _ _ _ _ (fun r o ks ⟨q,v⟩=>⟨q,UH hk u _ _ v⟩) n⟩
 unfold wOp at h⊢;split at h
 ·rcases h with⟨as,regs,f',as',h1,g,ids,l⟩ | ⟨j,xs,regs,ys,rest,h1,g,l,m,n,q⟩
  ·exact .inl ⟨as,regs,f',as',h1,g,ids,i _ _ _ _ _ l⟩
  ·exact .inr ⟨j,xs,regs,ys,rest,h1,g,l,m,n,fun b=>hk _ (q b)⟩
 ·obtain⟨as,regs,t,y,f',h1,g,l,ids,m⟩:=h;exact⟨as,regs,t,y,f',h1,g,l,ids,i _ _ _ _ _ m⟩
 ·obtain⟨t,y,h1,g⟩:=h;exact⟨t,y,h1,u _ _ g⟩
 ·rcases h with⟨out,h1,g,l⟩ | ⟨c,x,h1,g,l⟩
  ·exact .inl ⟨out,h1,g,hk _ l⟩
  ·exact .inr ⟨c,x,h1,g,hk _ l⟩
theorem Gk (hS:H2 S P){all:List Oper}{Q Q' : K4}(a:∀e s,Q e s->Q' e s):∀(rest:List Oper) {st:St},JL S P all rest Q st->JL S P all rest Q' st
 |[],st,h=>a _ _ h
 |o::rest,st,h=>by
  simp only[JL]at h⊢;refine hS.mono _ _ _ (fun t h=>?_) h;split at h
  ·exact LD hS (fun s=>Gk hS a rest) a h
  ·obtain⟨b,h1,c⟩:=h;refine⟨b,h1,?_⟩;split
   ·rename_i hb;rw[if_pos hb]at c;exact LD hS (fun s=>Gk hS a rest) a c
   ·rename_i hb;rw[if_neg hb]at c;exact Gk hS a rest c
theorem Pp (hS:H2 S P){all:List Oper}{o:Oper}{k k' : St->Prop}{Q Q' : K4}(hk:∀s,k s->k' s)(c:∀e s,Q e s->Q' e s){st:St}(h:NV S P all o k Q st):NV S P all o k' Q' st:=by
 unfold NV at h⊢;refine hS.mono _ _ _ (fun t h=>?_) h;split at h
 ·exact LD hS hk c h
 ·obtain⟨b,h1,a⟩:=h;refine⟨b,h1,?_⟩;split
  ·rename_i hb;rw[if_pos hb]at a;exact LD hS hk c a
  ·rename_i hb;rw[if_neg hb]at a;exact hk _ a
theorem Am9 (hS:H2 S P){ops:List Oper}{Q:K4}{st:St}(hm:P.follows .mixedOrders=true)(m:Kx ops=true)(h:S.up st fun s=>Aj1 S P ops Q s):Aj1 S P ops Q st:=by
 refine⟨hm,m,fun D s=>S.up s fun s'=>∃Inv:(Nat->Bool)->St->Prop,Inv D s' /\
  (∀D i s o,Inv D s->ops[i]? = some o->D i=false->(∀e∈o.after.toList,Ek e=true->D e.on=true) ->
   NV S P ops o (Inv fun j=>if j=i then true else D j) Q s) /\
  ∀D s,Inv D s->(∀i,i<ops.length->D i=true)->S.up s (Q .normal),?_,?_,?_⟩
 ·refine hS.mono _ _ _ (fun s hs=>?_) h;obtain⟨_,_,Inv,h1,b,c⟩:=hs;exact⟨Inv,h1,b,c⟩
 ·intro D i s o f n g l
  have:S.up s fun s'=>NV S P ops o (fun t=>S.up t fun t'=>∃Inv:(Nat->Bool)->St->Prop,Inv (fun j=>if j=i then true else D j) t' /\
   (∀D i s o,Inv D s->ops[i]? = some o->D i=false->(∀e∈o.after.toList,Ek e=true->D e.on=true) ->
    NV S P ops o (Inv fun j=>if j=i then true else D j) Q s) /\
   ∀D s,Inv D s->(∀i,i<ops.length->D i=true)->S.up s (Q .normal)) Q s':=by
   refine hS.mono _ _ _ (fun s' a=>?_) f;obtain⟨Inv,h1,b,c⟩:=a;exact Pp hS (fun t ht=>hS.refl _ _ ⟨Inv,ht,b,c⟩) (fun _ _ h=>h) (b D i s' o h1 n g l)
  unfold NV at this⊢;exact hS.trans _ _ this
 ·intro D s f d;refine hS.trans _ _ (hS.mono _ _ _ (fun s' a=>?_) f);obtain⟨Inv,h1,b,c⟩:=a;exact c D s' h1 d
theorem Qu (hS:H2 S P){k k' : St->Prop}{Q Q' : K4}(hk:∀s,k s->k' s)(a:∀e s,Q e s->Q' e s)(e:LQ)(s:St)(h:thn S k Q e s):thn S k' Q' e s:=by
 cases e with
 |normal=>exact hS.mono _ _ _ hk h
 |_=>exact a _ _ h
theorem Yi (hS:H2 S P){g:Nat}{ts:List Nat}{next:St->Prop}{Q Q' : K4}(a:∀e s,Q e s->Q' e s)(e:LQ)(s:St)(h:El S g ts next Q e s):El S g ts next Q' e s:=by
 cases e with
 |normal=>exact h
 |panic x=>exact h
 |_=>exact hS.mono _ _ _ (fun t ⟨cs,h1,b,c,d⟩=>⟨cs,h1,b,c,a _ _ d⟩) h
theorem BA (hS:H2 S P):∀(c:Code) {Q Q' : K4},(∀e s,Q e s->Q' e s)->∀{st:St},awp S P c Q st->awp S P c Q' st
 |.skip,Q,Q',hq,st,h=>hq _ _ h
 |.label _,Q,Q',hq,st,h=>hq _ _ h
 |.region _ ops draw,Q,Q',hq,st,h=>by
  unfold awp at h⊢;split
  ·rename_i hb;rw[if_pos hb]at h;obtain⟨h1,j,Inv,n,q,u⟩:=h;exact⟨h1,j,Inv,n,fun D i s o a b c d=>Pp hS (fun _ h=>h) hq (q D i s o a b c d),fun D s a b=>hS.mono _ _ _ (fun t=>hq _ t) (u D s a b)⟩
  ·rename_i hb;rw[if_neg hb]at h;exact Gk hS hq _ h
 |.seq a b,Q,Q',hq,st,h=>BA hS a (Qu hS (fun s=>BA hS b hq) hq) h
 |.cond c t e,Q,Q',hq,st,h=>by
  obtain⟨b,h1,j⟩:=h;refine⟨b,h1,?_⟩;split
  ·rename_i hb;rw[if_pos hb]at j;exact BA hS t hq j
  ·rename_i hb;rw[if_neg hb]at j;exact BA hS e hq j
 |.block id b,Q,Q',hq,st,h=>BA hS b (fun e s h=>by
  cases e with
  |exit i=>simp only[blk]at h⊢;split at h<;>simp_all
  |_=>exact hq _ _ h) h
 |.loop b,Q,Q',hq,st,h=>by
  obtain⟨X,s,J,m,h1,j⟩:=h;refine⟨X,s,J,m,h1,fun x hx=>BA hS b (fun e t h=>?_) (j x hx)⟩;cases e with
  |normal=>exact h
  |_=>exact hq _ _ h
 |.scope b,Q,Q',hq,st,h=>BA hS b (fun e s h=>by
  cases e with
  |goto l=>exact h
  |_=>exact hq _ _ h) h
 |.exit id,Q,Q',hq,st,h=>hq _ _ h
 |.goto l,Q,Q',hq,st,h=>hq _ _ h
 |.ret,Q,Q',hq,st,h=>hq _ _ h
 |.rangeFunc g ps asg body,Q,Q',hq,st,h=>by
  obtain⟨f,first,caps,as,bs,objs,ids,ts,gh,L,I,Fin,h1,j,n,q,u,h6,h7,h8,h9,w,y,z,a0,a1,a2,a3⟩:=h;refine⟨f,first,caps,as,bs,objs,ids,ts,gh,L,I,Fin,h1,j,n,q,u,h6,h7,h8,h9,w,y,z,a0,?_,?_,a3⟩
  ·intro ys rest s a b c;refine BA hS asg (fun e t h=>?_) (a1 ys rest s a b c);cases e with
   |normal=>exact hS.mono _ _ _ (fun t h=>BA hS body (Yi hS hq) h) h
   |_=>exact h
  ·intro s r a b c d
   have:=a2 s r a b c d
   cases r with
   |ret v=>exact hq _ _ this
   |panic x=>exact hq _ _ this
 |.refuse _,Q,Q',hq,st,h=>h
theorem An0 (hS:H2 S P){F:K4}(a:∀s,S.up s (F .normal)->F .normal s):∀(K:List It) (s:St),S.up s (kp S P K F .normal)->kp S P K F .normal s
 |[],s,h=>a s h
 |.code c::K,s,h=>hS.trans _ _ (hS.mono _ _ _ (fun t h=>h) h)
 |.blk id::K,s,h=>An0 hS a K s h
 |.lp X s' J m n::K,s,h=>hS.trans _ _ h
 |.mid M::K,s,h=>hS.trans _ _ h
 |.scp::K,s,h=>An0 hS a K s h
theorem AL8 (hS:H2 S P){F:K4}(a:∀s,S.up s (F .normal)->F .normal s){K:List It}{M:St->Prop}(b:∀t,M t->G S P F (.pop .normal K t))(e:LQ)(s:St)(h:kp S P (.mid M::K) F e s):kp S P K F e s:=by
 cases e with
 |normal=>exact An0 hS a K s (hS.mono _ _ _ b h)
 |_=>exact h
end
end Go.AM
namespace Go.AM
section
variable {S:AD}{P:Program}{F:K4}{K:List It}{st:St}
theorem WJ (hS:H2 S P){all rest:List Oper}{o:Oper}{t:TypeId}{m k:Operand}{ok:Bool}{key:PV}{regs:D0}{j:Nat}{es:List (PV×PV)}{kt e:TypeId}{x:PV}{b:Bool}{fd:Option PV}
 (i:CV all st.env o=some true) (f:o.op=.lookup t m k ok) (l:Iz st.regs (aev st.env k)=some (key,regs)) (hm:aev st.env m=.mref j) (n:A1 regs j=some (.map es))
 (ht:tk P t=some (.map kt e)) (hk:Lf P kt key=true) (q:find (NU P kt) key es=some fd) (hx:(match fd with|some x=>some (x,true)|none=>(LP P e).map fun z=>(z,false))=some (x,b)) (hc:D6 (PY P kt))
 (hn:G S P F (.ops all rest K (put { st with regs:=regs } o.dst (if ok then .tup [.p x,.bool b]else .p x)))):G S P F (.ops all (o::rest) K st):=by
 refine Au8 hS (out:=⟨PY P kt,if ok then .tup [.p x,.bool b]else .p x,regs⟩) i ?_ (fun c a=>by rw[f]at a;cases a) (fun x d=>by rw[f]at d;cases d) hc hn;rw[f];simp only[aop,l,hm,JQ,ht,hk,n,q];cases fd with
 |some y=>simp only[AS5,AV2]at hx;obtain⟨rfl,rfl⟩:=hx;rfl
 |none=>
  simp only at hx⊢;cases g:LP P e with
  |none=>simp[g]at hx
  |some z=>simp only[g,AT3,AS5,AV2]at hx;obtain⟨rfl,rfl⟩:=hx;rfl
theorem UI (hS:H2 S P){all rest:List Oper}{o:Oper}{t:TypeId}{m k x:Operand}{key y:PV}{regs:D0}{j:Nat}{es es' : List (PV×PV)}{kt e:TypeId}
 (g:CV all st.env o=some true) (d:o.op=.mapUpdate t m k x) (f:aev st.env k=.p key) (i:Iz st.regs (aev st.env x)=some (y,regs)) (hm:aev st.env m=.mref j) (l:A1 regs j=some (.map es))
 (ht:tk P t=some (.map kt e)) (hk:Lf P kt (nP key)=true) (n:upd (NU P kt) (nP key) y es=some es') (hc:D6 (PY P kt))
 (hn:G S P F (.ops all rest K (put { st with regs:=ins j (.map es') regs } o.dst XE))):G S P F (.ops all (o::rest) K st):=by
 refine Au8 hS (out:=⟨PY P kt,XE,ins j (.map es') regs⟩) g ?_ (fun c a=>by rw[d]at a;cases a) (fun x b=>by rw[d]at b;cases b) hc hn;rw[d];simp only[aop,i,hm,f,ht,hk,l,n]
end
end Go.AM
namespace Go.AM
abbrev Str:=List UInt8
structure Sl (α : Type) where
 n:Nat
 g:Nat -> α
instance {α : Type} [Inhabited α]:Inhabited (Sl α):=⟨⟨0,fun _=>default⟩⟩
namespace Sl
variable {α : Type}
def toList (s:Sl α):List α:=(List.range s.n).map s.g
abbrev nil [Inhabited α]:Sl α:=⟨0,fun _=>default⟩
abbrev rep (n:Nat)(a : α):Sl α:=⟨n,fun _=>a⟩
abbrev sub (s:Sl α)(a b:Nat):Sl α:=⟨b-a,fun i=>s.g (a+i)⟩
abbrev drop (s:Sl α)(a:Nat):Sl α:=⟨s.n-a,fun i=>s.g (a+i)⟩
abbrev take (s:Sl α)(b:Nat):Sl α:=⟨b,s.g⟩
abbrev push (s:Sl α)(a : α):Sl α:=⟨s.n+1,fun i=>if i<s.n then s.g i else a⟩
abbrev app (s t:Sl α):Sl α:=⟨s.n+t.n,fun i=>if i<s.n then s.g i else t.g (i-s.n)⟩
abbrev upd (s:Sl α)(k:Nat)(a : α):Sl α:=⟨s.n,fun i=>if i=k then a else s.g i⟩
abbrev of [Inhabited α](l:List α):Sl α:=⟨l.length,fun i=>l.getD i default⟩
end Sl
abbrev vSl {α : Type}(k:Nat)(c : α -> List PV)(s:Sl α):PV:=.sl false k s.n fun i=>c (s.g i)
abbrev pI (k:IntKind)(n:Int):PV:=.v (.int k n)
abbrev Ap (l:Str)(i:Int):Int:=(((l.getD i.toNat 0).toNat:Nat):Int)
abbrev pN (n:Int):AV:=.p (.v (.int .i64 n))
abbrev pU (n:Int):AV:=.p (.v (.int .u32 n))
abbrev pB (b:Bool):AV:=.p (.bb b)
abbrev F9:PV:=.v (.slice none 0 0)
section
variable {R:Type}
def V9 {A:Type}(N:Nat)(body:(A->Option R)->A->Option R):A->Option R:=match N with
 |0=>fun _=>none
 |N+1=>fun a=>body (V9 N body) a
variable {A B C D E F G H:Type}
def P4 (N:Nat)(body:(A->B->Option R)->A->B->Option R)(a:A)(b:B):Option R:=V9 N (fun c x=>body (fun a b=>c (a,b)) x.1 x.2) (a,b)
def Aa6 (N:Nat)(body:(A->B->C->Option R)->A->B->C->Option R)(a:A)(b:B)(c:C):Option R:=V9 N (fun d x=>body (fun a b c=>d (a,b,c)) x.1 x.2.1 x.2.2) (a,b,c)
def An1 (N:Nat)(body:(A->B->C->D->Option R)->A->B->C->D->Option R)(a:A)(b:B)(c:C)(d:D):Option R:=V9 N (fun f x=>body (fun a b c d=>f (a,b,c,d)) x.1 x.2.1 x.2.2.1 x.2.2.2) (a,b,c,d)
theorem AH {N:Nat}{body:(A->Option R)->A->Option R}{a:A}:V9 (N+1) body a=body (V9 N body) a:=rfl
theorem D8 {N:Nat}{body:(A->B->Option R)->A->B->Option R}{a:A}{b:B}:P4 (N+1) body a b=body (P4 N body) a b:=rfl
theorem U2 {N:Nat}{body:(A->B->C->D->Option R)->A->B->C->D->Option R}{a:A}{b:B}{c:C}{d:D}:An1 (N+1) body a b c d=body (An1 N body) a b c d:=rfl
def lt {K:Type}(k:K)(f:K->Option R):Option R:=f k
end
section
variable {R X Y:Type}{r:R}
theorem itT {b:Bool}{x y:Option R}(hb:b=true)(h:(if b then x else y)=some r):x=some r:=by rwa [if_pos hb]at h
theorem itF {b:Bool}{x y:Option R}(hb:b=false)(h:(if b then x else y)=some r):y=some r:=by rwa [if_neg (by simp[hb])]at h
theorem F4 {p:Prop}[Decidable p]{x:Option R}(h:(if p then x else none)=some r):p/\x=some r:=by
 split at h
 ·exact⟨by assumption,h⟩
 ·cases h
theorem B9 {x:Option X}{f:X->Option R}(h:x.bind f=some r):∃a,x=some a/\f a=some r:=Ba5.1 h
theorem C4 {a b:R}(h:some a=some b):a=b:=AV6 h
end
section
variable {S:AD}{P:Program}{F:K4}{K:List It}{st:St}
theorem A6 (hS:H2 S P){n:Nat}{rs:List ResultVar}{Q:LR->List Obj->List Bool->Prop}(s:St)(h:S.up s (Cv S P n rs Q .normal)):Cv S P n rs Q .normal s:=hS.trans _ _ h
theorem AL9 (hS:H2 S P){b:Code}{R A:Type}{body:(A->Option R)->A->Option R}{N:Nat}{a0:A}{r:R}(h:V9 N body a0=some r)(s:A->St)(ids:List (Nat×Nat))(hle:Le ids st (s a0))
 (d:∀(X:Type) (s' : X->St) (J:X->Prop) (m:X->Nat) (n:Nat) (c:A->Option R) (a:A),(∀st ids a,Le ids st (s a)->c a=some r->G S P F (.pop .normal (.lp X s' J m n::K) st))->body c a=some r->G S P F (.code b (.lp X s' J m n::K) (s a))) :
 G S P F (.code (.loop b) K st):=by
 refine Au9 hS (X:=Nat×A) (fun x=>s x.2) (fun x=>V9 x.1 body x.2=some r) (fun x=>x.1) (N,a0) ids hle h ?_;rintro⟨n,a⟩ hx;cases n with
 |zero=>cases hx
 |succ n=>exact d _ _ _ _ _ (V9 n body) a (fun st ids a hle h=>ZA hS (n,a) ids hle h (Nat.lt_succ_self n)) hx
theorem Aa7 (hS:H2 S P){all rest:List Oper}{o:Oper}(t:St)(ids:List (Nat×Nat))(hle:Le ids st t)(h:G S P F (.ops all (o::rest) K t)):G S P F (.ops all (o::rest) K st):=
 RR hS (hS.le ids _ _ _ hle h)
end
theorem pm:(∀b,(true||b)=true)/\(∀b,(b||true)=true)/\(∀b,(false||b)=b)/\(∀b,(b||false)=b)/\(∀b,(true&&b)=b)/\(∀b,(b&&true)=b)/\(∀b,(false&&b)=false)/\(∀b,(b&&false)=false)/\((!true)=false)/\((!false)=true)/\((false=true)=False)/\((true=true)=True):=by refine⟨?_,?_,?_,?_,?_,?_,?_,?_,?_,?_,?_,?_⟩<;>simp
section
variable {regs:D0}{ids:List (Nat×Nat)}
variable {env r:Env}{t:Nat}{a b:AV}{x y:PV}
theorem eP (b:get env t=a)(h:viewP regs a=some y)(h' : LW regs ids env r):LW regs ids env ((t,.p y)::r):=Av0 b (le_p h) h'
theorem eM {i j:Nat}(a:get env t=.mref i)(h:lk ids j=some i)(h' : LW regs ids env r):LW regs ids env ((t,.mref j)::r):=Av0 a (ZB h) h'
theorem Ms {α : Type}{c : α -> List PV}{n:Nat}{v:Sl α}{f:Nat->List PV}{z cs:List PV}{x : α}(h:∀i,i<n->f i=c (v.g i))(hn:n=v.n)(hx:cs=c x):∀i,i<n+1->BW n f (F0 z [(0,cs)]) i=c ((v.push x).g i):=by
 subst hn hx;intro i a;show (if i<v.n then f i else F0 z [(0,c x)] (i-v.n))=c (if i<v.n then v.g i else x);split
 ·exact h i ‹_›
 ·obtain rfl:i=v.n:=by omega
  simp[F0]
theorem AR5 {α : Type}{c : α -> List PV}{n m:Nat}{v w:Sl α}{f g:Nat->List PV}(h:∀i,i<n->f i=c (v.g i))(hn:n=v.n)(h' : ∀i,i<m->g i=c (w.g i))(hm:m=w.n):∀i,i<n+m->BW n f g i=c ((v.app w).g i):=by
 subst hn hm;intro i a;show (if i<v.n then f i else g (i-v.n))=c (if i<v.n then v.g i else w.g (i-v.n));split
 ·exact h i ‹_›
 ·exact h' _ (by omega)
theorem AM0 {α : Type}{c : α -> List PV}{n k:Nat}{v:Sl α}{f:Nat->List PV}{e:Nat->List PV}{x : α}(h:∀i,i<n->f i=c (v.g i))(hx:k<n->e k=c x):∀i,i<n->(fun l=>if l=k then e l else f l) i=c ((v.upd k x).g i):=by
 intro i a;show (if i=k then e i else f i)=c (if i=k then x else v.g i);split
 ·subst_vars;exact hx a
 ·exact h i a
theorem same {n:Nat}{f:Nat->List PV}:∀i,i<n->f i=f i:=fun _ _=>rfl
end
end Go.AM
namespace Go.AM
abbrev cI (k:IntKind)(n:Int):List PV:=[.v (.int k n)]
abbrev cB (b:Bool):List PV:=[.bb b]
abbrev cS (s:Str):List PV:=[.str s]
abbrev cL {α : Type}(k:Nat)(c : α -> List PV)(s:Sl α):List PV:=[vSl k c s]
section
variable {S:AD}{P:Program}{F:K4}{K:List It}{st:St}
end
section
variable {regs:D0}{ids:List (Nat×Nat)}
theorem le_yf {i j:Nat}(h:lk ids j=some i):leA regs ids (.yf i) (.yf j):=by unfold leA;exact⟨i,h,rfl⟩
theorem AM1 {l m:List AV}(h:leL regs ids l m):leA regs ids (.tup l) (.tup m):=by unfold leA;exact⟨l,rfl,h⟩
theorem AM2 {l m:List AV}(h:leL regs ids l m):leA regs ids (.agr l) (.agr m):=by unfold leA;exact⟨l,rfl,h⟩
end
end Go.AM
namespace Go.AM
def Li {κ ν : Type}(kP : κ -> PV)(vP : ν -> PV)(es:List (κ × ν)):List (PV×PV):=es.map fun p=>(kP p.1,vP p.2)
def BS {κ ν : Type}(eq : κ -> κ -> Bool)(k : κ):List (κ × ν)->Option ν
 |[]=>none
 |(a,v)::es=>if eq k a then some v else BS eq k es
def NS {κ ν : Type}(eq : κ -> κ -> Bool)(k : κ)(v : ν):List (κ × ν)->List (κ × ν)
 |[]=>[(k,v)]
 |(a,x)::es=>if eq k a then (k,v)::es else (a,x)::NS eq k v es
theorem UJ {κ ν : Type}(kP : κ -> PV)(vP : ν -> PV)(es:List (κ × ν)):(Li kP vP es).length=es.length:=by simp[Li]
theorem Ds {κ ν : Type}{kP : κ -> PV}{vP : ν -> PV}{cmp:PV->PV->Option Bool}{eq : κ -> κ -> Bool}(hc:∀a b,cmp (kP a) (kP b)=some (eq a b))(k : κ):∀es:List (κ × ν),find cmp (kP k) (Li kP vP es)=some ((BS eq k es).map vP)
 |[]=>rfl
 |(a,v)::es=>by
  show (match cmp (kP k) (kP a)with|some true=>some (some (vP v))|some false=>find cmp (kP k) (Li kP vP es)|none=>none)=some ((BS eq k ((a,v)::es)).map vP);rw[hc];simp only[BS];cases h:eq k a
  ·simpa using Ds hc k es
  ·rfl
theorem IR {κ ν : Type}{kP : κ -> PV}{vP : ν -> PV}{cmp:PV->PV->Option Bool}{eq : κ -> κ -> Bool}(hc:∀a b,cmp (kP a) (kP b)=some (eq a b))(k : κ)(x : ν):∀es:List (κ × ν),upd cmp (kP k) (vP x) (Li kP vP es)=some (Li kP vP (NS eq k x es))
 |[]=>rfl
 |(a,v)::es=>by
  show (match cmp (kP k) (kP a)with|some true=>some ((kP k,vP x)::Li kP vP es)|some false=>(upd cmp (kP k) (vP x) (Li kP vP es)).map ((kP a,vP v) :: ·)|none=>none)=some (Li kP vP (NS eq k x ((a,v)::es)));rw[hc];simp only[NS];cases h:eq k a
  ·simp only[IR hc k x es,AT3,if_false,AT0];rfl
  ·rfl
abbrev eqS (a b:Str):Bool:=a==b
def An2 {X Y:Type}(o:Option X)(a:Y)(f:X->Y):Y:=match o with
 |none=>a
 |some x=>f x
theorem optN {X R:Type}{r:R}{o:Option X}{a:Option R}{f:X->Option R}(b:o=none)(h:An2 o a f=some r):a=some r:=by subst b;exact h
theorem optS {X R:Type}{r:R}{o:Option X}{x:X}{a:Option R}{f:X->Option R}(b:o=some x)(h:An2 o a f=some r):f x=some r:=by subst b;exact h
theorem Sy {X Y:Type}(a:Y)(f:X->Y):An2 none a f=a:=rfl
theorem Aa8 {X Y:Type}(x:X)(a:Y)(f:X->Y):An2 (some x) a f=f x:=rfl
section
variable {R T A B C D:Type}
def iter0 (L:List T)(body:Option R->T->Option R)(k:Option R):Option R:=match L with
 |[]=>k
 |t::L=>body (iter0 L body k) t
def O5 (L:List T)(body:(A->Option R)->T->A->Option R)(k:A->Option R)(a:A):Option R:=match L with
 |[]=>k a
 |t::L=>body (O5 L body k) t a
end
section
variable {S:AD}{P:Program}{F:K4}{K:List It}{st:St}
theorem AB4 (hS:H2 S P){g:Operand}{ps:Array Tmp}{asg body:Code}{f:FuncId}{first caps as bs:List AV}{objs:List Obj}{R T A:Type}{enc:T->List PV}{L:List T}{mb:(A->Option R)->T->A->Option R}{mk:A->Option R}{a0:A}{r:R}
 (ids ts:List Nat) (gh:Nat) (s:A->St) (idl:List (Nat×Nat)) (h:O5 L mb mk a0=some r) (y:Fj S f as bs objs (L.map enc))
 (hp:Ej st.env g=some (f,first,caps)) (j:∃fn,P.funcs[f]? = some fn/\fn.body.isSome=true/\(fn.name == "runtime.NumGoroutine")=false) (l:K5 ids st.regs ids=some objs) (m:EB objs=true) (z:G8 ids=true) (n:Dg ids first=some as) (o:Dg ids caps=some bs) (q:objs.length=ids.length)
 (u:Nat.blt gh 1000=true) (v:A1 st.regs gh=none) (w:Nat.blt ids.length 1000=true) (x:G8 ts=true) (d:∀t:T,(enc t).length=ps.size)
 (hle:Le idl ⟨X3 ts (ts.map (get st.env)),P6 ids (ids.map fun _=>false) st.regs⟩ (s a0)) (hk:∀a,(s a).env.map (·.1)=ts) (hn:∀a,A1 (s a).regs gh=none)
 (b:∀(t:T) (next:St->Prop) (c:A->Option R) (a:A),(∀(st st1:St) (cs:List AV) (idl:List (Nat×Nat)) (a:A),Le idl st st1->A1 st1.regs gh=some (.ghost cs)->cs.length=ts.length->A1 (del gh st1.regs) gh=none->(⟨X3 ts cs,del gh st1.regs⟩:St)=s a->c a=some r->G S P (El S gh ts next (kp S P K F)) (.pop .normal [] st)) ->
  mb c t a=some r->G S P (Bz S P body gh ts next (kp S P K F)) (.code asg [] ⟨ID ps.toList (enc t) (s a).env,ins gh (.ghost ((s a).env.map (·.2))) (s a).regs⟩))
 (i:∀a,mk a=some r->G S P F (.pop .normal K (s a))):G S P F (.code (.rangeFunc g ps asg body) K st):=by
 refine Aa4 hS ids ts gh (L.map enc) s (fun rest a=>∃L',rest=L'.map enc/\O5 L' mb mk a=some r) a0 idl hp j l m z n o q (by simpa[Bd4]using u) v (by simpa[Bd4]using w) x (fun ys hy=>?_) y hle ⟨L,rfl,h⟩ hk hn ?_ ?_
 ·obtain⟨t,_,rfl⟩:=Ba7.1 hy;exact d t
 ·rintro ys rest a ⟨L',hL,hx⟩;cases L' with
  |nil=>cases hL
  |cons t L'=>simp only[AV5,AZ8]at hL;obtain⟨rfl,rfl⟩:=hL;refine b t _ (O5 L' mb mk) a (fun st st1 cs idl a hle h1 h2 h3 h4 h5=>?_) hx;exact UG hS st1 a idl hle h1 h2 h3 h4 ⟨L',rfl,h5⟩
 ·rintro a ⟨L',hL,hx⟩;cases L' with
  |nil=>exact i a hx
  |cons t L'=>cases hL
theorem An3 (hS:H2 S P){g:Operand}{ps:Array Tmp}{asg body:Code}{f:FuncId}{first caps as bs:List AV}{objs:List Obj}{R T A:Type}{enc:T->List PV}{L:List T}{mb:(A->Option R)->T->A->Option R}{mk:A->Option R}{a0:A}{r0:R}
 (ids ts:List Nat) (gh:Nat) (s:A->R->St) (idl:List (Nat×Nat)) (h:O5 L mb mk a0=some r0) (z:Fj S f as bs objs (L.map enc))
 (hp:Ej st.env g=some (f,first,caps)) (j:∃fn,P.funcs[f]? = some fn/\fn.body.isSome=true/\(fn.name == "runtime.NumGoroutine")=false) (l:K5 ids st.regs ids=some objs) (m:EB objs=true) (hd:G8 ids=true) (n:Dg ids first=some as) (o:Dg ids caps=some bs) (q:objs.length=ids.length)
 (u:Nat.blt gh 1000=true) (v:A1 st.regs gh=none) (w:Nat.blt ids.length 1000=true) (y:G8 ts=true) (d:∀t:T,(enc t).length=ps.size)
 (hle:Le idl ⟨X3 ts (ts.map (get st.env)),P6 ids (ids.map fun _=>false) st.regs⟩ (s a0 r0)) (hk:∀a r,(s a r).env.map (·.1)=ts) (hn:∀a r,A1 (s a r).regs gh=none)
 (b:∀(t:T) (next:St->Prop) (c:A->Option R) (a:A) (r:R),(∀(st st1:St) (cs:List AV) (idl:List (Nat×Nat)) (a:A) (r:R),Le idl st st1->A1 st1.regs gh=some (.ghost cs)->cs.length=ts.length->A1 (del gh st1.regs) gh=none->(⟨X3 ts cs,del gh st1.regs⟩:St)=s a r->c a=some r->G S P (El S gh ts next (kp S P K F)) (.pop .normal [] st)) ->
  mb c t a=some r->G S P (Bz S P body gh ts next (kp S P K F)) (.code asg [] ⟨ID ps.toList (enc t) (s a r).env,ins gh (.ghost ((s a r).env.map (·.2))) (s a r).regs⟩))
 (i:∀a r,mk a=some r->G S P F (.pop .normal K (s a r))):G S P F (.code (.rangeFunc g ps asg body) K st):=by
 refine Aa4 hS ids ts gh (L.map enc) (fun x:A×R=>s x.1 x.2) (fun rest x=>∃L',rest=L'.map enc/\O5 L' mb mk x.1=some x.2) (a0,r0) idl hp j l m hd n o q (by simpa[Bd4]using u) v (by simpa[Bd4]using w) y (fun ys hy=>?_) z hle ⟨L,rfl,h⟩ (fun x=>hk x.1 x.2) (fun x=>hn x.1 x.2) ?_ ?_
 ·obtain⟨t,_,rfl⟩:=Ba7.1 hy;exact d t
 ·rintro ys rest ⟨a,r⟩ ⟨L',hL,hx⟩;cases L' with
  |nil=>cases hL
  |cons t L'=>simp only[AV5,AZ8]at hL;obtain⟨rfl,rfl⟩:=hL;refine b t _ (O5 L' mb mk) a r (fun st st1 cs idl a r hle h1 h2 h3 h4 h5=>?_) hx;exact UG hS st1 (a,r) idl hle h1 h2 h3 h4 ⟨L',rfl,h5⟩
 ·rintro⟨a,r⟩ ⟨L',hL,hx⟩;cases L' with
  |nil=>exact i a r hx
  |cons t L'=>cases hL
end
end Go.AM
namespace Go.AM
section
variable {S:AD}{P:Program}{all:List Oper}{k:Env->D0->Prop}
end
end Go.AM
namespace Go.AM
section
variable (P:Program)
def stp (g:Cfg):Cfg:=(run P none 400 [] g).cfg
def cnd (g:Cfg):List Prop:=(run P none 400 [] g).conds
def Gl (d:Nat)(g:Cfg):Cfg:=(run P (some d) 400 [] g).cfg
def AI3 (d:Nat)(g:Cfg):List Prop:=(run P (some d) 400 [] g).conds
def Cfg.st:Cfg->St
 |.code _ _ s=>s
 |.ops _ _ _ s=>s
 |.pop _ _ s=>s
def Cfg.k:Cfg->List It
 |.code _ K _=>K
 |.ops _ _ K _=>K
 |.pop _ K _=>K
def mkO {R:Type _}(env:Env)(regs:D0)(κ : Env->D0->R):R:=fE env fun env=>fR regs fun regs=>κ env regs
theorem EK {R:Type _}(env:Env)(regs:D0)(κ : Env->D0->R):mkO env regs κ = κ env regs:=by simp only[mkO,fE_eq,Ay7]
def Av6 {R:Type _}(d:Option Nat)(a:AV)(env:Env)(regs:D0)(κ : St->R):R:=match d with
 |some d=>mkO (ins d a env) regs fun env regs=>κ ⟨env,regs⟩
 |none=>mkO env regs fun env regs=>κ ⟨env,regs⟩
theorem Ka {R:Type _}(d:Option Nat)(a:AV)(env:Env)(regs:D0)(κ : St->R):Av6 d a env regs κ = κ (put ⟨env,regs⟩ d a):=by cases d<;>simp only[Av6,EK,put]
def An4:Cfg->Option Bool
 |.code (.cond c _ _) _ st=>match aev st.env c with
  |.p (.bb b)=>some b
  |_=>none
 |_=>none
def AB5:Cfg->Cfg
 |.code (.cond _ t _) K st=>.code t K st
 |g=>g
def AB6:Cfg->Cfg
 |.code (.cond _ _ e) K st=>.code e K st
 |g=>g
def WK:Cfg->Option Bool
 |.ops all (o::_) _ st=>match o.guard with
  |some (j,_)=>match AK0 all j with
   |some d=>match get st.env d with
    |.p (.bb b)=>some b
    |_=>none
   |none=>none
  |none=>none
 |_=>none
def Mt (b:Bool):Cfg->Cfg
 |.ops all (o::rest) K st=>match o.guard with
  |some (j,_)=>match AK0 all j with
   |some d=>Av6 (some d) (.p (.v (.bool b))) st.env st.regs fun st=>.ops all (o::rest) K st
   |none=>.ops all (o::rest) K st
  |none=>.ops all (o::rest) K st
 |g=>g
def Yj (ids:List Nat):Cfg->Option (FuncId×List AV×List Obj)
 |.ops all (o::_) _ st=>match CV all st.env o,o.op with
  |some true,.call c=>match c.callee with
   |.value f=>match NP st.regs (c.args.toList.map (aev st.env))with
    |some (as,regs)=>match Ul st.env f as with
     |some (fn,as')=>match Dg ids as',K5 ids regs ids with
      |some a,some ob=>if G8 ids&&EB ob then some (fn,a,ob)else none
      |_,_=>none
     |none=>none
    |none=>none
   |_=>none
  |_,_=>none
 |_=>none
def Yk (ids:List Nat)(ks:List Bool)(n:Nat):Cfg->Bool
 |.ops _ (o::_) _ st=>match o.op with
  |.call c=>match NP st.regs (c.args.toList.map (aev st.env))with
   |some (_,regs)=>Dl regs ids ks (o.dst.getD 0) n
   |none=>false
  |_=>false
 |_=>false
def An5 (ids:List Nat)(ks:List Bool)(r:AV)(objs' : List Obj):Cfg->Cfg
 |.ops all (o::rest) K st=>match o.op with
  |.call c=>match NP st.regs (c.args.toList.map (aev st.env))with
   |some (_,regs)=>Av6 o.dst (unA (P5 (o.dst.getD 0) ids ks objs'.length) r) st.env
    (Ze (P5 (o.dst.getD 0) ids ks objs'.length) (P5 (o.dst.getD 0) ids ks objs'.length) objs' (P6 ids ks regs)) fun st=>.ops all rest K st
   |none=>.ops all (o::rest) K st
  |_=>.ops all (o::rest) K st
 |g=>g
structure LookI where
 kt:TypeId
 e:TypeId
 key:PV
 es:List (PV×PV)
def AB7:Cfg->Option LookI
 |.ops all (o::_) _ st=>match CV all st.env o,o.op with
  |some true,.lookup t m k _=>match Iz st.regs (aev st.env k),aev st.env m with
   |some (key,regs),.mref j=>match A1 regs j,tk P t with
    |some (.map es),some (.map kt e)=>if Lf P kt key then some ⟨kt,e,key,es⟩else none
    |_,_=>none
   |_,_=>none
  |_,_=>none
 |_=>none
def AM3 (e:TypeId):Option PV->Option (PV×Bool)
 |some x=>some (x,true)
 |none=>(LP P e).map fun z=>(z,false)
def AB8 (x:PV)(b:Bool):Cfg->Cfg
 |.ops all (o::rest) K st=>match o.op with
  |.lookup _ _ k ok=>match Iz st.regs (aev st.env k)with
   |some (_,regs)=>Av6 o.dst (if ok then .tup [.p x,.bool b]else .p x) st.env regs fun st=>.ops all rest K st
   |none=>.ops all (o::rest) K st
  |_=>.ops all (o::rest) K st
 |g=>g
def updE:Cfg->Option (TypeId×PV×PV×List (PV×PV))
 |.ops all (o::_) _ st=>match CV all st.env o,o.op with
  |some true,.mapUpdate t m k x=>match aev st.env k,aev st.env m,Iz st.regs (aev st.env x)with
   |.p key,.mref j,some (y,regs)=>match A1 regs j,tk P t with
    |some (.map es),some (.map kt _)=>if Lf P kt (nP key) then some (kt,nP key,y,es)else none
    |_,_=>none
   |_,_,_=>none
  |_,_=>none
 |_=>none
def updK (es' : List (PV×PV)):Cfg->Cfg
 |.ops all (o::rest) K st=>match o.op with
  |.mapUpdate _ m _ x=>match aev st.env m,Iz st.regs (aev st.env x)with
   |.mref j,some (_,regs)=>Av6 o.dst XE st.env (ins j (.map es') regs) fun st=>.ops all rest K st
   |_,_=>.ops all (o::rest) K st
  |_=>.ops all (o::rest) K st
 |g=>g
def KJ:Cfg->Bool
 |.code (.loop _) _ _=>true
 |_=>false
def UK:Cfg->Code
 |.code (.loop b) _ _=>b
 |_=>.skip
def popSt:Cfg->Option St
 |.pop .normal _ st=>some st
 |_=>none
def Sz (M:It):Nat->List It->List It
 |0,K=>M::K
 |n+1,i::K=>i::Sz M n K
 |_+1,[]=>[M]
def AM4 (n:Nat)(M:St->Prop):Cfg->Cfg
 |.code c K st=>.code c (Sz (.mid M) n K) st
 |.ops all rest K st=>.ops all rest (Sz (.mid M) n K) st
 |.pop e K st=>.pop e (Sz (.mid M) n K) st
def Gm:Cfg->Bool
 |.ops _ (_::_) _ _=>true
 |_=>false
def opsS (st:St):Cfg->Cfg
 |.ops all rest K _=>.ops all rest K st
 |g=>g
def AB9:Cfg->Option St
 |.pop .ret [] st=>some st
 |.pop .normal [] st=>some st
 |_=>none
inductive Leaf where
 |eq (x y:PV)
 |fn (n m:Nat) (f g:Nat->List PV)
 |mp (x y:List (PV×PV))
 |yl (x y:List (List PV)) (b c:Bool)
 |nt (a b:Nat)
 |ob (n:Nat) (f g:Nat->Obj)
inductive LV where
 |eq (x:PV)
 |fn (n:Nat) (f:Nat->List PV)
 |mp (x:List (PV×PV))
 |yl (x:List (List PV)) (b:Bool)
 |nt (a:Nat)
 |ob (f:Nat->Obj)
def Leaf.src:Leaf->LV
 |.eq x _=>.eq x
 |.fn n _ f _=>.fn n f
 |.mp x _=>.mp x
 |.yl x _ b _=>.yl x b
 |.nt a _=>.nt a
 |.ob _ f _=>.ob f
def Leaf.tgt:Leaf->LV
 |.eq _ y=>.eq y
 |.fn _ m _ g=>.fn m g
 |.mp _ y=>.mp y
 |.yl _ y _ c=>.yl y c
 |.nt _ b=>.nt b
 |.ob _ _ g=>.ob g
def Leaf.ok:Leaf->Prop
 |.eq x y=>x=y
 |.fn n m f g=>n=m/\∀i,i<n->f i=g i
 |.mp x y=>x=y
 |.yl x y b c=>x=y/\b=c
 |.nt a b=>a=b
 |.ob n f g=>∀i,i<n->f i=g i
theorem Leaf.ok_of {l:Leaf}(h:l.src=l.tgt):l.ok:=by
 cases l with
 |eq x y=>simp only[Leaf.src,Leaf.tgt,LV.eq.injEq]at h;exact h
 |fn n m f g=>simp only[Leaf.src,Leaf.tgt,LV.fn.injEq]at h;obtain⟨rfl,rfl⟩:=h;exact⟨rfl,fun _ _=>rfl⟩
 |mp x y=>simp only[Leaf.src,Leaf.tgt,LV.mp.injEq]at h;exact h
 |yl x y b c=>simp only[Leaf.src,Leaf.tgt,LV.yl.injEq]at h;exact h
 |nt a b=>simp only[Leaf.src,Leaf.tgt,LV.nt.injEq]at h;exact h
 |ob n f g=>simp only[Leaf.src,Leaf.tgt,LV.ob.injEq]at h;subst h;exact fun _ _=>rfl
def AC0:PV->PV->Leaf
 |.v (.bool b),.bb c=>.eq (.bb b) (.bb c)
 |.v (.slice none 0 0),.sl false _ n f=>.fn 0 n f f
 |.sl nn k n f,.sl false l m g=>if k=l then .fn n m f g else .eq (.sl nn k n f) (.sl false l m g)
 |x,y=>.eq x y
mutual
def IS (regs:D0)(ids:List (Nat×Nat))(a b:AV):Option (List Leaf):=
 match b with
 |.top=>some []
 |.p y=>match viewP regs a with
  |some x=>some [AC0 x y]
  |none=>none
 |.reg j off=>match a with | .reg i off'=>if lk ids j=some i/\off=off' then some []else none|_=>none
 |.vec j=>match a with
  |.vec i=>if lk ids j=some i then some []else none
  |.p (.v (.slice none 0 0))=>if lk ids j=none then some []else none
  |_=>none
 |.vecp j n=>match a with | .vecp i m=>if lk ids j=some i/\n=m then some []else none|_=>none
 |.elt j k n off=>match a with | .elt i k' n' off'=>if lk ids j=some i/\k=k' /\ n=n' /\ off=off' then some []else none|_=>none
 |.mref j=>match a with | .mref i=>if lk ids j=some i then some []else none|_=>none
 |.yf j=>match a with | .yf i=>if lk ids j=some i then some []else none|_=>none
 |.clo f x y=>match a with
  |.clo f' x' y'=>match NZ regs ids x' x,NZ regs ids y' y with|some l,some m=>some (.nt f' f::l++m)|_,_=>none
  |_=>none
 |.tup l=>match a with | .tup l'=>NZ regs ids l' l|_=>none
 |.agr l=>match a with | .agr l'=>NZ regs ids l' l|_=>none
def NZ (regs:D0)(ids:List (Nat×Nat))(a b:List AV):Option (List Leaf):=
 match b with
 |[]=>match a with | []=>some [] | _=>none
 |y::s=>match a with
  |x::r=>match IS regs ids x y,NZ regs ids r s with|some l,some m=>some (l++m)|_,_=>none
  |[]=>none
end
def An6 (regs:D0)(ids:List (Nat×Nat))(env:Env):Env->Option (List Leaf)
 |[]=>some []
 |(t,b)::r=>match IS regs ids (get env t) b,An6 regs ids env r with|some l,some m=>some (l++m)|_,_=>none
def Oa (regs:D0)(ids:List (Nat×Nat))(o p:Obj):Option (List Leaf):=
 match p with
 |.cells cs=>match o with | .cells cs'=>NZ regs ids cs' cs|_=>none
 |.vec e k n f vw=>match o with
  |.vec e' k' m g vw'=>if e=e' /\ k=k' /\ (vw' = true->vw=true)then some [.fn m n g f]else none
  |_=>none
 |.map es=>match o with | .map es'=>some [.mp es' es] | _=>none
 |.arr n f=>match o with | .arr m g=>some [.fn m n (fun i=>[g i]) (fun i=>[f i])] | _=>none
 |.ghost cs=>match o with | .ghost cs'=>NZ regs ids cs' cs|_=>none
 |.yld r b=>match o with | .yld r' b'=>some [.yl r' r b' b] | _=>none
 |.fam e n jr x=>match o with
  |.fam e' m jr' x'=>if e=e' /\ lk ids jr=some jr' then (match x,x' with
   |none,none=>some [.nt m n]
   |some (i,a),some (i',a')=>match nov a' a,IS regs ids a' a with
    |true,some l=>some (.nt m n :: .nt i' i::l)
    |_,_=>none
   |_,_=>none)else none
  |_=>none
 |.rows n g=>match o with | .rows m g'=>some [.nt m n,.ob n g' g] | _=>none
 |.dead=>some []
def An7 (regs:D0)(ids:List (Nat×Nat)):D0->Option (List Leaf)
 |[]=>some []
 |(j,p)::r=>match (match lk ids j with
  |some i=>match A1 regs i with
   |some o=>Oa regs ids o p
   |none=>none
  |none=>match p with
   |.vec _ _ n f _=>some [.fn 0 n f f]
   |_=>none:Option (List Leaf)),An7 regs ids r with
  |some l,some m=>some (l++m)
  |_,_=>none
def leK (ids:List (Nat×Nat))(s t:St):Option (List Leaf):=
 if (wf t&&G8 (ids.map (·.2))&&XF ids&&OQ ids t.regs&&Ky ids (Aj3 s.env t.env++IF ids s.regs t.regs) t.regs) then
  match An6 s.regs ids s.env t.env,An7 s.regs ids t.regs with
  |some l,some m=>some (l++m)
  |_,_=>none
 else none
theorem An8 {x y:PV}(h:(AC0 x y).ok):leP x y:=by
 unfold AC0 at h;split at h
 ·simp only[Leaf.ok,PV.bb.injEq]at h;subst h;exact .inr (.inr (.inr (.inl ⟨_,rfl,rfl⟩)))
 ·obtain⟨rfl,_⟩:=h;exact .inr (.inr (.inl ⟨_,_,rfl,rfl⟩))
 ·split at h
  ·rename_i hk;subst hk;obtain⟨rfl,h⟩:=h;exact .inr (.inl ⟨_,_,_,_,_,rfl,rfl,h⟩)
  ·exact .inl h
 ·exact .inl h
theorem Mu {l m:List Leaf}(h:∀x∈l++m,x.ok):(∀x∈l,x.ok)/\∀x∈m,x.ok:=
 ⟨fun x hx=>h x (AU9 _ hx),fun x hx=>h x (AT7 _ hx)⟩
mutual
theorem Qv {regs:D0}{ids:List (Nat×Nat)}{a:AV}(b:AV){L:List Leaf}(h:IS regs ids a b=some L)(hL:∀x∈L,x.ok):leA regs ids a b:=by
 cases b with
 |top=>unfold leA;trivial
 |p y=>
  unfold IS at h;split at h
  ·rename_i x hx;cases h;unfold leA;exact⟨x,hx,An8 (hL _ (by simp))⟩
  ·cases h
 |reg j off=>
  unfold IS at h;split at h
  ·split at h
   ·rename_i c;obtain⟨h1,rfl⟩:=c;exact AK3 h1
   ·cases h
  ·cases h
 |vec j=>
  unfold IS at h;split at h
  ·split at h
   ·rename_i h1;exact AK2 h1
   ·cases h
  ·split at h
   ·rename_i h1;exact Az1 h1
   ·cases h
  ·cases h
 |vecp j n=>
  unfold IS at h;split at h
  ·split at h
   ·rename_i c;obtain⟨h1,rfl⟩:=c;unfold leA;exact⟨_,h1,rfl⟩
   ·cases h
  ·cases h
 |elt j k n off=>
  unfold IS at h;split at h
  ·split at h
   ·rename_i c;obtain⟨h1,rfl,rfl,rfl⟩:=c;unfold leA;exact⟨_,h1,rfl⟩
   ·cases h
  ·cases h
 |mref j=>
  unfold IS at h;split at h
  ·split at h
   ·rename_i h1;exact ZB h1
   ·cases h
  ·cases h
 |yf j=>
  unfold IS at h;split at h
  ·split at h
   ·rename_i h1;exact le_yf h1
   ·cases h
  ·cases h
 |clo f x y=>
  unfold IS at h;split at h
  ·split at h
   ·rename_i l m h1 g;cases h;have d:=hL _ (Ba1 ..);simp only[Leaf.ok]at d;subst d;obtain⟨i,o⟩:=Mu fun x hx=>hL x (AU8 _ hx);exact AK4 (Fl x h1 i) (Fl y g o)
   ·cases h
  ·cases h
 |tup l=>
  unfold IS at h;split at h
  ·exact AM1 (Fl l h hL)
  ·cases h
 |agr l=>
  unfold IS at h;split at h
  ·exact AM2 (Fl l h hL)
  ·cases h
theorem Fl {regs:D0}{ids:List (Nat×Nat)}{a:List AV}(b:List AV){L:List Leaf}(h:NZ regs ids a b=some L)(hL:∀x∈L,x.ok):leL regs ids a b:=by
 cases b with
 |nil=>
  unfold NZ at h;split at h
  ·exact Az2
  ·cases h
 |cons y s=>
  unfold NZ at h;split at h
  ·split at h
   ·rename_i l m h1 c;cases h;obtain⟨d,f⟩:=Mu hL;exact Aj6 (Qv y h1 d) (Fl s c f)
   ·cases h
  ·cases h
end
theorem WL {regs:D0}{ids:List (Nat×Nat)}{env:Env}:∀(t:Env) {L:List Leaf},An6 regs ids env t=some L->(∀x∈L,x.ok)->LW regs ids env t
 |[],_,_,_=>trivial
 |(t,b)::r,L,h,hL=>by
  simp only[An6]at h;split at h
  ·rename_i l m h1 a;cases h;obtain⟨c,d⟩:=Mu hL;exact⟨Qv b h1 c,WL r a d⟩
  ·cases h
theorem An9 {regs:D0}{ids:List (Nat×Nat)}{o p:Obj}{L:List Leaf}(h:Oa regs ids o p=some L)(hL:∀x∈L,x.ok):leO regs ids o p:=by
 cases p with
 |cells cs=>
  simp only[Oa]at h;split at h
  ·exact Aj7 (Fl cs h hL)
  ·cases h
 |vec e k n f vw=>
  simp only[Oa]at h;split at h
  ·split at h
   ·rename_i d;obtain⟨rfl,rfl,j⟩:=d;cases h;obtain⟨rfl,h1⟩:=hL _ (Bb4.2 rfl);exact⟨_,_,rfl,h1,j⟩
   ·cases h
  ·cases h
 |map es=>
  simp only[Oa]at h;split at h
  ·cases h
   have:=hL _ (Bb4.2 rfl)
   simp only[Leaf.ok]at this;subst this;rfl
  ·cases h
 |arr n f=>
  simp only[Oa]at h;split at h
  ·cases h;obtain⟨rfl,h1⟩:=hL _ (Bb4.2 rfl);exact⟨_,rfl,fun i l=>by simpa using h1 i l⟩
  ·cases h
 |ghost cs=>
  simp only[Oa]at h;split at h
  ·exact⟨_,rfl,Fl cs h hL⟩
  ·cases h
 |yld r b=>
  simp only[Oa]at h;split at h
  ·cases h;obtain⟨rfl,rfl⟩:=hL _ (Bb4.2 rfl);rfl
  ·cases h
 |fam e n jr x=>
  simp only[Oa]at h;split at h
  ·split at h
   ·rename_i m;obtain⟨rfl,c⟩:=m;split at h
    ·cases h;have a:=hL _ (Ba1 ..);simp only[Leaf.ok]at a;subst a;exact⟨_,_,rfl,c,rfl⟩
    ·split at h
     ·rename_i hn hl;cases h;have a:=hL _ (Ba1 ..);have h1:=hL _ (AU8 _ (Ba1 ..));simp only[Leaf.ok]at a h1;subst a h1;exact⟨_,_,rfl,c,_,rfl,hn,Qv _ hl fun x hx=>hL x (by simp[hx])⟩
     ·cases h
    ·cases h
   ·cases h
  ·cases h
 |rows n g=>
  simp only[Oa]at h;split at h
  ·cases h;have a:=hL _ (Ba1 ..);simp only[Leaf.ok]at a;subst a;exact⟨_,rfl,hL (.ob _ _ _) (by simp)⟩
  ·cases h
 |dead=>trivial
theorem WM {regs:D0}{ids:List (Nat×Nat)}:∀(t:D0) {L:List Leaf},An7 regs ids t=some L->(∀x∈L,x.ok)->RM regs ids t
 |[],_,_,_=>trivial
 |(j,p)::r,L,h,hL=>by
  simp only[An7]at h;split at h
  ·rename_i l m h1 c;cases h;obtain⟨b,d⟩:=Mu hL;refine⟨?_,WM r c d⟩;split at h1
   ·rename_i i a;split at h1
    ·rename_i o f;exact .inl ⟨i,o,a,f,An9 h1 b⟩
    ·cases h1
   ·rename_i a;split at h1
    ·cases h1;obtain⟨rfl,_⟩:=b _ (Bb4.2 rfl);exact .inr ⟨a,_,_,_,_,rfl⟩
    ·cases h1
  ·cases h
theorem Av7 {ids:List (Nat×Nat)}{s t:St}{L:List Leaf}(h:leK ids s t=some L)(hL:∀x∈L,x.ok):Le ids s t:=by
 unfold leK at h;split at h
 ·rename_i hw;split at h
  ·rename_i l m h1 a;cases h;obtain⟨b,c⟩:=Mu hL;exact le_mk hw (WL _ h1 b) (WM _ a c)
  ·cases h
 ·cases h
theorem kle {ids:List (Nat×Nat)}{s t:St}(h:(leK ids s t).map (·.map Leaf.src)=(leK ids s t).map (·.map Leaf.tgt):=by kernel_rfl)(h1:(leK ids s t).isSome=true:=by kernel_rfl):Le ids s t:=by
 obtain⟨L,hL⟩:=AU2.1 h1;rw[hL]at h;simp only[AT3,AS5]at h;refine Av7 hL fun x hx=>?_;obtain⟨i,a,rfl⟩:=Bb9.1 hx
 have:=congrArg (·[i]?) h
 simp only[AS9,AS6 a,AT3,AS5]at this;exact Leaf.ok_of this
def AM5 (is:List Nat)(f:Leaf->LV)(L:List Leaf):List (Option LV):=L.zipIdx.map fun q=>if is.contains q.2 then none else some (f q.1)
theorem kleR {ids:List (Nat×Nat)}{s t:St}(rs:List (Nat×Leaf))(d:∀q∈rs,q.2.ok)(h:(leK ids s t).map (AM5 (rs.map (·.1)) Leaf.src)=(leK ids s t).map (AM5 (rs.map (·.1)) Leaf.tgt):=by kernel_rfl)
 (a:(leK ids s t).map (fun L=>rs.map fun q=>L[q.1]?)=some (rs.map fun q=>some q.2):=by kernel_rfl):Le ids s t:=by
 cases hL:leK ids s t with
 |none=>rw[hL]at a;cases a
 |some L=>
  rw[hL]at h a;simp only[AT3,AS5]at h a;refine Av7 hL fun x hx=>?_;obtain⟨i,b,rfl⟩:=Bb9.1 hx;by_cases hm:(rs.map (·.1)).contains i=true
  ·simp only[AW7,decide_eq_true_eq,Ba7]at hm;obtain⟨q,c,rfl⟩:=hm;obtain⟨k,hk,rfl⟩:=Bb9.1 c
   have:=congrArg (·[k]?) a
   simp only[AS9,AS6 hk,AT3,AS5,AS6 b]at this;rw[this];exact d _ c
  ·have:=congrArg (·[i]?) h
   simp only[AM5,AS9,List.getElem?_zipIdx,AS6 b,AT3,AV9,hm,AS5]at this;exact Leaf.ok_of (by simpa using this)
end
section
variable {P:Program}
variable {S:AD}{F:K4}{g:Cfg}{pr:Prop}
theorem FZ (hS:H2 S P)(hc:pr)(h:G S P F (stp P g))(hp:pr=D6 (cnd P g):=by kernel_rfl):G S P F g:=
 (Gd (F:=F) hS 400 [] g (by subst hp;exact hc)).2 h
theorem AM6 (hS:H2 S P)(hc:pr){b:Bool}(ht:b=true->G S P F (AB5 (stp P g)))(a:b=false->G S P F (AB6 (stp P g)))(hp:pr=D6 (cnd P g):=by kernel_rfl)(hb:An4 (stp P g)=some b:=by kernel_rfl):G S P F g:=by
 refine FZ hS hc ?_ hp;generalize stp P g=g' at hb ht a;unfold An4 at hb;split at hb
 ·split at hb
  ·rename_i hc;cases hb;exact AJ9 hc ht a
  ·cases hb
 ·cases hb
theorem AC1 (hS:H2 S P)(hc:pr){b:Bool}(ht:b=true->G S P F (Mt true (stp P g)))(a:b=false->G S P F (Mt false (stp P g)))(hp:pr=D6 (cnd P g):=by kernel_rfl)(hb:WK (stp P g)=some b:=by kernel_rfl):G S P F g:=by
 refine FZ hS hc ?_ hp;generalize stp P g=g' at hb ht a;unfold WK at hb;split at hb
 ·split at hb
  ·rename_i d;split at hb
   ·rename_i f;split at hb
    ·rename_i c;cases hb;simp only[Mt,d,f,Ka,put]at ht a;exact Ay9 hS d f c ht a
    ·cases hb
   ·cases hb
  ·cases hb
 ·cases hb
theorem AM7 (hS:H2 S P)(ids:List Nat)(hc:pr){fn:FuncId}{args:List AV}{objs objs' : List Obj}{r:AV}{ks:List Bool}(i:FunO S fn args objs r objs' ks)
 (hk:G S P F (An5 ids ks r objs' (stp P g))) (hp:pr=D6 (cnd P g):=by kernel_rfl) (a:Yj ids (stp P g)=some (fn,args,objs):=by kernel_rfl) (hn:Yk ids ks objs'.length (stp P g)=true:=by kernel_rfl):G S P F g:=by
 refine FZ hS hc ?_ hp;generalize stp P g=g' at a hn hk;unfold Yj at a;split at a
 ·split at a
  ·rename_i j f;split at a
   ·rename_i c;split at a
    ·rename_i ha;split at a
     ·rename_i hw;split at a
      ·rename_i l d;split at a
       ·rename_i b;cases a;simp only[AS7]at b;simp only[An5,Yk,f,ha,Ka]at hk hn;exact Az0 hS ids j f c ha hw l d i b.1 b.2 hn hk
       ·cases a
      ·cases a
     ·cases a
    ·cases a
   ·cases a
  ·cases a
 ·cases a
theorem Ao0 (hS:H2 S P)(hc:pr){kt e:TypeId}{key:PV}{es:List (PV×PV)}{x:PV}{b:Bool}{fd:Option PV}
 (j:find (NU P kt) key es=some fd) (c:D6 (PY P kt))
 (hk:G S P F (AB8 x b (stp P g))) (hp:pr=D6 (cnd P g):=by kernel_rfl) (a:AB7 P (stp P g)=some ⟨kt,e,key,es⟩:=by kernel_rfl) (hx:AM3 P e fd=some (x,b):=by kernel_rfl):G S P F g:=by
 refine FZ hS hc ?_ hp;generalize stp P g=g' at a hk;unfold AB7 at a;split at a
 ·split at a
  ·rename_i l f;split at a
   ·rename_i i hm;split at a
    ·rename_i m ht;split at a
     ·rename_i d;simp only[AS5,LookI.mk.injEq]at a;obtain⟨rfl,rfl,rfl,rfl⟩:=a;simp only[AB8,f,i,Ka]at hk;cases fd with
      |some y=>exact WJ (fd:=some y) hS l f i hm m ht d j hx c hk
      |none=>exact WJ (fd:=none) hS l f i hm m ht d j hx c hk
     ·cases a
    ·cases a
   ·cases a
  ·cases a
 ·cases a
theorem Ao1 (hS:H2 S P)(hc:pr){kt:TypeId}{key y:PV}{es es' : List (PV×PV)}
 (j:upd (NU P kt) key y es=some es') (b:D6 (PY P kt)) (hk:G S P F (updK es' (stp P g))) (hp:pr=D6 (cnd P g):=by kernel_rfl) (a:updE P (stp P g)=some (kt,key,y,es):=by kernel_rfl):G S P F g:=by
 refine FZ hS hc ?_ hp;generalize stp P g=g' at a hk;unfold updE at a;split at a
 ·split at a
  ·rename_i l d;split at a
   ·rename_i h1 f i;split at a
    ·rename_i m ht;split at a
     ·rename_i c;simp only[AS5,AV2]at a;obtain⟨rfl,rfl,rfl,rfl⟩:=a;simp only[updK,d,f,i,Ka]at hk;exact UI hS l d h1 i f m ht c j b hk
     ·cases a
    ·cases a
   ·cases a
  ·cases a
 ·cases a
theorem AM8 (hS:H2 S P)(hc:pr)(st:St){ids:List (Nat×Nat)}(hk:G S P F (opsS st (stp P g)))(hp:pr=D6 (cnd P g):=by kernel_rfl)(a:Gm (stp P g)=true:=by kernel_rfl)(hle:Le ids (stp P g).st st:=by exact kle):G S P F g:=by
 refine FZ hS hc ?_ hp;generalize stp P g=g' at a hle hk;unfold Gm at a;split at a
 ·exact Aa7 hS st ids hle hk
 ·cases a
end
section
variable {S:AD}{P:Program}{F:K4}{g:Cfg}{pr:Prop}
theorem IT (hS:H2 S P){K1 K2:List It}(h:∀e s,kp S P K1 F e s->kp S P K2 F e s):∀(K:List It) (e:LQ) (s:St),kp S P (K++K1) F e s->kp S P (K++K2) F e s
 |[],e,s,hk=>h e s hk
 |.code c::K,e,s,hk=>by simp only[AW5,kp]at hk⊢;exact Qu hS (fun t=>BA hS c (IT hS h K)) (IT hS h K) e s hk
 |.blk id::K,e,s,hk=>by
  simp only[AW5,kp]at hk⊢;cases e with
  |exit i=>
   simp only[blk]at hk⊢;split at hk
   ·rename_i a;rw[if_pos a];exact IT hS h K _ _ hk
   ·rename_i a;rw[if_neg a];exact IT hS h K _ _ hk
  |_=>exact IT hS h K _ _ hk
 |.lp X s' J m n::K,e,s,hk=>by
  simp only[AW5,kp]at hk⊢;cases e with
  |normal=>exact hk
  |_=>exact IT hS h K _ _ hk
 |.mid M::K,e,s,hk=>by simp only[AW5,kp]at hk⊢;exact Qu hS (fun t h=>h) (IT hS h K) e s hk
 |.scp::K,e,s,hk=>by
  simp only[AW5,kp]at hk⊢;cases e with
  |goto l=>exact hk
  |_=>exact IT hS h K _ _ hk
theorem WN (M:It):∀(n:Nat) (K:List It),n<=K.length->Sz M n K=K.take n++M::K.drop n
 |0,K,_=>by simp[Sz]
 |n+1,i::K,h=>by simp only[Sz,Bc4,List.drop_succ_cons,AW5,WN M n K (by simpa using h)]
 |n+1,[],h=>by simp at h
theorem Av8 (hS:H2 S P)(a:∀s,S.up s (F .normal)->F .normal s)(n:Nat)(hn:n<=g.k.length){M:St->Prop}(b:∀t,M t->G S P F (.pop .normal (g.k.drop n) t))(h:G S P F (AM4 n M g)):G S P F g:=by
 have hk:∀e s,kp S P (Sz (.mid M) n g.k) F e s->kp S P g.k F e s:=by
  intro e s;rw[WN _ _ _ hn]
  conv=>rhs;rw[<- Bd3 n g.k]
  exact IT hS (AL8 hS a b) _ e s
 cases g with
 |code c K st=>exact BA hS c hk h
 |ops all rest K st=>exact Gk hS hk rest h
 |pop e K st=>exact hk e st h
theorem J_cut (hS:H2 S P)(hc:pr)(b:∀s,S.up s (F .normal)->F .normal s)(n:Nat)(s:St)
 (h1:∀(M:St->Prop),(∀(g' : Cfg) (ids:List (Nat×Nat)) (pr:Prop),pr->(hp:pr=D6 (cnd P g'):=by kernel_rfl)->(a:stp P g' = .pop .normal (.mid M::(stp P g).k.drop n) (stp P g').st:=by kernel_rfl)->(hle:Le ids (stp P g').st s:=by exact kle)->G S P F g')->G S P F (AM4 n M (stp P g)))
 (c:G S P F (.pop .normal ((stp P g).k.drop n) s)) (hp:pr=D6 (cnd P g):=by kernel_rfl) (hn:Nat.ble n (stp P g).k.length=true:=by kernel_rfl):G S P F g:=by
 refine FZ hS hc ?_ hp;refine Av8 hS b n (AZ2 hn) (M:=fun t=>t=s) (fun t ht=>by subst ht;exact c) (h1 _ fun g' ids pr hc hp a hle=>?_);refine FZ hS hc ?_ hp;rw[a];exact hS.le ids _ _ _ hle rfl
theorem J_lt (hS:H2 S P)(hc:pr)(c:∀s,S.up s (F .normal)->F .normal s){R A:Type}{f:(A->Option R)->Option R}{k0:A->Option R}{r:R}(h:lt k0 f=some r)(n:Nat)(s:A->St)
 (h1:∀(M:St->Prop) (k:A->Option R),(∀(g' : Cfg) (ids:List (Nat×Nat)) (pr:Prop) (a:A),pr->k a=some r->(hp:pr=D6 (cnd P g'):=by kernel_rfl)->(b:stp P g' = .pop .normal (.mid M::(stp P g).k.drop n) (stp P g').st:=by kernel_rfl)->(hle:Le ids (stp P g').st (s a):=by exact kle)->G S P F g')->f k=some r->G S P F (AM4 n M (stp P g)))
 (d:∀a,k0 a=some r->G S P F (.pop .normal ((stp P g).k.drop n) (s a))) (hp:pr=D6 (cnd P g):=by kernel_rfl) (hn:Nat.ble n (stp P g).k.length=true:=by kernel_rfl):G S P F g:=by
 refine FZ hS hc ?_ hp;refine Av8 hS c n (AZ2 hn) (M:=fun t=>∃a,t=s a/\k0 a=some r) (fun t ⟨a,ht,hk⟩=>by subst ht;exact d a hk) (h1 _ k0 (fun g' ids pr a hc hk hp b hle=>?_) h);refine FZ hS hc ?_ hp;rw[b];exact hS.le ids _ _ _ hle ⟨a,rfl,hk⟩
theorem Aa9 {g:Cfg}(h:KJ g=true):g=.code (.loop (UK g)) g.k g.st:=by
 unfold KJ at h;split at h
 ·rfl
 ·cases h
theorem AM9 (hS:H2 S P)(hc:pr){R A:Type}{body:(A->Option R)->A->Option R}{N:Nat}{a0:A}{r:R}(h:V9 N body a0=some r)(s:A->St){ids:List (Nat×Nat)}
 (i:∀(X:Type) (s' : X->St) (J:X->Prop) (m:X->Nat) (n:Nat) (b:A->Option R) (a:A),
  (∀(g' : Cfg) (ids:List (Nat×Nat)) (pr:Prop) (a:A),pr->b a=some r->(hp:pr=D6 (cnd P g'):=by kernel_rfl)->(f:stp P g' = .pop .normal (.lp X s' J m n::(stp P g).k) (stp P g').st:=by kernel_rfl)->(hle:Le ids (stp P g').st (s a):=by exact kle)->G S P F g') ->
  body b a=some r->G S P F (.code (UK (stp P g)) (.lp X s' J m n::(stp P g).k) (s a))) (hp:pr=D6 (cnd P g):=by kernel_rfl) (hl:KJ (stp P g)=true:=by kernel_rfl) (hle:Le ids (stp P g).st (s a0):=by exact kle):G S P F g:=by
 refine FZ hS hc ?_ hp;rw[Aa9 hl];refine AL9 hS h s ids hle fun X s' J m n b a hb c=>i X s' J m n b a (fun g' ids pr a hc d hp f hle=>?_) c;refine FZ hS hc ?_ hp;rw[f];exact hb _ _ _ hle d
def UL (P:Program)(st:St)(rs:List ResultVar)(outs:List Nat):Option (AV×List Obj):=match Gc P st rs with
 |some l=>match RC outs (one l),K5 outs st.regs outs with
  |some a,some o=>if G8 outs then some (a,o)else none
  |_,_=>none
 |none=>none
theorem J_ret (hS:H2 S P)(hc:pr){n:Nat}{rs:List ResultVar}{Q:LR->List Obj->List Bool->Prop}{a:AV}{objs:List Obj}(outs:List Nat)(c:Q (.ret a) objs (FJ n outs))(hp:pr=D6 (cnd P g):=by kernel_rfl)(d:(AB9 (stp P g)).bind (fun st=>UL P st rs outs)=some (a,objs):=by kernel_rfl) :G S P (Cv S P n rs Q) g:=by
 refine FZ hS hc ?_ hp;generalize stp P g=g' at d;obtain⟨st,h1,b⟩:=Ba5.1 d;unfold UL at b;split at b
 ·rename_i l hl;split at b
  ·rename_i f i;split at b
   ·rename_i j;cases b;unfold AB9 at h1;split at h1
    ·cases h1;exact hS.refl _ _ ⟨l,outs,a,objs,hl,j,f,i,c⟩
    ·cases h1;exact hS.refl _ _ ⟨l,outs,a,objs,hl,j,f,i,c⟩
    ·cases h1
   ·cases b
  ·cases b
 ·cases b
theorem AN0 (hS:H2 S P)(hc:pr){n:Nat}{rs:List ResultVar}{Q:LR->List Obj->List Bool->Prop}{a:AV}{objs:List Obj}(st:St)(outs:List Nat){ids:List (Nat×Nat)}(f:Q (.ret a) objs (FJ n outs))(hp:pr=D6 (cnd P g):=by kernel_rfl)(c:(AB9 (stp P g)).isSome=true:=by kernel_rfl)(hle:Le ids (stp P g).st st:=by exact kle)(d:UL P st rs outs=some (a,objs):=by kernel_rfl) :G S P (Cv S P n rs Q) g:=by
 refine FZ hS hc ?_ hp;generalize stp P g=g' at c hle;have b:=d;unfold UL at b;split at b
 ·rename_i l hl;split at b
  ·rename_i d i;split at b
   ·rename_i j;cases b;unfold AB9 at c;split at c
    ·exact hS.le ids _ _ _ hle ⟨l,outs,a,objs,hl,j,d,i,f⟩
    ·exact hS.le ids _ _ _ hle ⟨l,outs,a,objs,hl,j,d,i,f⟩
    ·cases c
   ·cases b
  ·cases b
 ·cases b
theorem AC2 (hS:H2 S P){f:FuncId}{fn:Func}{args:List AV}{objs objs' : List Obj}{ks:List Bool}{r:AV}(d:P.funcs[f]? = some fn)
 (h:G S P (Cv S P objs.length fn.results.toList fun res o k=>res=.ret r/\o=objs' /\ k=ks) (.code (fn.body.getD .skip) [] { env:=argEnv args,regs:=objRegs objs }))
 (hc:fn.body.isSome=true:=by kernel_rfl) (hn:Nat.ble args.length fn.ntmps=true:=by kernel_rfl) (g:Nat.blt objs.length 1000=true:=by kernel_rfl)
 (b:AE fn.ntmps (fn.body.getD .skip)=true:=by kernel_rfl) (c:(fn.name == "runtime.NumGoroutine")=false:=by kernel_rfl):FunO S f args objs r objs' ks:=by
 obtain⟨code,a⟩:=AU2.1 hc;rw[a,AT2]at b h;exact ZC hS d a (AZ2 hn) (by simpa[Bd4]using g) rfl b c h
theorem al0:∀q∈([]:List (Nat×Leaf)),q.2.ok:=fun _ h=>by cases h
theorem al1 {i:Nat}{l:Leaf}{rs:List (Nat×Leaf)}(h:l.ok)(t:∀q∈rs,q.2.ok):∀q∈(i,l)::rs,q.2.ok:=fun q a=>by
 rcases AW1.1 a with rfl|a
 ·exact h
 ·exact t q a
structure SC where
 all:List Oper
 cls:List Cls
 rest:List Oper
 env:Env
 regs:D0
 kn:List Nat
def SG (S:AD)(P:Program)(sc:SC)(k:Env->D0->Prop):Prop:=NQ S P sc.all sc.cls sc.rest sc.env sc.regs k
def Ga (P:Program)(sc:SC):SC:=match NR P sc.kn sc.all sc.cls sc.rest [] sc.env sc.regs with
 |⟨_,cls,rest,env,regs⟩=>⟨sc.all,cls,rest,env,regs,sc.kn⟩
def Zh (P:Program)(sc:SC):List Prop:=(NR P sc.kn sc.all sc.cls sc.rest [] sc.env sc.regs).conds
def Fm:Cfg->Bool
 |.code (.region _ _ true) _ _=>true
 |_=>false
def Ig:Cfg->SC
 |.code (.region _ ops true) _ st=>⟨ops.toList,ops.toList.map fun o=>AR3 o.op,ops.toList,st.env,st.regs,[]⟩
 |_=>⟨[],[],[],[],[],[]⟩
theorem AC3 (hS:H2 S P)(hc:pr)
 (h:SG S P (Ig (stp P g)) fun env regs=>G S P F (.pop .normal (stp P g).k ⟨env,regs⟩)) (hp:pr=D6 (cnd P g):=by kernel_rfl) (c:Fm (stp P g)=true:=by kernel_rfl) (a:P.follows .mixedOrders=true:=by kernel_rfl) (b:Mp (Ig (stp P g)).all (Ig (stp P g)).cls=true:=by kernel_rfl):G S P F g:=by
 refine FZ hS hc ?_ hp;generalize stp P g=g' at c b h;unfold Fm at c;split at c
 ·exact Am5 hS a rfl b h
 ·cases c
section
variable {sc:SC}{k:Env->D0->Prop}
theorem AN1 (hc:pr)(h:SG S P (Ga P sc) k)(hp:pr=D6 (Zh P sc):=by kernel_rfl):SG S P sc k:=by subst hp;unfold Ga at h;unfold Zh at hc;unfold SG at *;generalize a:NR P sc.kn sc.all sc.cls sc.rest [] sc.env sc.regs=r at h hc;obtain⟨c,cls,rest,env,regs⟩:=r;exact s_go a hc h
theorem C_end (hc:pr)(h:k (Ga P sc).env (Ga P sc).regs)(hp:pr=D6 (Zh P sc):=by kernel_rfl)(a:(Ga P sc).rest.isEmpty=true:=by kernel_rfl):SG S P sc k:=by
 refine AN1 hc ?_ hp;generalize Ga P sc=s at a h;obtain⟨all,cls,rest,env,regs,kn⟩:=s;cases rest with
 |nil=>exact s_end h
 |cons=>simp at a
def AN2 {R:Type _}(d:Option Nat)(a:AV)(env:Env)(regs:D0)(κ : Env->D0->R):R:=match d with
 |some d=>mkO (ins d a env) regs κ
 |none=>mkO env regs κ
theorem UM {R:Type _}(d:Option Nat)(a:AV)(env:Env)(regs:D0)(κ : Env->D0->R):AN2 d a env regs κ = κ (Pj d a env) regs:=by cases d<;>simp only[AN2,EK,Pj]
theorem Av9:∀{env:Env}{i d:Nat}{b:AV},Aj2 ((i,b)::env)=true->get env d ≠ .top->d<i
 |[],_,_,_,_,h=>absurd rfl h
 |(j,c)::r,i,d,b,hd,h=>by
  simp only[Aj2,AS7,decide_eq_true_eq]at hd;by_cases e:j=d
  ·subst e;exact hd.1
  ·simp only[get,e,if_false]at h;exact Nat.lt_trans (Av9 hd.2 h) hd.1
theorem Qw:∀{env:Env}{d:Nat}{a:AV},Aj2 env=true->get env d=a->a ≠ .top->ins d a env=env
 |[],_,_,_,h,hn=>absurd h.symm hn
 |(i,b)::r,d,a,hd,h,hn=>by
  by_cases e:i=d
  ·subst e;simp only[get,if_true]at h;subst h;simp[ins]
  ·simp only[get,e,if_false]at h;have c:=Av9 hd (by rw[h];exact hn);have f:Aj2 r=true:=by
    cases r with
    |nil=>rfl
    |cons p r=>simp only[Aj2,AS7]at hd;exact hd.2
   simp only[ins,show ¬i<d by omega,e,if_false,Qw f h hn]
def Qx (sc:SC):Option Bool:=match sc.rest with
 |o::_=>match o.guard with
  |some (j,_)=>match AK0 sc.all j with
   |some d=>match get sc.env d with
    |.p (.bb b)=>if Aj2 sc.env then some b else none
    |_=>none
   |none=>none
  |none=>none
 |[]=>none
def Mv (v:Bool)(sc:SC):SC:=match sc.rest with
 |o::_=>match o.guard with
  |some (j,_)=>match AK0 sc.all j with
   |some d=>mkO (ins d (.p (.bb v)) sc.env) sc.regs fun env regs=>⟨sc.all,sc.cls,sc.rest,env,regs,j::sc.kn⟩
   |none=>sc
  |none=>sc
 |[]=>sc
theorem AC4 (hc:pr){b:Bool}(ht:b=true->SG S P (Mv true (Ga P sc)) k)(f:b=false->SG S P (Mv false (Ga P sc)) k)(hp:pr=D6 (Zh P sc))(hb:Qx (Ga P sc)=some b):SG S P sc k:=by
 refine AN1 hc ?_ hp;generalize Ga P sc=s at hb ht f;obtain⟨all,cls,rest,env,regs,kn⟩:=s;cases rest with
 |nil=>simp[Qx]at hb
 |cons o rest=>
  simp only[Qx]at hb;split at hb
  ·rename_i j w g;split at hb
   ·rename_i d i;split at hb
    ·rename_i b' a;split at hb
     ·rename_i c;simp only[AS5]at hb;subst hb;simp only[Mv,g,i,EK]at ht f;cases b' with
      |true=>have:=ht rfl;rwa [Qw c a (by simp)]at this
      |false=>have:=f rfl;rwa [Qw c a (by simp)]at this
     ·cases hb
    ·cases hb
   ·cases hb
  ·cases hb
def WO (ids:List Nat)(sc:SC):Option (FuncId×List AV×List Obj):=match sc.rest with
 |o::_=>match DY sc.all sc.env o,o.op with
  |some true,.call c=>match c.callee with
   |.value f=>match NP sc.regs (c.args.toList.map (aev sc.env))with
    |some (as,regs)=>match Ul sc.env f as with
     |some (fn,as')=>match Dg ids as',K5 ids regs ids with
      |some a,some ob=>if G8 ids&&EB ob then some (fn,a,ob)else none
      |_,_=>none
     |none=>none
    |none=>none
   |_=>none
  |_,_=>none
 |[]=>none
def SA (ids:List Nat)(ks:List Bool)(n:Nat)(sc:SC):Bool:=match sc.cls,sc.rest with
 |.w::_,o::_=>match o.op with
  |.call c=>match NP sc.regs (c.args.toList.map (aev sc.env))with
   |some (_,regs)=>Dl regs ids ks (o.dst.getD 0) n
   |none=>false
  |_=>false
 |_,_=>false
def Ab0 (ids:List Nat)(ks:List Bool)(r:AV)(objs' : List Obj)(sc:SC):SC:=match sc.rest with
 |o::rest=>match o.op with
  |.call c=>match NP sc.regs (c.args.toList.map (aev sc.env))with
   |some (_,regs)=>AN2 o.dst (unA (P5 (o.dst.getD 0) ids ks objs'.length) r) sc.env
    (Ze (P5 (o.dst.getD 0) ids ks objs'.length) (P5 (o.dst.getD 0) ids ks objs'.length) objs' (P6 ids ks regs)) fun env regs=>⟨sc.all,sc.cls.tail,rest,env,regs,sc.kn⟩
   |none=>sc
  |_=>sc
 |[]=>sc
theorem AN3 (ids:List Nat)(hc:pr){fn:FuncId}{args:List AV}{objs objs' : List Obj}{r:AV}{ks:List Bool}(i:FunO S fn args objs r objs' ks)
 (hk:SG S P (Ab0 ids ks r objs' (Ga P sc)) k) (hp:pr=D6 (Zh P sc):=by kernel_rfl) (a:WO ids (Ga P sc)=some (fn,args,objs):=by kernel_rfl) (hn:SA ids ks objs'.length (Ga P sc)=true:=by kernel_rfl):SG S P sc k:=by
 refine AN1 hc ?_ hp;generalize Ga P sc=s at a hn hk;obtain⟨all,cls,rest,env,regs,kn⟩:=s;cases rest with
 |nil=>simp[WO]at a
 |cons o rest=>
  simp only[WO]at a;split at a
  ·rename_i c j d;split at a
   ·rename_i f;split at a
    ·rename_i ha;split at a
     ·rename_i hw;split at a
      ·rename_i l g;split at a
       ·rename_i b;cases a;simp only[AS7]at b;cases cls with
        |nil=>simp[SA]at hn
        |cons cl cls=>
         cases cl with
         |w=>simp only[SA,d,ha]at hn;simp only[Ab0,d,ha,UM,Bk1]at hk;exact AB0 ids j d f ha hw l g i b.1 b.2 hn hk
         |_=>simp[SA]at hn
       ·cases a
      ·cases a
     ·cases a
    ·cases a
   ·cases a
  ·cases a
def WQ (sc:SC):Bool:=match sc.cls,sc.rest with
 |_::_,o::_=>match o.op with
  |.call c=>(c.args.toList.map (aev sc.env)).all ZZ
  |_=>false
 |_,_=>false
def WR (sc:SC):Option (FuncId×List AV):=match sc.rest with
 |o::_=>match DY sc.all sc.env o,o.op with
  |some true,.call c=>match c.callee with
   |.value f=>match Ul sc.env f (c.args.toList.map (aev sc.env))with
    |some (fn,as')=>match Dg [] as' with
     |some a=>some (fn,a)
     |none=>none
    |none=>none
   |_=>none
  |_,_=>none
 |[]=>none
def Ab1 (r:AV)(sc:SC):SC:=match sc.rest with
 |o::rest=>AN2 o.dst (unA [] r) sc.env sc.regs fun env regs=>⟨sc.all,sc.cls.tail,rest,env,regs,sc.kn⟩
 |[]=>sc
theorem AN4 (hc:pr){fn:FuncId}{args:List AV}{r:AV}(f:FunO S fn args [] r [] [])
 (hk:SG S P (Ab1 r (Ga P sc)) k) (hp:pr=D6 (Zh P sc):=by kernel_rfl) (a:WR (Ga P sc)=some (fn,args):=by kernel_rfl) (hn:WQ (Ga P sc)=true:=by kernel_rfl):SG S P sc k:=by
 refine AN1 hc ?_ hp;generalize Ga P sc=s at a hn hk;obtain⟨all,cls,rest,env,regs,kn⟩:=s;cases rest with
 |nil=>simp[WR]at a
 |cons o rest=>
  cases cls with
  |nil=>simp[WQ]at hn
  |cons cl cls=>
   simp only[WR]at a;split at a
   ·rename_i c g d;split at a
    ·rename_i b;split at a
     ·rename_i hw;split at a
      ·rename_i i;cases a;simp only[WQ,d]at hn;simp only[Ab1,UM,Bk1]at hk;exact AL5 g d b hn hw i f hk
      ·cases a
     ·cases a
    ·cases a
   ·cases a
def Fn (P:Program)(sc:SC):Option (List Prop×PV):=match sc.cls,sc.rest with
 |_::_,o::_=>match DY sc.all sc.env o with
  |some true=>RJ P sc.env o.op
  |_=>none
 |_,_=>none
def UN (x:PV)(sc:SC):SC:=match sc.rest with
 |o::rest=>AN2 o.dst (.p x) sc.env sc.regs fun env regs=>⟨sc.all,sc.cls.tail,rest,env,regs,sc.kn⟩
 |[]=>sc
theorem AC5 (hc:pr){x:PV}(hk:SG S P (UN x (Ga P sc)) k)(hp:pr=D6 (Zh P sc):=by kernel_rfl)(a:(Fn P (Ga P sc)).map (·.2)=some x:=by kernel_rfl)(b:((Fn P (Ga P sc)).map fun q=>D6 q.1)=some (true=true):=by kernel_rfl):SG S P sc k:=by
 refine AN1 hc ?_ hp;generalize Ga P sc=s at a b hk;obtain⟨all,cls,rest,env,regs,kn⟩:=s;cases rest with
 |nil=>cases cls<;>simp[Fn]at a
 |cons o rest=>
  cases cls with
  |nil=>simp[Fn]at a
  |cons cl cls=>
   cases d:DY all env o with
   |none=>simp[Fn,d]at a
   |some bb=>
    cases bb with
    |false=>simp[Fn,d]at a
    |true=>
     simp only[Fn,d]at a b;cases ha:RJ P env o.op with
     |none=>rw[ha]at a;cases a
     |some q=>obtain⟨c,y⟩:=q;rw[ha]at a b;simp only[AT3,AS5]at a b;subst a;simp only[UN,UM,Bk1]at hk;exact Am4 d ha (by rw[b];trivial) hk
end
end
structure KG (S:AD) (P:Program) (F:K4) (g:Cfg):Prop where
 out:G S P F g
structure DG (S:AD) (P:Program) (sc:SC) (k:Env->D0->Prop):Prop where
 out:SG S P sc k
structure KLe (ids:List (Nat×Nat)) (s t:St):Prop where
 out:Le ids s t
section
variable {S:AD}{P:Program}{F:K4}{g:Cfg}{pr:Prop}
theorem kl {ids:List (Nat×Nat)}{s t:St}(h:(leK ids s t).map (·.map Leaf.src)=(leK ids s t).map (·.map Leaf.tgt):=by kernel_rfl)(h1:(leK ids s t).isSome=true:=by kernel_rfl):KLe ids s t:=⟨kle h h1⟩
theorem klR {ids:List (Nat×Nat)}{s t:St}(rs:List (Nat×Leaf))(a:∀q∈rs,q.2.ok)(h:(leK ids s t).map (AM5 (rs.map (·.1)) Leaf.src)=(leK ids s t).map (AM5 (rs.map (·.1)) Leaf.tgt):=by kernel_rfl)
 (b:(leK ids s t).map (fun L=>rs.map fun q=>L[q.1]?)=some (rs.map fun q=>some q.2):=by kernel_rfl):KLe ids s t:=⟨kleR rs a h b⟩
theorem E4 (hS:H2 S P)(hc:pr){b:Bool}(ht:b=true->KG S P F (AB5 (stp P g)))(a:b=false->KG S P F (AB6 (stp P g)))(hp:pr=D6 (cnd P g):=by kernel_rfl)(hb:An4 (stp P g)=some b:=by kernel_rfl):KG S P F g:=
 ⟨AM6 hS hc (fun h=>(ht h).out) (fun h=>(a h).out) hp hb⟩
theorem Gn (hS:H2 S P)(hc:pr){b:Bool}(ht:b=true->KG S P F (Mt true (stp P g)))(a:b=false->KG S P F (Mt false (stp P g)))(hp:pr=D6 (cnd P g):=by kernel_rfl)(hb:WK (stp P g)=some b:=by kernel_rfl):KG S P F g:=
 ⟨AC1 hS hc (fun h=>(ht h).out) (fun h=>(a h).out) hp hb⟩
theorem B7 (hS:H2 S P)(ids:List Nat)(hc:pr){fn:FuncId}{args:List AV}{objs objs' : List Obj}{r:AV}{ks:List Bool}(a:FunO S fn args objs r objs' ks)(hk:KG S P F (An5 ids ks r objs' (stp P g)))
 (hp:pr=D6 (cnd P g):=by kernel_rfl) (b:Yj ids (stp P g)=some (fn,args,objs):=by kernel_rfl) (hn:Yk ids ks objs'.length (stp P g)=true:=by kernel_rfl):KG S P F g:=⟨AM7 hS ids hc a hk.out hp b hn⟩
theorem Ha (hS:H2 S P)(hc:pr){kt e:TypeId}{key:PV}{es:List (PV×PV)}{x:PV}{b:Bool}{fd:Option PV}(c:find (NU P kt) key es=some fd)(a:D6 (PY P kt))(hk:KG S P F (AB8 x b (stp P g)))
 (hp:pr=D6 (cnd P g):=by kernel_rfl) (d:AB7 P (stp P g)=some ⟨kt,e,key,es⟩:=by kernel_rfl) (hx:AM3 P e fd=some (x,b):=by kernel_rfl):KG S P F g:=⟨Ao0 hS hc c a hk.out hp d hx⟩
theorem LF (hS:H2 S P)(hc:pr){kt:TypeId}{key y:PV}{es es' : List (PV×PV)}(b:upd (NU P kt) key y es=some es')(a:D6 (PY P kt))(hk:KG S P F (updK es' (stp P g)))
 (hp:pr=D6 (cnd P g):=by kernel_rfl) (c:updE P (stp P g)=some (kt,key,y,es):=by kernel_rfl):KG S P F g:=⟨Ao1 hS hc b a hk.out hp c⟩
theorem CX (hS:H2 S P)(hc:pr)(st:St){ids:List (Nat×Nat)}(hk:KG S P F (opsS st (stp P g)))(hp:pr=D6 (cnd P g):=by kernel_rfl)(a:Gm (stp P g)=true:=by kernel_rfl)(hle:KLe ids (stp P g).st st:=by exact kl):KG S P F g:=
 ⟨AM8 hS hc st hk.out hp a hle.out⟩
theorem UO (hS:H2 S P)(hc:pr)(b:∀s,S.up s (F .normal)->F .normal s)(n:Nat)(s:St)
 (h1:∀(M:St->Prop),(∀(g' : Cfg) (ids:List (Nat×Nat)) (pr:Prop),pr->(hp:pr=D6 (cnd P g'):=by kernel_rfl)->(a:stp P g' = .pop .normal (.mid M::(stp P g).k.drop n) (stp P g').st:=by kernel_rfl)->(hle:KLe ids (stp P g').st s:=by exact kl)->KG S P F g')->KG S P F (AM4 n M (stp P g)))
 (c:KG S P F (.pop .normal ((stp P g).k.drop n) s)) (hp:pr=D6 (cnd P g):=by kernel_rfl) (hn:Nat.ble n (stp P g).k.length=true:=by kernel_rfl):KG S P F g:=
 ⟨J_cut hS hc b n s (fun M hb=>(h1 M fun g' ids pr hc hp a hle=>⟨hb g' ids pr hc hp a hle.out⟩).out) c.out hp hn⟩
theorem JM (hS:H2 S P)(hc:pr)(c:∀s,S.up s (F .normal)->F .normal s){R A:Type}{f:(A->Option R)->Option R}{k0:A->Option R}{r:R}(h:lt k0 f=some r)(n:Nat)(s:A->St)
 (h1:∀(M:St->Prop) (k:A->Option R),(∀(g' : Cfg) (ids:List (Nat×Nat)) (pr:Prop) (a:A),pr->k a=some r->(hp:pr=D6 (cnd P g'):=by kernel_rfl)->(b:stp P g' = .pop .normal (.mid M::(stp P g).k.drop n) (stp P g').st:=by kernel_rfl)->(hle:KLe ids (stp P g').st (s a):=by exact kl)->KG S P F g')->f k=some r->KG S P F (AM4 n M (stp P g)))
 (d:∀a,k0 a=some r->KG S P F (.pop .normal ((stp P g).k.drop n) (s a))) (hp:pr=D6 (cnd P g):=by kernel_rfl) (hn:Nat.ble n (stp P g).k.length=true:=by kernel_rfl):KG S P F g:=
 ⟨J_lt hS hc c h n s (fun M k hb i=>(h1 M k (fun g' ids pr a hc hk hp b hle=>⟨hb g' ids pr a hc hk hp b hle.out⟩) i).out) (fun a hk=>(d a hk).out) hp hn⟩
theorem N7 (hS:H2 S P)(hc:pr){R A:Type}{body:(A->Option R)->A->Option R}{N:Nat}{a0:A}{r:R}(h:V9 N body a0=some r)(s:A->St){ids:List (Nat×Nat)}
 (i:∀(X:Type) (s' : X->St) (J:X->Prop) (m:X->Nat) (n:Nat) (b:A->Option R) (a:A),
  (∀(g' : Cfg) (ids:List (Nat×Nat)) (pr:Prop) (a:A),pr->b a=some r->(hp:pr=D6 (cnd P g'):=by kernel_rfl)->(f:stp P g' = .pop .normal (.lp X s' J m n::(stp P g).k) (stp P g').st:=by kernel_rfl)->(hle:KLe ids (stp P g').st (s a):=by exact kl)->KG S P F g') ->
  body b a=some r->KG S P F (.code (UK (stp P g)) (.lp X s' J m n::(stp P g).k) (s a))) (hp:pr=D6 (cnd P g):=by kernel_rfl) (hl:KJ (stp P g)=true:=by kernel_rfl) (hle:KLe ids (stp P g).st (s a0):=by exact kl):KG S P F g:=
 ⟨AM9 hS hc h s (fun X s' J m n b a hb c=>(i X s' J m n b a (fun g' ids pr a hc d hp f hle=>⟨hb g' ids pr a hc d hp f hle.out⟩) c).out) hp hl hle.out⟩
theorem I4 (hS:H2 S P)(hc:pr){R A B:Type}{body:(A->B->Option R)->A->B->Option R}{N:Nat}{a0:A}{b0:B}{r:R}(h:P4 N body a0 b0=some r)(s:A->B->St){ids:List (Nat×Nat)}
 (d:∀(X:Type) (s' : X->St) (J:X->Prop) (m:X->Nat) (n:Nat) (c:A->B->Option R) (a:A) (b:B),
  (∀(g' : Cfg) (ids:List (Nat×Nat)) (pr:Prop) (a:A) (b:B),pr->c a b=some r->(hp:pr=D6 (cnd P g'):=by kernel_rfl)->(o:stp P g' = .pop .normal (.lp X s' J m n::(stp P g).k) (stp P g').st:=by kernel_rfl)->(hle:KLe ids (stp P g').st (s a b):=by exact kl)->KG S P F g') ->
  body c a b=some r->KG S P F (.code (UK (stp P g)) (.lp X s' J m n::(stp P g).k) (s a b))) (hp:pr=D6 (cnd P g):=by kernel_rfl) (hl:KJ (stp P g)=true:=by kernel_rfl) (hle:KLe ids (stp P g).st (s a0 b0):=by exact kl):KG S P F g:=
 N7 hS hc h (fun x=>s x.1 x.2) (fun X s' J m n c a hb=>d X s' J m n (fun a b=>c (a,b)) a.1 a.2 fun g' ids pr a b h1 f i j l=>hb g' ids pr (a,b) h1 f i j l) hp hl hle
theorem Pq (hS:H2 S P)(hc:pr){R A B C:Type}{body:(A->B->C->Option R)->A->B->C->Option R}{N:Nat}{a0:A}{b0:B}{c0:C}{r:R}(h:Aa6 N body a0 b0 c0=some r)(s:A->B->C->St){ids:List (Nat×Nat)}
 (f:∀(X:Type) (s' : X->St) (J:X->Prop) (m:X->Nat) (n:Nat) (d:A->B->C->Option R) (a:A) (b:B) (c:C),
  (∀(g' : Cfg) (ids:List (Nat×Nat)) (pr:Prop) (a:A) (b:B) (c:C),pr->d a b c=some r->(hp:pr=D6 (cnd P g'):=by kernel_rfl)->(q:stp P g' = .pop .normal (.lp X s' J m n::(stp P g).k) (stp P g').st:=by kernel_rfl)->(hle:KLe ids (stp P g').st (s a b c):=by exact kl)->KG S P F g') ->
  body d a b c=some r->KG S P F (.code (UK (stp P g)) (.lp X s' J m n::(stp P g).k) (s a b c))) (hp:pr=D6 (cnd P g):=by kernel_rfl) (hl:KJ (stp P g)=true:=by kernel_rfl) (hle:KLe ids (stp P g).st (s a0 b0 c0):=by exact kl):KG S P F g:=
 N7 hS hc h (fun x=>s x.1 x.2.1 x.2.2) (fun X s' J m n d a hb=>f X s' J m n (fun a b c=>d (a,b,c)) a.1 a.2.1 a.2.2 fun g' ids pr a b c h1 i j l o=>hb g' ids pr (a,b,c) h1 i j l o) hp hl hle
theorem Yl (hS:H2 S P)(hc:pr){n:Nat}{rs:List ResultVar}{Q:LR->List Obj->List Bool->Prop}{a:AV}{objs:List Obj}(outs:List Nat)(b:Q (.ret a) objs (FJ n outs))(hp:pr=D6 (cnd P g):=by kernel_rfl)
 (c:(AB9 (stp P g)).bind (fun st=>UL P st rs outs)=some (a,objs):=by kernel_rfl):KG S P (Cv S P n rs Q) g:=⟨J_ret hS hc outs b hp c⟩
theorem A9 (hS:H2 S P)(hc:pr){n:Nat}{rs:List ResultVar}{Q:LR->List Obj->List Bool->Prop}{a:AV}{objs:List Obj}(st:St)(outs:List Nat){ids:List (Nat×Nat)}(b:Q (.ret a) objs (FJ n outs))(hp:pr=D6 (cnd P g):=by kernel_rfl)
 (c:(AB9 (stp P g)).isSome=true:=by kernel_rfl) (hle:KLe ids (stp P g).st st:=by exact kl) (d:UL P st rs outs=some (a,objs):=by kernel_rfl):KG S P (Cv S P n rs Q) g:=⟨AN0 hS hc st outs b hp c hle.out d⟩
theorem A2 (hS:H2 S P){f:FuncId}{fn:Func}{args:List AV}{objs objs' : List Obj}{ks:List Bool}{r:AV}(c:P.funcs[f]? = some fn)
 (h:KG S P (Cv S P objs.length fn.results.toList fun res o k=>res=.ret r/\o=objs' /\ k=ks) (.code (fn.body.getD .skip) [] { env:=argEnv args,regs:=objRegs objs }))
 (hc:fn.body.isSome=true:=by kernel_rfl) (hn:Nat.ble args.length fn.ntmps=true:=by kernel_rfl) (d:Nat.blt objs.length 1000=true:=by kernel_rfl)
 (a:AE fn.ntmps (fn.body.getD .skip)=true:=by kernel_rfl) (b:(fn.name == "runtime.NumGoroutine")=false:=by kernel_rfl):FunO S f args objs r objs' ks:=AC2 hS c h.out hc hn d a b
theorem Ih (hS:H2 S P)(hc:pr)(h:DG S P (Ig (stp P g)) fun env regs=>KG S P F (.pop .normal (stp P g).k ⟨env,regs⟩))(hp:pr=D6 (cnd P g):=by kernel_rfl)(c:Fm (stp P g)=true:=by kernel_rfl)(a:P.follows .mixedOrders=true:=by kernel_rfl)
 (b:Mp (Ig (stp P g)).all (Ig (stp P g)).cls=true:=by kernel_rfl):KG S P F g:=by
 have e:(fun env regs=>KG S P F (.pop .normal (stp P g).k ⟨env,regs⟩))=fun env regs=>G S P F (.pop .normal (stp P g).k ⟨env,regs⟩):=by funext env regs;exact propext ⟨fun h=>h.out,fun h=>⟨h⟩⟩
 rw[e]at h;exact⟨AC3 hS hc h.out hp c a b⟩
section
variable {sc:SC}{k:Env->D0->Prop}
theorem P7 (hc:pr)(h:k (Ga P sc).env (Ga P sc).regs)(hp:pr=D6 (Zh P sc):=by kernel_rfl)(a:(Ga P sc).rest.isEmpty=true:=by kernel_rfl):DG S P sc k:=⟨C_end hc h hp a⟩
theorem Ab2 (hc:pr){b:Bool}(ht:b=true->DG S P (Mv true (Ga P sc)) k)(a:b=false->DG S P (Mv false (Ga P sc)) k)(hp:pr=D6 (Zh P sc):=by kernel_rfl)(hb:Qx (Ga P sc)=some b:=by kernel_rfl):DG S P sc k:=
 ⟨AC4 hc (fun h=>(ht h).out) (fun h=>(a h).out) hp hb⟩
theorem Ab3 (ids:List Nat)(hc:pr){fn:FuncId}{args:List AV}{objs objs' : List Obj}{r:AV}{ks:List Bool}(a:FunO S fn args objs r objs' ks)(hk:DG S P (Ab0 ids ks r objs' (Ga P sc)) k)
 (hp:pr=D6 (Zh P sc):=by kernel_rfl) (b:WO ids (Ga P sc)=some (fn,args,objs):=by kernel_rfl) (hn:SA ids ks objs'.length (Ga P sc)=true:=by kernel_rfl):DG S P sc k:=⟨AN3 ids hc a hk.out hp b hn⟩
theorem BB (hc:pr){fn:FuncId}{args:List AV}{r:AV}(a:FunO S fn args [] r [] [])(hk:DG S P (Ab1 r (Ga P sc)) k)(hp:pr=D6 (Zh P sc):=by kernel_rfl)(b:WR (Ga P sc)=some (fn,args):=by kernel_rfl)(hn:WQ (Ga P sc)=true:=by kernel_rfl):DG S P sc k:=
 ⟨AN4 hc a hk.out hp b hn⟩
theorem CN (hc:pr){x:PV}(hk:DG S P (UN x (Ga P sc)) k)(hp:pr=D6 (Zh P sc):=by kernel_rfl)(b:(Fn P (Ga P sc)).map (·.2)=some x:=by kernel_rfl)(a:((Fn P (Ga P sc)).map fun q=>D6 q.1)=some (true=true):=by kernel_rfl):DG S P sc k:=⟨AC5 hc hk.out hp b a⟩
end
end
end Go.AM
namespace Go.AM
section
variable {S:AD}{P:Program}{F:K4}{g:Cfg}{pr:Prop}
def yldE:Cfg->Option (List PV×List (List PV))
 |.ops all (o::_) _ st=>match CV all st.env o,o.op with
  |some true,.call c=>match c.callee with
   |.value f=>match aev st.env f,JP st.regs (c.args.toList.map (aev st.env))with
    |.yf j,some (xs,regs)=>match A1 regs j with
     |some (.yld (ys::rest) true)=>if Ff j regs=true/\xs.length=ys.length then some (xs,ys::rest)else none
     |_=>none
    |_,_=>none
   |_=>none
  |_,_=>none
 |_=>none
def AN5 (b:Bool)(rest:List (List PV)):Cfg->Cfg
 |.ops all (o::ops) K st=>match o.op with
  |.call c=>match c.callee with
   |.value f=>match aev st.env f,JP st.regs (c.args.toList.map (aev st.env))with
    |.yf j,some (_,regs)=>Av6 o.dst (.p (.bb b)) st.env (ins j (.yld rest b) regs) fun st=>.ops all ops K st
    |_,_=>.ops all (o::ops) K st
   |_=>.ops all (o::ops) K st
  |_=>.ops all (o::ops) K st
 |g=>g
theorem SB:∀l:List PV,Ay5 l l
 |[]=>trivial
 |x::l=>⟨.inl rfl,SB l⟩
theorem AC6 (hS:H2 S P)(hc:pr){ys:List PV}{rest:List (List PV)}(ht:G S P F (AN5 true rest (stp P g)))(d:G S P F (AN5 false [] (stp P g)))(hp:pr=D6 (cnd P g))(a:yldE (stp P g)=some (ys,ys::rest)):G S P F g:=by
 refine FZ hS hc ?_ hp;generalize stp P g=g' at a ht d;unfold yldE at a;split at a
 ·split at a
  ·rename_i l i;split at a
   ·rename_i c;split at a
    ·rename_i hy j;split at a
     ·rename_i m;split at a
      ·rename_i f;simp only[AS5,AV2,AZ8]at a;obtain⟨rfl,rfl,rfl⟩:=a;simp only[AN5,i,c,hy,j,Ka]at ht d;refine AB1 hS l i c hy j m f.1 (SB _) fun b=>?_;cases b
       ·exact d
       ·exact ht
      ·cases a
     ·cases a
    ·cases a
   ·cases a
  ·cases a
 ·cases a
theorem Dt (hS:H2 S P)(hc:pr){ys:List PV}{rest:List (List PV)}(ht:KG S P F (AN5 true rest (stp P g)))(a:KG S P F (AN5 false [] (stp P g)))(hp:pr=D6 (cnd P g):=by kernel_rfl)(b:yldE (stp P g)=some (ys,ys::rest):=by kernel_rfl):KG S P F g:=
 ⟨AC6 hS hc ht.out a.out hp b⟩
def Ar {T:Type}(x:T)(o:Option (List T)):Option (List T):=o.map (x :: ·)
theorem Mw {T:Type}{x:T}{o:Option (List T)}{L:List T}(h:Ar x o=some L):∃L',L=x::L' /\ o=some L':=by simp only[Ar,AU6]at h;obtain⟨l,h1,a⟩:=h;exact⟨l,a.symm,h1⟩
theorem Gp (hS:H2 S P)(hc:pr){R A:Type}{body:(A->Option R)->A->Option R}{N:Nat}{a0:A}{r0:R}(h:V9 N body a0=some r0)(s:A->R->St){ids:List (Nat×Nat)}
 (f:∀(X:Type) (s' : X->St) (J:X->Prop) (m:X->Nat) (n:Nat) (b:A->Option R) (a:A) (r:R),
  (∀(g' : Cfg) (ids:List (Nat×Nat)) (pr:Prop) (a:A) (r:R),pr->b a=some r->(hp:pr=D6 (cnd P g'):=by kernel_rfl)->(d:stp P g' = .pop .normal (.lp X s' J m n::(stp P g).k) (stp P g').st:=by kernel_rfl)->(hle:KLe ids (stp P g').st (s a r):=by exact kl)->KG S P F g') ->
  body b a=some r->KG S P F (.code (UK (stp P g)) (.lp X s' J m n::(stp P g).k) (s a r))) (hp:pr=D6 (cnd P g):=by kernel_rfl) (hl:KJ (stp P g)=true:=by kernel_rfl) (hle:KLe ids (stp P g).st (s a0 r0):=by exact kl):KG S P F g:=by
 refine⟨FZ hS hc ?_ hp⟩;rw[Aa9 hl];refine Au9 hS (X:=Nat×A×R) (fun x=>s x.2.1 x.2.2) (fun x=>V9 x.1 body x.2.1=some x.2.2) (fun x=>x.1) (N,a0,r0) ids hle.out h ?_;rintro⟨n,a,r⟩ hx;cases n with
 |zero=>cases hx
 |succ n=>exact (f _ _ _ _ _ (V9 n body) a r (fun g' ids pr a r hc c hp d hle=>⟨FZ hS hc (by rw[d];exact ZA hS (n,a,r) ids hle.out c (Nat.lt_succ_self n)) hp⟩) hx).out
theorem Qy (hS:H2 S P)(hc:pr){R A B:Type}{body:(A->B->Option R)->A->B->Option R}{N:Nat}{a0:A}{b0:B}{r0:R}(h:P4 N body a0 b0=some r0)(s:A->B->R->St){ids:List (Nat×Nat)}
 (d:∀(X:Type) (s' : X->St) (J:X->Prop) (m:X->Nat) (n:Nat) (c:A->B->Option R) (a:A) (b:B) (r:R),
  (∀(g' : Cfg) (ids:List (Nat×Nat)) (pr:Prop) (a:A) (b:B) (r:R),pr->c a b=some r->(hp:pr=D6 (cnd P g'):=by kernel_rfl)->(o:stp P g' = .pop .normal (.lp X s' J m n::(stp P g).k) (stp P g').st:=by kernel_rfl)->(hle:KLe ids (stp P g').st (s a b r):=by exact kl)->KG S P F g') ->
  body c a b=some r->KG S P F (.code (UK (stp P g)) (.lp X s' J m n::(stp P g).k) (s a b r))) (hp:pr=D6 (cnd P g):=by kernel_rfl) (hl:KJ (stp P g)=true:=by kernel_rfl) (hle:KLe ids (stp P g).st (s a0 b0 r0):=by exact kl):KG S P F g:=
 Gp hS hc h (fun x r=>s x.1 x.2 r) (fun X s' J m n c a r hb=>d X s' J m n (fun a b=>c (a,b)) a.1 a.2 r fun g' ids pr a b r h1 f i j l=>hb g' ids pr (a,b) r h1 f i j l) hp hl hle
theorem Fo (hS:H2 S P){f:FuncId}{fn:Func}{first caps:List AV}{objs:List Obj}{L:List (List PV)}(i:P.funcs[f]? = some fn)
 (h:KG S P (Cv S P (objs++[Obj.yld L true]).length fn.results.toList fun r objs' ks=>∃b,objs'[objs.length]? = some (.yld [] b)/\ks[objs.length]? = some true/\∃a,r=.ret a) (.code (fn.body.getD .skip) [] { env:=argEnv (first ++ .yf objs.length::caps),regs:=objRegs (objs++[Obj.yld L true]) }))
 (hc:fn.body.isSome=true:=by kernel_rfl) (hn:Nat.ble (first ++ .yf objs.length::caps).length fn.ntmps=true:=by kernel_rfl) (j:Nat.blt (objs++[Obj.yld L true]).length 1000=true:=by kernel_rfl)
 (d:AE fn.ntmps (fn.body.getD .skip)=true:=by kernel_rfl) (g:(fn.name == "runtime.NumGoroutine")=false:=by kernel_rfl):Fj S f first caps objs L:=by
 obtain⟨code,c⟩:=AU2.1 hc;rw[c,AT2]at d h;exact JZ hS i c (AZ2 hn) (by simpa[Bd4]using j) rfl d g h.out
def SD (P:Program)(ids:List Nat):Cfg->Option (FuncId×List AV×List AV×List Obj)
 |.code (.rangeFunc op _ _ _) _ st=>match Ej st.env op with
  |some (f,first,caps)=>match P.funcs[f]?,K5 ids st.regs ids,Dg ids first,Dg ids caps with
   |some fn,some objs,some as,some bs=>if (fn.body.isSome && !(fn.name == "runtime.NumGoroutine")&&EB objs&&G8 ids&&(objs.length==ids.length)&&Nat.blt ids.length 1000) then some (f,as,bs,objs)else none
   |_,_,_,_=>none
  |none=>none
 |_=>none
def Hy:Cfg->Array Tmp
 |.code (.rangeFunc _ ps _ _) _ _=>ps
 |_=>#[]
def SF:Cfg->Code
 |.code (.rangeFunc _ _ a _) _ _=>a
 |_=>.skip
def SH:Cfg->Code
 |.code (.rangeFunc _ _ _ b) _ _=>b
 |_=>.skip
def SI (ids ts:List Nat)(g:Cfg):St:=⟨X3 ts (ts.map (get g.st.env)),P6 ids (ids.map fun _=>false) g.st.regs⟩
def rst (gh:Nat)(t:St):St:=⟨[],ins gh (.ghost (t.env.map (·.2))) t.regs⟩
def SJ (gh:Nat)(ps:Array Tmp)(ys:List PV)(t:St):St:=⟨ID ps.toList ys t.env,ins gh (.ghost (t.env.map (·.2))) t.regs⟩
def exitE:Cfg->LQ
 |.pop e _ _=>e
 |_=>.normal
def Aw0:Cfg->Bool
 |.pop .ret [] _=>true
 |.pop (.exit _) [] _=>true
 |_=>false
theorem Ab4 (regs:D0)(d:Nat)(x:Obj):A1 (ins d x regs) d=some x:=by
 induction regs with
 |nil=>simp[ins,A1]
 |cons p r ih=>
  obtain⟨i,b⟩:=p;simp only[ins];split
  ·simp[A1]
  split
  ·simp[A1]
  ·rename_i h1 a;simp only[A1,a,if_false,ih]
theorem Gq (gh:Nat)(t:St):A1 (rst gh t).regs gh=some (.ghost (t.env.map fun p=>p.2)):=by unfold rst;exact Ab4 _ _ _
def Mx (ids:List Nat):Cfg->Option (FuncId×List AV×List AV×List Obj)
 |.code (.rangeFunc op _ _ _) _ st=>match Ej st.env op with
  |some (f,first,caps)=>match K5 ids st.regs ids,Dg ids first,Dg ids caps with
   |some objs,some as,some bs=>if (EB objs&&G8 ids&&(objs.length==ids.length)&&Nat.blt ids.length 1000) then some (f,as,bs,objs)else none
   |_,_,_=>none
  |none=>none
 |_=>none
theorem Hb {ids:List Nat}{g:Cfg}{q:FuncId×List AV×List AV×List Obj}(h:SD P ids g=some q):Mx ids g=some q/\∃fn,P.funcs[q.1]? = some fn/\fn.body.isSome=true/\(fn.name == "runtime.NumGoroutine")=false:=by
 unfold SD at h;split at h
 ·split at h
  ·rename_i a;split at h
   ·rename_i fn objs' as' bs' h1 c d f;split at h
    ·rename_i b;cases h;simp only[AS7,AV0,beq_iff_eq]at b;obtain⟨⟨⟨⟨⟨e1,e2⟩,e3⟩,e4⟩,e5⟩,e6⟩:=b;refine⟨?_,fn,h1,e1,by simpa using e2⟩;simp only[Mx,a,c,d,f,e3,e4,e5,e6,beq_self_eq_true,Bg4,if_true]
    ·cases h
   ·cases h
  ·cases h
 ·cases h
theorem Qz (hS:H2 S P)(hc:pr){f:FuncId}{as bs:List AV}{objs:List Obj}{R T A:Type}{enc:T->List PV}{L:List T}{mb:(A->Option R)->T->A->Option R}{mk:A->Option R}{a0:A}{r:R}(o:∃fn,P.funcs[f]? = some fn/\fn.body.isSome=true/\(fn.name == "runtime.NumGoroutine")=false)
 (ids ts:List Nat) (gh:Nat) (s:A->St) {idl:List (Nat×Nat)}(h:O5 L mb mk a0=some r) (x:Fj S f as bs objs (L.map enc))
 (i:∀t:T,(enc t).length=(Hy (stp P g)).size) (hk:∀a,(s a).env.map (·.1)=ts) (hn:∀a,A1 (s a).regs gh=none) (m:∀a,(⟨X3 ts ((s a).env.map (·.2)),del gh (ins gh (.ghost ((s a).env.map (·.2))) (s a).regs)⟩:St)=s a)
 (c:∀(t:T) (next:St->Prop) (d:A->Option R) (a:A),
  (∀(g' : Cfg) (ids:List (Nat×Nat)) (pr:Prop) (a:A),pr->d a=some r->(hp:pr=D6 (cnd P g'):=by kernel_rfl)->(b:stp P g' = .pop .normal [] (stp P g').st:=by kernel_rfl)->(hle:KLe ids (stp P g').st (rst gh (s a)):=by exact kl)->KG S P (El S gh ts next (kp S P (stp P g).k F)) g') ->
  mb d t a=some r->KG S P (Bz S P (SH (stp P g)) gh ts next (kp S P (stp P g).k F)) (.code (SF (stp P g)) [] (SJ gh (Hy (stp P g)) (enc t) (s a))))
 (j:∀a,mk a=some r->KG S P F (.pop .normal (stp P g).k (s a)))
 (hp:pr=D6 (cnd P g):=by kernel_rfl) (b:Mx ids (stp P g)=some (f,as,bs,objs):=by kernel_rfl) (q:Nat.blt gh 1000=true:=by kernel_rfl) (n:A1 (stp P g).st.regs gh=none:=by kernel_rfl) (u:G8 ts=true:=by kernel_rfl)
 (hle:KLe idl (SI ids ts (stp P g)) (s a0):=by exact kl):KG S P F g:=by
 refine⟨FZ hS hc ?_ hp⟩;generalize stp P g=g1 at i c j b n hle;unfold Mx at b;split at b
 ·rename_i op ps asg body K st;split at b
  ·rename_i f' first caps v
   split at b
   ·rename_i objs' as' bs' y z h4;split at b
    ·rename_i w;simp only[AS5,AV2]at b;obtain⟨rfl,rfl,rfl,rfl⟩:=b;simp only[AS7,AV0,beq_iff_eq]at w;obtain⟨⟨⟨e3,e4⟩,e5⟩,e6⟩:=w;refine AB4 hS ids ts gh s idl h x v o y e3 e4 z h4 e5 q n e6 u i hle.out hk hn (fun t next d a hb hm=>?_) (fun a hm=>(j a hm).out);refine (c t next d a (fun g' ids' pr a hc l hp b hle=>⟨FZ hS hc ?_ hp⟩) hm).out;rw[b];have hl:((s a).env.map (·.2)).length=ts.length:=by rw[<- hk a];simp
     refine hb _ (rst gh (s a)) ((s a).env.map fun p=>p.2) ids' a hle.out (Gq gh (s a)) hl ?_ (m a) l
     have:=congrArg St.regs (m a)
     simp only at this;show A1 (del gh (ins gh _ _)) gh=none;rw[this];exact hn a
    ·cases b
   ·cases b
  ·cases b
 ·cases b
theorem Em (hS:H2 S P)(hc:pr){f:FuncId}{as bs:List AV}{objs:List Obj}{R T A:Type}{enc:T->List PV}{L:List T}{mb:(A->Option R)->T->A->Option R}{mk:A->Option R}{a0:A}{r:R}
 (ids ts:List Nat) (gh:Nat) (s:A->St) {idl:List (Nat×Nat)}(h:O5 L mb mk a0=some r) (q:Fj S f as bs objs (L.map enc))
 (d:∀t:T,(enc t).length=(Hy (stp P g)).size) (hk:∀a,(s a).env.map (·.1)=ts) (hn:∀a,A1 (s a).regs gh=none) (j:∀a,(⟨X3 ts ((s a).env.map (·.2)),del gh (ins gh (.ghost ((s a).env.map (·.2))) (s a).regs)⟩:St)=s a)
 (b:∀(t:T) (next:St->Prop) (c:A->Option R) (a:A),
  (∀(g' : Cfg) (ids:List (Nat×Nat)) (pr:Prop) (a:A),pr->c a=some r->(hp:pr=D6 (cnd P g'):=by kernel_rfl)->(l:stp P g' = .pop .normal [] (stp P g').st:=by kernel_rfl)->(hle:KLe ids (stp P g').st (rst gh (s a)):=by exact kl)->KG S P (El S gh ts next (kp S P (stp P g).k F)) g') ->
  mb c t a=some r->KG S P (Bz S P (SH (stp P g)) gh ts next (kp S P (stp P g).k F)) (.code (SF (stp P g)) [] (SJ gh (Hy (stp P g)) (enc t) (s a))))
 (i:∀a,mk a=some r->KG S P F (.pop .normal (stp P g).k (s a)))
 (hp:pr=D6 (cnd P g):=by kernel_rfl) (l:SD P ids (stp P g)=some (f,as,bs,objs):=by kernel_rfl) (m:Nat.blt gh 1000=true:=by kernel_rfl) (n:A1 (stp P g).st.regs gh=none:=by kernel_rfl) (o:G8 ts=true:=by kernel_rfl)
 (hle:KLe idl (SI ids ts (stp P g)) (s a0):=by exact kl):KG S P F g:=
 Qz hS hc (Hb l).2 ids ts gh s h q d hk hn j b i hp (Hb l).1 m n o hle
theorem Ab5 (hS:H2 S P)(hc:pr){f:FuncId}{as bs:List AV}{objs:List Obj}{R T A:Type}{enc:T->List PV}{L:List T}{mb:(A->Option R)->T->A->Option R}{mk:A->Option R}{a0:A}{r0:R}(o:∃fn,P.funcs[f]? = some fn/\fn.body.isSome=true/\(fn.name == "runtime.NumGoroutine")=false)
 (ids ts:List Nat) (gh:Nat) (s:A->R->St) {idl:List (Nat×Nat)}(h:O5 L mb mk a0=some r0) (x:Fj S f as bs objs (L.map enc))
 (i:∀t:T,(enc t).length=(Hy (stp P g)).size) (hk:∀a r,(s a r).env.map (·.1)=ts) (hn:∀a r,A1 (s a r).regs gh=none) (m:∀a r,(⟨X3 ts ((s a r).env.map (·.2)),del gh (ins gh (.ghost ((s a r).env.map (·.2))) (s a r).regs)⟩:St)=s a r)
 (c:∀(t:T) (next:St->Prop) (d:A->Option R) (a:A) (r:R),
  (∀(g' : Cfg) (ids:List (Nat×Nat)) (pr:Prop) (a:A) (r:R),pr->d a=some r->(hp:pr=D6 (cnd P g'):=by kernel_rfl)->(b:stp P g' = .pop .normal [] (stp P g').st:=by kernel_rfl)->(hle:KLe ids (stp P g').st (rst gh (s a r)):=by exact kl)->KG S P (El S gh ts next (kp S P (stp P g).k F)) g') ->
  mb d t a=some r->KG S P (Bz S P (SH (stp P g)) gh ts next (kp S P (stp P g).k F)) (.code (SF (stp P g)) [] (SJ gh (Hy (stp P g)) (enc t) (s a r))))
 (j:∀a r,mk a=some r->KG S P F (.pop .normal (stp P g).k (s a r)))
 (hp:pr=D6 (cnd P g):=by kernel_rfl) (b:Mx ids (stp P g)=some (f,as,bs,objs):=by kernel_rfl) (q:Nat.blt gh 1000=true:=by kernel_rfl) (n:A1 (stp P g).st.regs gh=none:=by kernel_rfl) (u:G8 ts=true:=by kernel_rfl)
 (hle:KLe idl (SI ids ts (stp P g)) (s a0 r0):=by exact kl):KG S P F g:=by
 refine⟨FZ hS hc ?_ hp⟩;generalize stp P g=g1 at i c j b n hle;unfold Mx at b;split at b
 ·rename_i op ps asg body K st;split at b
  ·rename_i f' first caps v
   split at b
   ·rename_i objs' as' bs' y z h4;split at b
    ·rename_i w;simp only[AS5,AV2]at b;obtain⟨rfl,rfl,rfl,rfl⟩:=b;simp only[AS7,AV0,beq_iff_eq]at w;obtain⟨⟨⟨e3,e4⟩,e5⟩,e6⟩:=w;refine An3 hS ids ts gh s idl h x v o y e3 e4 z h4 e5 q n e6 u i hle.out hk hn (fun t next d a r hb hm=>?_) (fun a r hm=>(j a r hm).out);refine (c t next d a r (fun g' ids' pr a r hc l hp b hle=>⟨FZ hS hc ?_ hp⟩) hm).out;rw[b];have hl:((s a r).env.map (·.2)).length=ts.length:=by rw[<- hk a r];simp
     refine hb _ (rst gh (s a r)) ((s a r).env.map fun p=>p.2) ids' a r hle.out (Gq gh (s a r)) hl ?_ (m a r) l
     have:=congrArg St.regs (m a r)
     simp only at this;show A1 (del gh (ins gh _ _)) gh=none;rw[this];exact hn a r
    ·cases b
   ·cases b
  ·cases b
 ·cases b
theorem Ao2 (hS:H2 S P)(hc:pr){f:FuncId}{as bs:List AV}{objs:List Obj}{R T A:Type}{enc:T->List PV}{L:List T}{mb:(A->Option R)->T->A->Option R}{mk:A->Option R}{a0:A}{r0:R}
 (ids ts:List Nat) (gh:Nat) (s:A->R->St) {idl:List (Nat×Nat)}(h:O5 L mb mk a0=some r0) (q:Fj S f as bs objs (L.map enc))
 (d:∀t:T,(enc t).length=(Hy (stp P g)).size) (hk:∀a r,(s a r).env.map (·.1)=ts) (hn:∀a r,A1 (s a r).regs gh=none) (j:∀a r,(⟨X3 ts ((s a r).env.map (·.2)),del gh (ins gh (.ghost ((s a r).env.map (·.2))) (s a r).regs)⟩:St)=s a r)
 (b:∀(t:T) (next:St->Prop) (c:A->Option R) (a:A) (r:R),
  (∀(g' : Cfg) (ids:List (Nat×Nat)) (pr:Prop) (a:A) (r:R),pr->c a=some r->(hp:pr=D6 (cnd P g'):=by kernel_rfl)->(l:stp P g' = .pop .normal [] (stp P g').st:=by kernel_rfl)->(hle:KLe ids (stp P g').st (rst gh (s a r)):=by exact kl)->KG S P (El S gh ts next (kp S P (stp P g).k F)) g') ->
  mb c t a=some r->KG S P (Bz S P (SH (stp P g)) gh ts next (kp S P (stp P g).k F)) (.code (SF (stp P g)) [] (SJ gh (Hy (stp P g)) (enc t) (s a r))))
 (i:∀a r,mk a=some r->KG S P F (.pop .normal (stp P g).k (s a r)))
 (hp:pr=D6 (cnd P g):=by kernel_rfl) (l:SD P ids (stp P g)=some (f,as,bs,objs):=by kernel_rfl) (m:Nat.blt gh 1000=true:=by kernel_rfl) (n:A1 (stp P g).st.regs gh=none:=by kernel_rfl) (o:G8 ts=true:=by kernel_rfl)
 (hle:KLe idl (SI ids ts (stp P g)) (s a0 r0):=by exact kl):KG S P F g:=
 Ab5 hS hc (Hb l).2 ids ts gh s h q d hk hn j b i hp (Hb l).1 m n o hle
def AR6 (t:Nat)(a:AV):Cfg->Cfg
 |.ops all rest K st=>mkO (ins t a st.env) st.regs fun env regs=>.ops all rest K ⟨env,regs⟩
 |g=>g
theorem AC7 (hS:H2 S P)(hc:pr)(t:Nat){k n:Nat}{f:Nat->List PV}(b:n=0->KG S P F (AR6 t (.p (.v (.slice none 0 0))) (stp P g)))(h1:KG S P F (AR6 t (.p (.sl true k n f)) (stp P g)))
 (hp:pr=D6 (cnd P g):=by kernel_rfl) (a:Gm (stp P g)=true:=by kernel_rfl) (c:get (stp P g).st.env t=.p (.sl false k n f):=by kernel_rfl):KG S P F g:=by
 refine⟨FZ hS hc ?_ hp⟩;generalize stp P g=g1 at b h1 a c;unfold Gm at a;split at a
 ·refine AK1 hS t c (fun h=>?_) ?_
  ·have:=(b h).out
   simpa only[AR6,EK]using this
  ·have:=h1.out
   simpa only[AR6,EK]using this
 ·cases a
def frzC (j:Nat)(ps:List PV):Cfg->Cfg
 |.code c K st=>mkO (Zf j ps st.env) (ins j .dead st.regs) fun env regs=>.code c K ⟨env,regs⟩
 |g=>g
theorem Ab6 (hS:H2 S P)(hc:pr)(j:Nat)(ps:List PV)(hk:KG S P F (frzC j ps (stp P g)))(hp:pr=D6 (cnd P g):=by kernel_rfl)(c:Fm (stp P g)=true:=by kernel_rfl)(b:P.follows .mixedOrders=true:=by kernel_rfl)
 (a:Kx (Ig (stp P g)).all=true:=by kernel_rfl) (f:A1 (stp P g).st.regs j=some (.cells (ps.map .p)):=by kernel_rfl):KG S P F g:=by
 refine⟨FZ hS hc ?_ hp⟩;generalize stp P g=g1 at hk c a f;unfold Fm at c;split at c
 ·rename_i id ops K st;have hk:=hk.out;simp only[frzC,EK]at hk;show awp S P (.region id ops true) (kp S P K F) st;simp only[awp,if_true];have d : Aj1 S P ops.toList (kp S P K F) ⟨Zf j ps st.env,ins j .dead st.regs⟩:=by
   have:awp S P (.region id ops true) (kp S P K F) ⟨Zf j ps st.env,ins j .dead st.regs⟩:=hk
   simpa only[awp,if_true]using this
  exact Am9 hS b a (hS.frz st j ps _ f d)
 ·cases c
def clsN (js:List Nat):Nat->List Oper->List Cls
 |_,[]=>[]
 |i,o::r=>(if js.contains i then .n else if js.contains (i+1000)then .w else AR3 o.op)::clsN js (i+1) r
def QA (js:List Nat):Cfg->SC
 |.code (.region _ ops true) _ st=>⟨ops.toList,clsN js 0 ops.toList,ops.toList,st.env,st.regs,[]⟩
 |_=>⟨[],[],[],[],[],[]⟩
theorem H7 (hS:H2 S P)(hc:pr)(js:List Nat)(h:DG S P (QA js (stp P g)) fun env regs=>KG S P F (.pop .normal (stp P g).k ⟨env,regs⟩))(hp:pr=D6 (cnd P g):=by kernel_rfl)(c:Fm (stp P g)=true:=by kernel_rfl)(a:P.follows .mixedOrders=true:=by kernel_rfl)
 (b:Mp (QA js (stp P g)).all (QA js (stp P g)).cls=true:=by kernel_rfl):KG S P F g:=by
 have e:(fun env regs=>KG S P F (.pop .normal (stp P g).k ⟨env,regs⟩))=fun env regs=>G S P F (.pop .normal (stp P g).k ⟨env,regs⟩):=by funext env regs;exact propext ⟨fun h=>h.out,fun h=>⟨h⟩⟩
 rw[e]at h;refine⟨FZ hS hc ?_ hp⟩;have h:=h.out;generalize stp P g=g' at c b h;unfold Fm at c;split at c
 ·exact Aa1 hS _ a b h
 ·cases c
def clsL (ls:List (Nat×Cls)):Nat->List Oper->List Cls
 |_,[]=>[]
 |i,o::r=>(match ls.find? (fun q=>q.1==i)with|some q=>q.2|none=>AR3 o.op)::clsL ls (i+1) r
def QB (ls:List (Nat×Cls)):Cfg->SC
 |.code (.region _ ops true) _ st=>⟨ops.toList,clsL ls 0 ops.toList,ops.toList,st.env,st.regs,[]⟩
 |_=>⟨[],[],[],[],[],[]⟩
theorem Z8 (hS:H2 S P)(hc:pr)(ls:List (Nat×Cls))(h:DG S P (QB ls (stp P g)) fun env regs=>KG S P F (.pop .normal (stp P g).k ⟨env,regs⟩))(hp:pr=D6 (cnd P g):=by kernel_rfl)(c:Fm (stp P g)=true:=by kernel_rfl)(a:P.follows .mixedOrders=true:=by kernel_rfl)
 (b:Mp (QB ls (stp P g)).all (QB ls (stp P g)).cls=true:=by kernel_rfl):KG S P F g:=by
 have e:(fun env regs=>KG S P F (.pop .normal (stp P g).k ⟨env,regs⟩))=fun env regs=>G S P F (.pop .normal (stp P g).k ⟨env,regs⟩):=by funext env regs;exact propext ⟨fun h=>h.out,fun h=>⟨h⟩⟩
 rw[e]at h;refine⟨FZ hS hc ?_ hp⟩;have h:=h.out;generalize stp P g=g' at c b h;unfold Fm at c;split at c
 ·exact Aa1 hS _ a b h
 ·cases c
theorem Ii (hS:H2 S P)(hc:pr){body:Code}{gh:Nat}{ts:List Nat}{next:St->Prop}{Q:K4}(h:KG S P (El S gh ts next Q) (.code body [] (stp P g).st))(hp:pr=D6 (cnd P g):=by kernel_rfl)(a:stp P g=.pop .normal [] (stp P g).st:=by kernel_rfl):KG S P (Bz S P body gh ts next Q) g:=by refine⟨FZ hS hc ?_ hp⟩;rw[a];exact G_asg hS h.out
theorem LG (hS:H2 S P)(hc:pr){K:List It}{gh:Nat}{ts:List Nat}{next:St->Prop}(t:St){ids:List (Nat×Nat)}(hk:KG S P F (.pop (exitE (stp P g)) K t))(hp:pr=D6 (cnd P g):=by kernel_rfl)(a:Aw0 (stp P g)=true:=by kernel_rfl)
 (hle:KLe ids (stp P g).st (rst gh t):=by exact kl) (h1:t.env.map (·.1)=ts:=by kernel_rfl) (d:A1 t.regs gh=none:=by kernel_rfl) (b:(⟨X3 ts (t.env.map (·.2)),del gh (ins gh (.ghost (t.env.map (·.2))) t.regs)⟩:St)=t:=by kernel_rfl):KG S P (El S gh ts next (kp S P K F)) g:=by
 refine⟨FZ hS hc ?_ hp⟩;generalize stp P g=g1 at hk a hle;have hl:(t.env.map (·.2)).length=ts.length:=by rw[<- h1];simp
 have c:A1 (del gh (ins gh (.ghost (t.env.map (·.2))) t.regs)) gh=none:=by
  have:=congrArg St.regs b
  simp only at this;rw[this];exact d
 unfold Aw0 at a;split at a
 ·exact WH hS trivial (rst gh t) ids hle.out (Gq gh t) hl c (by rw[show (⟨X3 ts (t.env.map (·.2)),del gh (rst gh t).regs⟩:St)=t from b];exact hk.out)
 ·exact WH hS trivial (rst gh t) ids hle.out (Gq gh t) hl c (by rw[show (⟨X3 ts (t.env.map (·.2)),del gh (rst gh t).regs⟩:St)=t from b];exact hk.out)
 ·cases a
end
end Go.AM
namespace Go.AM
section
variable {S:AD}{P:Program}{F:K4}{g:Cfg}{pr:Prop}
def AN6 (j:Nat)(ps:List PV):Cfg->Cfg
 |.ops all rest K st=>mkO (Zf j ps st.env) (ins j .dead st.regs) fun env regs=>.ops all rest K ⟨env,regs⟩
 |g=>g
end
section
variable {S:AD}{P:Program}{F:K4}{g:Cfg}{pr:Prop}
theorem N2 (hS:H2 S P)(hc:pr)(d:Nat)(st:St){ids:List (Nat×Nat)}(hk:KG S P F (opsS st (Gl P d g)))(hp:pr=D6 (AI3 P d g):=by kernel_rfl)(a:Gm (Gl P d g)=true:=by kernel_rfl)(hle:KLe ids (Gl P d g).st st:=by exact kl):KG S P F g:=by
 refine⟨(Gd (u:=some d) (F:=F) hS 400 [] g (by subst hp;exact hc)).2 ?_⟩;have hk:=hk.out;have hle:=hle.out;show G S P F (Gl P d g);generalize Gl P d g=g' at a hle hk;unfold Gm at a;split at a
 ·exact Aa7 hS st ids hle hk
 ·cases a
end
end Go.AM
namespace Go.AM
section
variable {S:AD}{P:Program}{F:K4}{g:Cfg}{pr:Prop}
def AN7 (S:AD)(P:Program)(pv:PV)(m:String)(as:List AV)(r:AV):Prop:=∃t y fn,pv=.iface t y/\RK P t m=some fn/\Zz S fn (.p (nP y)::as) r
def invE:Cfg->Option (PV×String×List AV)
 |.ops all (o::_) _ st=>match CV all st.env o,o.op with
  |some true,.call c=>match c.callee with
   |.invoke rv m=>match NP st.regs (c.args.toList.map (aev st.env)),aev st.env rv with
    |some (as,_),.p pv=>match Dg [] as with
     |some as'=>some (pv,m,as')
     |none=>none
    |_,_=>none
   |_=>none
  |_,_=>none
 |_=>none
def invK (r:AV):Cfg->Cfg
 |.ops all (o::rest) K st=>match o.op with
  |.call c=>match NP st.regs (c.args.toList.map (aev st.env))with
   |some (_,regs)=>Av6 o.dst (unA [] r) st.env regs fun st=>.ops all rest K st
   |none=>.ops all (o::rest) K st
  |_=>.ops all (o::rest) K st
 |g=>g
theorem LH (hS:H2 S P)(hc:pr){pv:PV}{m:String}{as:List AV}{r:AV}(b:AN7 S P pv m as r)(hk:KG S P F (invK r (stp P g)))
 (hp:pr=D6 (cnd P g):=by kernel_rfl) (a:invE (stp P g)=some (pv,m,as):=by kernel_rfl):KG S P F g:=by
 obtain⟨t,y,fn,rfl,hm,b⟩:=b;refine⟨FZ hS hc ?_ hp⟩;have hk:=hk.out;generalize stp P g=g' at a hk;unfold invE at a;split at a
 ·split at a
  ·rename_i i f;split at a
   ·rename_i c;split at a
    ·rename_i ha d;split at a
     ·rename_i j;cases a;simp only[invK,f,ha,Ka]at hk;refine Am6 hS i f c ha d hm (args:=.p (nP y)::_) ?_ b hk;simp only[Dg,RC,j]
     ·cases a
    ·cases a
   ·cases a
  ·cases a
 ·cases a
theorem I7 (hS:H2 S P)(hc:pr)(d j:Nat)(ps:List PV)(hk:KG S P F (AN6 j ps (Gl P d g)))(hp:pr=D6 (AI3 P d g):=by kernel_rfl)(a:Gm (Gl P d g)=true:=by kernel_rfl)
 (b:A1 (Gl P d g).st.regs j=some (.cells (ps.map .p)):=by kernel_rfl):KG S P F g:=by
 refine⟨(Gd (u:=some d) (F:=F) hS 400 [] g (by subst hp;exact hc)).2 ?_⟩;have hk:=hk.out;show G S P F (Gl P d g);generalize Gl P d g=g' at a b hk;unfold Gm at a;split at a
 ·simp only[AN6,EK]at hk;exact RR hS (hS.frz _ j ps _ b hk)
 ·cases a
def Ao3 (j j' : Nat):AV->AV
 |.vecp i m=>if i=j then .vec j' else .vecp i m
 |a=>a
def Ao4 (j j' : Nat):List AV->List AV
 |[]=>[]
 |a::r=>Ao3 j j' a::Ao4 j j' r
def Ao5 (j j' : Nat):Env->Env
 |[]=>[]
 |(t,a)::r=>(t,Ao3 j j' a)::Ao5 j j' r
def Ym (j j' : Nat):D0->D0
 |[]=>[]
 |(t,.cells cs)::r=>(t,.cells (Ao4 j j' cs))::Ym j j' r
 |(t,o)::r=>(t,o)::Ym j j' r
def msA (j:Nat)(r:List Nat):AV->List Nat
 |.vecp i m=>if i=j then m::r else r
 |_=>r
def msL (j:Nat):List AV->List Nat
 |[]=>[]
 |a::r=>msA j (msL j r) a
def msE (j:Nat):Env->List Nat
 |[]=>[]
 |(_,a)::r=>msA j (msE j r) a
def msR (j:Nat):D0->List Nat
 |[]=>[]
 |(_,.cells cs)::r=>msL j cs++msR j r
 |_::r=>msR j r
theorem Ab7 {j:Nat}{r:List Nat}{a:AV}:∀x∈r,x∈msA j r a:=by
 intro x hx;unfold msA;split
 ·split
  ·exact AU8 _ hx
  ·exact hx
 ·exact hx
theorem WS {j n j' : Nat}{r:List Nat}{a:AV}(h:∀m∈msA j r a,m=n):Aj4 j n j' a=Ao3 j j' a:=by
 cases a with
 |vecp i m=>
  simp only[Aj4,Ao3];by_cases e:i=j
  ·have:m=n:=h m (by simp[msA,e])
   simp[e,this]
  ·simp[e]
 |_=>rfl
theorem WT {j n j' : Nat}:∀{l:List AV},(∀m∈msL j l,m=n)->Au5 j n j' l=Ao4 j j' l
 |[],_=>rfl
 |a::r,h=>by simp only[Au5,Ao4,WS (r:=msL j r) h,WT fun m hm=>h m (Ab7 m hm)]
theorem WU {j n j' : Nat}:∀{l:Env},(∀m∈msE j l,m=n)->Au4 j n j' l=Ao5 j j' l
 |[],_=>rfl
 |(t,a)::r,h=>by simp only[Au4,Ao5,WS (r:=msE j r) h,WU fun m hm=>h m (Ab7 m hm)]
theorem QC {j n j' : Nat}:∀{l:D0},(∀m∈msR j l,m=n)->Wn j n j' l=Ym j j' l
 |[],_=>rfl
 |(t,o)::r,h=>by
  cases o with
  |cells cs=>simp only[Wn,Ym,AI0,WT fun m hm=>h m (AU9 _ hm),QC fun m hm=>h m (AT7 _ hm)]
  |_=>simp only[Wn,Ym,AI0,QC (l:=r) h]
def truC (j j' : Nat)(e:TypeId)(k n:Nat)(f:Nat->List PV):Cfg->Cfg
 |.ops all rest K st=>mkO (Ao5 j j' st.env) (ins j' (.vec e k n f false) (ins j .dead (Ym j j' st.regs))) fun env regs=>.ops all rest K ⟨env,regs⟩
 |g=>g
theorem AN8 (hS:H2 S P)(hc:pr)(d j n j' : Nat){e:TypeId}{k N:Nat}{f:Nat->List PV}(hn:n<=N)(hk:KG S P F (truC j j' e k n f (Gl P d g)))(hp:pr=D6 (AI3 P d g):=by kernel_rfl)(b:Gm (Gl P d g)=true:=by kernel_rfl)
 (c:A1 (Gl P d g).st.regs j=some (.vec e k N f false):=by kernel_rfl) (i:A1 (Gl P d g).st.regs j' = none:=by kernel_rfl) (h1:Nat.ble 1000 j' = true:=by kernel_rfl)
 (hm:(msE j (Gl P d g).st.env++msR j (Gl P d g).st.regs)=List.replicate (msE j (Gl P d g).st.env++msR j (Gl P d g).st.regs).length n:=by kernel_rfl):KG S P F g:=by
 refine⟨(Gd (u:=some d) (F:=F) hS 400 [] g (by subst hp;exact hc)).2 ?_⟩;have hk:=hk.out;show G S P F (Gl P d g);generalize Gl P d g=g' at b c i hk hm;unfold Gm at b;split at b
 ·rename_i st;have a:∀m∈msE j st.env++msR j st.regs,m=n:=fun m h=>by rw[show msE j st.env++msR j st.regs=_ from hm]at h;exact (List.mem_replicate.1 h).2
  simp only[truC,EK]at hk;refine RR hS (hS.trunc _ j j' n N k e f _ c hn i (AZ2 h1) ?_);rw[WU fun m h=>a m (AU9 _ h),QC fun m h=>a m (AT7 _ h)];exact hk
 ·cases b
end
abbrev cA {α : Type}(n:Nat)(c : α -> PV)(f:Nat -> α):List PV:=Bv n (fun i=>c (f i))
theorem F3 (n:Nat)(f:Nat->PV):(Bv n f).length=n:=by simp[Bv]
theorem D5 (n:Nat)(f:Nat->PV):∀i,i<n->[(Bv n f).getD i default]=[f i]:=by intro i a;simp[Bv,AS1,a]
theorem BC {n:Nat}{z:PV}{ps:List PV}(h:ps=List.replicate n z):∀i,i<n->[ps.getD i default]=[z]:=by intro i a;subst h;simp[AS1,a]
theorem Yn {n:Nat}{f g:Nat->PV}(h:∀i,i<n->[f i]=[g i]):Bv n f=Bv n g:=by unfold Bv;exact AV3 fun i a=>by have:=h i (AX4.1 a);injection this
abbrev KK {α : Type}(f:Nat -> α)(k:Nat)(x : α):Nat -> α:=fun i=>if i=k then x else f i
theorem Aw1 {α : Type}{c : α -> PV}{n k:Nat}{v:Nat -> α}{f:Nat->PV}{e:PV}{x : α}(h:∀i,i<n->[f i]=[c (v i)])(hx:e=c x):∀i,i<n->[if i=k then e else f i]=[c (if i=k then x else v i)]:=by
 intro i a;by_cases h1:i=k
 ·rw[if_pos h1,if_pos h1,hx]
 ·rw[if_neg h1,if_neg h1];exact h i a
theorem app1H {α : Type}{c : α -> List PV}{n:Nat}{v:Sl α}{f g:Nat->List PV}{z : α}(h:∀i,i<n->f i=c (v.g i))(hn:n=v.n):∀i,i<n+1->i≠v.n->BW n f g i=c ((v.push z).g i):=by
 subst hn;intro i b a;have hl:i<v.n:=by omega
 show (if i<v.n then f i else g (i-v.n))=c (if i<v.n then v.g i else z);rw[if_pos hl,if_pos hl];exact h i hl
theorem setH {α : Type}{c : α -> List PV}{n k:Nat}{v:Sl α}{f e:Nat->List PV}{x : α}(h:∀i,i<n->i≠k->f i=c (v.g i))(hx:k<n->e k=c x):∀i,i<n->(fun l=>if l=k then e l else f l) i=c ((v.upd k x).g i):=by
 intro i a;show (if i=k then e i else f i)=c (if i=k then x else v.g i);split
 ·subst_vars;exact hx a
 ·exact h i a ‹_›
end Go.AM
namespace Go.AM
section
variable {S:AD}{P:Program}{F:K4}{g:Cfg}{R X:Type}{A B:Option R}{r:R}{b:Bool}
theorem kI (hS:H2 S P)(h:(if b then A else B)=some r)(ht:A=some r->KG S P F (AB5 (stp P g)))(a:B=some r->KG S P F (AB6 (stp P g)))
 (hp:True=D6 (cnd P g):=by kernel_rfl) (hb:An4 (stp P g)=some b:=by kernel_rfl):KG S P F g:=
 E4 hS trivial (fun c=>ht (itT c h)) (fun c=>a (itF c h)) hp hb
theorem kG (hS:H2 S P)(h:(if b then A else B)=some r)(ht:A=some r->KG S P F (Mt true (stp P g)))(a:B=some r->KG S P F (Mt false (stp P g)))
 (hp:True=D6 (cnd P g):=by kernel_rfl) (hb:WK (stp P g)=some b:=by kernel_rfl):KG S P F g:=
 Gn hS trivial (fun c=>ht (itT c h)) (fun c=>a (itF c h)) hp hb
theorem kR (hS:H2 S P){n:Nat}{rs:List ResultVar}{Q:LR->List Obj->List Bool->Prop}{a:AV}{objs:List Obj}(b:Q (.ret a) objs (FJ n []):=by exact⟨rfl,rfl,rfl⟩)
 (hp:True=D6 (cnd P g):=by kernel_rfl) (c:(AB9 (stp P g)).bind (fun st=>UL P st rs [])=some (a,objs):=by kernel_rfl):KG S P (Cv S P n rs Q) g:=
 Yl hS trivial [] b hp c
theorem kC (hS:H2 S P){x:Option X}{f:X->Option R}(h:x.bind f=some r){fn:FuncId}{args:List AV}{objs:List Obj}{objs' : X->List Obj}{rr:X->AV}{ks:List Bool}
 (a:∀{y},x=some y->FunO S fn args objs (rr y) (objs' y) ks) (hk:∀y,f y=some r->KG S P F (An5 [] ks (rr y) (objs' y) (stp P g)))
 (hp:True=D6 (cnd P g):=by kernel_rfl) (b:Yj [] (stp P g)=some (fn,args,objs):=by kernel_rfl) (hn:∀y,Yk [] ks (objs' y).length (stp P g)=true:=by intro y;kernel_rfl):KG S P F g:=by
 obtain⟨y,e,h⟩:=B9 h;exact B7 hS [] trivial (a e) (hk y h) hp b (hn y)
end
end Go.AM
namespace Go.AM
inductive BT where
 |l (b:Bool)
 |n (b:Bool) (t f:BT)
def BT.ev:BT->Bool
 |.l b=>b
 |.n b t f=>if b then t.ev else f.ev
inductive BE where
 |a (b:Bool)
 |n (x y:BE)
 |o (x y:BE)
def BE.den:BE->Bool
 |.a b=>b
 |.n x y=>x.den&&y.den
 |.o x y=>x.den||y.den
def BE.tr:BE->BT->BT->BT
 |.a b,t,f=>.n b t f
 |.n x y,t,f=>x.tr (y.tr t f) f
 |.o x y,t,f=>x.tr t (y.tr t f)
def BE.top:BE->BT
 |.a b=>.l b
 |.n x y=>x.tr y.top (.l false)
 |.o x y=>x.tr (.l true) y.top
theorem BE.tr_ev:∀(e:BE) (t f:BT),(e.tr t f).ev=if e.den then t.ev else f.ev
 |.a b,t,f=>rfl
 |.n x y,t,f=>by simp only[tr,den,x.tr_ev,y.tr_ev];by_cases h:x.den=true<;>simp[h]
 |.o x y,t,f=>by simp only[tr,den,x.tr_ev,y.tr_ev];by_cases h:x.den=true<;>simp[h]
theorem BE.top_ev:∀e:BE,e.top.ev=e.den
 |.a b=>rfl
 |.n x y=>by simp only[top,den,x.tr_ev,y.top_ev,BT.ev];by_cases h:x.den=true<;>simp[h]
 |.o x y=>by simp only[top,den,x.tr_ev,y.top_ev,BT.ev];by_cases h:x.den=true<;>simp[h]
def keeps:Op->Bool
 |.move _ | .assign _ | .pick .. | .load .. | .nilCheck _ | .binOp .. | .unOp .. | .convert .. | .fieldAddr .. | .field .. | .indexAddr .. | .index .. | .extract ..=>true
 |.call { callee:=.builtin .len,.. } | .call { callee:=.builtin .min,.. } | .call { callee:=.builtin .max,.. }=>true
 |_=>false
theorem Yo {P:Program}{env:Env}{regs:D0}{d:Nat}{o:Op}{out:Out}(hk:keeps o=true)(h:aop P env regs d o=some out):out.regs=regs:=by unfold keeps at hk;split at hk<;>first|(cases hk;done)|(simp only[aop]at h;(repeat' split at h)<;>first|(cases h;rfl)|cases h)
theorem Pr {o:Op}(hk:keeps o=true):Au6 o=true:=by unfold keeps at hk;split at hk<;>first|cases hk;done|rfl
def Ao6:List Prop->List Prop
 |[]=>[]
 |c=>[D6 c]
def bgo (P:Program)(regs:D0)(o:Oper)(last:Bool)(rec:List Prop->Env->Option (BT×List Prop))(c:List Prop)(env:Env)(runs:Bool):Option (BT×List Prop):=match runs with
 |true=>match keeps o.op,o.dst with
  |true,some d=>match aop P env regs d o.op with
   |some ⟨p,v,_⟩=>match last with
    |true=>match LT v with
     |some b=>some (.l b,Ao6 (p++c))
     |none=>none
    |false=>fA v fun v=>Zx d v env fun env=>rec (p++c) env
   |none=>none
  |_,_=>none
 |false=>match last,o.dst with
  |false,some d=>Zx d Bw env fun env=>rec c env
  |_,_=>none
def bev (P:Program)(all:List Oper)(regs:D0):List Oper->List Prop->Env->Option (BT×List Prop)
 |[],_,_=>none
 |o::rest,c,env=>
  match o.guard with
  |none=>bgo P regs o rest.isEmpty (fun c env=>bev P all regs rest c env) c env true
  |some (j,want)=>match get env (FY all j)with
   |.p (.v (.bool b))=>bgo P regs o rest.isEmpty (fun c env=>bev P all regs rest c env) c env (b==want)
   |.p (.v (.tuple _))=>bgo P regs o rest.isEmpty (fun c env=>bev P all regs rest c env) c env false
   |.p (.bb b)=>match Zx (FY all j) (.p (.v (.bool true))) env fun env=>bgo P regs o rest.isEmpty (fun c env=>bev P all regs rest c env) [] env want,
    Zx (FY all j) (.p (.v (.bool false))) env fun env=>bgo P regs o rest.isEmpty (fun c env=>bev P all regs rest c env) [] env !want with
    |some (t,ct),some (f,cf)=>some (.n b t f,Ao6 c++(ct.map (fun p=>b=true->p)++cf.map (fun p=>b=false->p)))
    |_,_=>none
   |_=>none
def Zi (l:List Oper):List Nat:=l.filterMap (·.dst)
def AC8 (ks:List Nat)(env:Env):Env:=env.filter fun q=>!ks.contains q.1
theorem WV (ks:List Nat)(env:Env)(x:Nat):get (AC8 ks env) x=if x∈ks then .top else get env x:=by
 induction env with
 |nil=>simp[AC8,get]
 |cons q r ih=>
  obtain⟨i,a⟩:=q;simp only[AC8,List.filter_cons];by_cases b:i∈ks
  ·rw[if_neg (by simpa using b)]
   have:=ih
   simp only[AC8]at this;rw[this];by_cases hx:x∈ks
   ·simp[hx]
   ·have:i≠x:=fun e=>hx (e ▸ b)
    simp[hx,get,this]
  ·rw[if_pos (by simpa using b)];simp only[get]
   have:=ih
   simp only[AC8]at this;rw[this];by_cases hx:i=x
   ·subst hx;simp[b]
   ·simp[hx]
def UP:List Oper->Option Nat
 |[]=>none
 |[o]=>o.dst
 |_::r=>UP r
section
variable {S:AD}{P:Program}
theorem Ps {c:List Prop}(h:∀p∈Ao6 c,p):D6 c:=by
 cases c with
 |nil=>trivial
 |cons p r=>exact h _ (by simp[Ao6])
theorem AN9 (hS:H2 S P){all:List Oper}{regs:D0}{Q:K4}{post:List Oper}{envF:Env}{V:Bool}{d:Nat}(hQ:∀s,S.up s (JL S P all post Q)->JL S P all post Q s)(hV:get envF d=.p (.bb V))
 (hw:JL S P all post Q ⟨envF,regs⟩) :
 ∀(L:List Oper) (c:List Prop) (env:Env) (T:BT) (C:List Prop),bev P all regs L c env=some (T,C)->(∀p∈C,p)->T.ev=V->UP L=some d ->
  (∀x,x≠d->Qb (get envF x) (get env x) \/ (x∈Zi L/\get envF x=.top))->(∀x∈Zi L,x≠d->get envF x=.top)->D6 c/\JL S P all (L++post) Q ⟨env,regs⟩:=by
 intro L
 induction L with
 |nil=>intro c env T C h;cases h
 |cons o rest ih=>
  intro c env T C h w i hd hl ht;simp only[bev,HX]at h;have key:∀(c:List Prop) (env:Env) (runs:Bool) (T:BT) (C:List Prop),bgo P regs o rest.isEmpty (fun c env=>bev P all regs rest c env) c env runs=some (T,C)->(∀p∈C,p)->T.ev=V ->
   (∀x,x≠d->Qb (get envF x) (get env x) \/ (x∈Zi (o::rest)/\get envF x=.top)) ->
   D6 c/\(if runs then wOp S P o (JL S P all (rest++post) Q) Q ⟨env,regs⟩else JL S P all (rest++post) Q (put ⟨env,regs⟩ o.dst Bw)):=by
   intro c env runs T C h w i hl;have l:rest.isEmpty=false->UP rest=some d:=by
    intro hr;cases rest with
    |nil=>cases hr
    |cons a r=>simpa[UP]using hd
   have a0:∀{d'},o.dst=some d' -> Zi (o::rest)=d' :: Zi rest:=fun g=>by simp[Zi,g]
   have m:∀d' (v:AV),o.dst=some d' -> ∀x,x≠d->Qb (get envF x) (get (ins d' v env) x) \/ (x∈Zi rest/\get envF x=.top):=by
    intro d' v g x hx;rw[Dd];by_cases n:d' = x
    ·subst n;exact .inl (.inl (ht _ (by rw[a0 g];exact Ba1 ..) hx))
    ·rw[if_neg n];rcases hl x hx with h|⟨h1,h2⟩
     ·exact .inl h
     ·exact .inl (.inl h2)
   cases runs with
   |true=>
    simp only[bgo,XH,HX,if_true]at h⊢;split at h
    ·rename_i d' hk g;split at h
     ·rename_i p v regs' ha;have hr:regs' = regs:=Yo hk ha;subst hr;have ha' : aop P env regs' (o.dst.getD 0) o.op=some ⟨p,v,regs'⟩:=by rw[g];exact ha
      split at h
      ·rename_i u;split at h
       ·rename_i b hb;cases h;have a1:=Ps w;obtain⟨hc,hp⟩:=(Dm _ _).1 a1;refine⟨hc,LB (Pr hk) ha' hp ?_⟩;obtain rfl:rest=[]:=List.isEmpty_iff.1 u;simp only[UP]at hd;have e:d' = d:=by rw[g]at hd;exact AV6 hd
        subst e;refine hQ _ (hS.less _ ⟨envF,regs'⟩ _ (fun x=>?_) (fun _=>by rw[g];rfl) (by simpa using hw));rw[g];show Qb (get envF x) (get (ins d' v env) x);rw[Dd];by_cases hx:d' = x
        ·subst hx;rw[if_pos rfl,hV];have i:b=V:=i;subst i;unfold LT at hb;split at hb
         ·cases hb;exact .inr (.inr ⟨_,rfl,rfl⟩)
         ·cases hb;exact .inr (.inl rfl)
         ·cases hb
        ·rw[if_neg hx];rcases hl x (fun e=>hx e.symm)with h|⟨_,h⟩
         ·exact h
         ·exact .inl h
       ·cases h
      ·rename_i u;have hn:∀x,x≠d->Qb (get envF x) (get (ins d' v env) x) \/ (x∈Zi rest/\get envF x=.top):=m d' v g;obtain⟨a1,a2⟩:=ih _ _ _ _ h w i (l (by simpa using u)) hn (fun x hx=>ht x (by rw[a0 g];exact AU8 _ hx));obtain⟨hc,hp⟩:=(Dm _ _).1 a1;exact⟨hc,LB (Pr hk) ha' hp (by rw[g];exact a2)⟩
     ·cases h
    ·cases h
   |false=>
    simp only[bgo,HX,AT0,if_false]at h⊢;split at h
    ·rename_i d' u g;have hn:∀x,x≠d->Qb (get envF x) (get (ins d' Bw env) x) \/ (x∈Zi rest/\get envF x=.top):=m d' _ g;obtain⟨hc,a2⟩:=ih _ _ _ _ h w i (l (by simpa using u)) hn (fun x hx=>ht x (by rw[a0 g];exact AU8 _ hx));exact⟨hc,by rw[g];exact a2⟩
    ·cases h
  simp only[AW5,JL];cases hg:o.guard with
  |none=>simp only[hg]at h;obtain⟨hc,hk⟩:=key _ _ _ _ _ h w i hl;exact⟨hc,hS.refl _ _ (by simpa[hg]using hk)⟩
  |some q=>
   obtain⟨j,want⟩:=q;simp only[hg]at h;split at h
   ·rename_i b hb;obtain⟨hc,hk⟩:=key _ _ _ _ _ h w i hl;refine⟨hc,hS.refl _ _ ⟨some b,by rw[hb];rfl,?_⟩⟩;have e:(some b=some want)↔(b==want)=true:=by simp
    by_cases z:(b==want)=true
    ·rw[if_pos (e.2 z)];simpa[z]using hk
    ·rw[if_neg (fun x=>z (e.1 x))];simpa[z]using hk
   ·rename_i tt hb;obtain⟨hc,hk⟩:=key _ _ _ _ _ h w i hl;refine⟨hc,hS.refl _ _ ⟨none,by rw[hb];rfl,?_⟩⟩;rw[if_neg (by simp)];simpa using hk
   ·rename_i b hb;split at h
    ·rename_i t ct f cf h1 h2;cases h;have hc:D6 c:=Ps fun p hp=>w p (AU9 _ hp);refine⟨hc,hS.bool _ _ b _ hb ?_⟩;have hl2:∀x,x≠d->Qb (get envF x) (get (ins (FY all j) (.p (.v (.bool b))) env) x) \/ (x∈Zi (o::rest)/\get envF x=.top):=by
      intro x hx;rw[Dd];by_cases n:FY all j=x
      ·subst n;rw[if_pos rfl];rcases hl _ hx with h|h
       ·rw[hb]at h;rcases h with h|h|⟨y,h1,h2⟩
        ·exact .inl (.inl h)
        ·exact .inl (.inr (.inr ⟨b,h,rfl⟩))
        ·cases h2
       ·exact .inr h
      ·rw[if_neg n];exact hl x hx
     cases b with
     |true=>
      obtain⟨_,hk⟩:=key _ _ _ _ _ h1 (fun p hp=>w (true=true->p) (AT7 _ (AU9 _ (Ba7.2 ⟨p,hp,rfl⟩))) rfl) i hl2;refine⟨some true,by show yv (get (ins _ _ _) _)=_;rw[Dd,if_pos rfl];rfl,?_⟩;cases want with
      |true=>simpa using hk
      |false=>simpa using hk
     |false=>
      obtain⟨_,hk⟩:=key _ _ _ _ _ h2 (fun p hp=>w (false=false->p) (AT7 _ (AT7 _ (Ba7.2 ⟨p,hp,rfl⟩))) rfl) i hl2;refine⟨some false,by show yv (get (ins _ _ _) _)=_;rw[Dd,if_pos rfl];rfl,?_⟩;cases want with
      |true=>simpa using hk
      |false=>simpa using hk
    ·cases h
   ·cases h
end
def AC9 (P:Program)(m:Nat):Cfg->Option (BT×List Prop)
 |.ops all rest K st=>bev P all st.regs (rest.take m) [] st.env
 |_=>none
def AO0 (m:Nat)(b:Bool):Cfg->Cfg
 |.ops all rest K st=>match UP (rest.take m)with
  |some d=>mkO (ins d (.p (.bb b)) (AC8 (Zi (rest.take m)) st.env)) st.regs fun env regs=>.ops all (rest.drop m) K ⟨env,regs⟩
  |none=>.ops all rest K st
 |g=>g
def AO1 (m:Nat):Cfg->Bool
 |.ops all rest K st=>(UP (rest.take m)).isSome
 |_=>false
def AO2:List Prop->Prop
 |[]=>True
 |p::r=>r.foldl And p
theorem Ao7 {l:List Prop}(h:AO2 l):∀p∈l,p:=by
 have:∀(r:List Prop) (p:Prop),r.foldl And p->p/\∀q∈r,q:=by
  intro r
  induction r with
  |nil=>intro p h;exact⟨h,fun q b=>by cases b⟩
  |cons a r ih=>intro p h;obtain⟨⟨h1,c⟩,d⟩:=ih _ h;exact⟨h1,fun q b=>by rcases AW1.1 b with rfl|b;exact c;exact d q b⟩
 cases l with
 |nil=>intro p hp;cases hp
 |cons a r=>obtain⟨h1,c⟩:=this _ _ h;exact fun q b=>by rcases AW1.1 b with rfl|b;exact h1;exact c q b
section
variable {S:AD}{P:Program}{F:K4}{g:Cfg}{pr pc:Prop}
theorem kB (hS:H2 S P)(n:∀s,S.up s (F .normal)->F .normal s)(hc:pr)(c:pc)(m:Nat)(E:BE)(hk:KG S P F (AO0 m E.den (stp P g)))
 (hp:pr=D6 (cnd P g):=by kernel_rfl) (a:(AC9 P m (stp P g)).map (·.1)=some E.top:=by kernel_rfl) (b:(AC9 P m (stp P g)).map (fun x=>AO2 x.2)=some pc:=by kernel_rfl) (f:AO1 m (stp P g)=true:=by kernel_rfl):KG S P F g:=by
 refine⟨FZ hS hc ?_ hp⟩;have hk:=hk.out;generalize stp P g=g' at hk a b f;unfold AC9 at a b;split at a
 ·rename_i all rest K st;simp only[AO1,AU2]at f;obtain⟨d,j⟩:=f;simp only[AO0,j,EK]at hk;cases hb:bev P all st.regs (rest.take m) [] st.env with
  |none=>rw[hb]at a;cases a
  |some q=>
   obtain⟨T,C⟩:=q;simp only[hb]at a b;simp only[AT3,AS5]at a b;subst a
   have:=(AN9 hS (Q:=kp S P K F) (post:=rest.drop m) (envF:=ins d (.p (.bb E.den)) (AC8 (Zi (rest.take m)) st.env)) (V:=E.den) (d:=d) ?_ (by rw[Dd,if_pos rfl]) hk (rest.take m) [] st.env E.top C hb
    (Ao7 (b ▸ c)) E.top_ev j (fun x hx=>?_) (fun x hx i=>?_)).2
   ·rwa [Bd3]at this
   ·intro s h;cases l:rest.drop m with
    |nil=>rw[l]at h;exact An0 hS n K s h
    |cons o r=>rw[l]at h;exact hS.trans _ _ h
   ·rw[Dd,if_neg (fun e=>hx e.symm),WV];split
    ·exact .inl (.inl rfl)
    ·exact .inl (.inr (.inl rfl))
   ·rw[Dd,if_neg (fun e=>i e.symm),WV,if_pos hx]
 ·cases a
end
end Go.AM
namespace Go.AM
def famC (op:XG):Cfg->List Prop
 |.ops _ _ _ st=>match AZ op st with
  |some (c,_)=>c
  |none=>[False]
 |_=>[False]
def famG (op:XG):Cfg->Cfg
 |.ops all rest K st=>match AZ op st with
  |some (_,st)=>mkO st.env st.regs fun env regs=>.ops all rest K ⟨env,regs⟩
  |none=>.ops all rest K st
 |g=>g
section
variable {S:AD}{P:Program}{F:K4}{g:Cfg}{pr pc:Prop}
theorem WW (hS:H2 S P)(hc:pr)(d:Nat)(op:XG)(b:pc)(hk:KG S P F (famG op (Gl P d g)))(hp:pr=D6 (AI3 P d g):=by kernel_rfl)(f:Gm (Gl P d g)=true:=by kernel_rfl)
 (a:pc=D6 (famC op (Gl P d g)):=by kernel_rfl):KG S P F g:=by
 refine⟨(Gd (u:=some d) (F:=F) hS 400 [] g (by subst hp;exact hc)).2 ?_⟩;have hk:=hk.out;show G S P F (Gl P d g);generalize Gl P d g=g' at f a hk;unfold Gm at f;split at f
 ·rename_i all o rest K st;simp only[famC]at a;simp only[famG]at hk;cases i:AZ op st with
  |none=>rw[i]at a;subst a;exact b.elim
  |some q=>obtain⟨c,st'⟩:=q;simp only[i,EK]at hk a;subst a;exact RR hS (hS.fam op _ _ c _ i b hk)
 ·cases f
end
def AO3 (j n:Nat)(f:Nat->PV):Cfg->Cfg
 |.ops all rest K st=>mkO (Zf j (Bv n f) st.env) (ins j .dead st.regs) fun env regs=>.ops all rest K ⟨env,regs⟩
 |g=>g
theorem AO4 {S:AD}{P:Program}{F:K4}{g:Cfg}{pr:Prop}(hS:H2 S P)(hc:pr)(d j n:Nat)(f:Nat->PV)(hk:KG S P F (AO3 j n f (Gl P d g)))(hp:pr=D6 (AI3 P d g):=by kernel_rfl)
 (a:Gm (Gl P d g)=true:=by kernel_rfl) (b:A1 (Gl P d g).st.regs j=some (.arr n f):=by kernel_rfl):KG S P F g:=by
 refine⟨(Gd (u:=some d) (F:=F) hS 400 [] g (by subst hp;exact hc)).2 ?_⟩;have hk:=hk.out;show G S P F (Gl P d g);generalize Gl P d g=g1 at hk a b;unfold Gm at a;split at a
 ·rename_i all o rest K st;simp only[AO3,EK]at hk;have c:S.up ⟨Zf j (Bv n f) st.env,ins j .dead (ins j (.cells (Zt n f)) st.regs)⟩ (fun t=>G S P F (.ops all (o::rest) K t)):=
   hS.eqv _ ⟨_,ins j .dead st.regs⟩ _ (fun _=>rfl) (fun i=>by simp only[Gi];split<;>rfl) hk
  refine RR hS (hS.trans _ _ (hS.ofArr _ j n f _ b (hS.trans _ _ (hS.frz ⟨st.env,_⟩ j (Bv n f) _ ?_ c))));show A1 (ins j _ _) j=_;rw[Gi,if_pos rfl,Zt,Bv,AZ4];rfl
 ·cases a
def AO5 (j k n:Nat)(e:TypeId)(g:Nat->List PV)(vw:Bool):Cfg->Cfg
 |.ops all rest K st=>mkO st.env (ins j (.vec e k n g vw) st.regs) fun env regs=>.ops all rest K ⟨env,regs⟩
 |g=>g
theorem AD0 {S:AD}{P:Program}{F:K4}{g:Cfg}{pr:Prop}(hS:H2 S P)(hc:pr)(d j:Nat){k n:Nat}{e:TypeId}{vw:Bool}(f q:Nat->List PV)(c:∀i,i<n->leC (f i) (q i))(hk:KG S P F (AO5 j k n e q vw (Gl P d g)))
 (hp:pr=D6 (AI3 P d g):=by kernel_rfl) (a:Gm (Gl P d g)=true:=by kernel_rfl) (b:A1 (Gl P d g).st.regs j=some (.vec e k n f vw):=by kernel_rfl):KG S P F g:=by
 refine⟨(Gd (u:=some d) (F:=F) hS 400 [] g (by subst hp;exact hc)).2 ?_⟩;have hk:=hk.out;show G S P F (Gl P d g);generalize Gl P d g=g1 at hk a b;unfold Gm at a;split at a
 ·simp only[AO5,EK]at hk;exact RR hS (hS.vecq _ j n k e f q vw _ b c hk)
 ·cases a
theorem leCn {k:Nat}{g:Nat->List PV}:leC [.v (.slice none 0 0)] [.sl false k 0 g]:=⟨rfl,fun j=>by
 cases j with
 |zero=>exact .inr (.inr (.inl ⟨_,_,rfl,rfl⟩))
 |succ j=>exact .inl rfl⟩
theorem leCr (l:List PV):leC l l:=⟨rfl,fun _=>.inl rfl⟩
theorem arrG {n:Nat}(f:Nat->PV){i:Nat}(a:i<n):[(Bv n f).getD i default]=[f i]:=D5 n f i a
end Go.AM
namespace Go.AM
theorem SK {P:Program}{f:FuncId}{vw:Bool}{args:List PV}{e:TypeId}{k n:Nat}{g:Nat->List PV}(t:∀as w,(callFunc f as).run P w=.ok (.enter f as) w)(hk:∀i,i<n->(g i).length=k)
 (h:∀(w:World) (Pi:Nat->Nat->Prop) (vs:Array Value),(∀b off,Pi b off->b<w.heap.size)->vs.size=args.length->(∀i,i<args.length->RepP w Pi (vs.getD i undef) (args.getD i default)) ->
  Calls P f vs w fun x w'=>∃v,x=.returned v/\RowKit.Below w.heap.size w w' /\ ((v=.slice none 0 0/\n=0) \/ ∃b cap c,v=.slice (some ⟨b,0,none⟩) n cap/\w.heap.size<=b/\w'.heap[b]? = some (.cells c e (0,0))/\n<=cap/\c.size=cap*k/\cap<=maxLen /\
   ∀i j,i<n->j<k->RepP w Pi (c.getD (i*k+j) undef) ((g i).getD j default)/\(c.getD (i*k+j) undef).oneCell' = true)):FunO (Hn P) f (args.map .p) [] (.vec 0) [.vec e k n g vw] []:=by
 intro 𝒢 C w vs rho hG hs hsz;have y:∀j,A1 (objRegs []) j=none:=fun j=>by simp[objRegs,objRegs.go,A1]
 have h0:=h w (Prv C.X (A1 (objRegs [])) rho) vs (fun b off hp=>by
  rcases hp with hp|⟨j,o,a,_⟩
  ·exact hs.hp.bound b off hp
  ·simp[y]at a) (by simpa using hsz) (fun i s=>by
  have:=hs.env i
  rw[Bm]at this;have e:(args.map AV.p).getD i .top=.p (args.getD i default):=by simp[s]
  rw[e]at this;exact this.toP)
 refine⟨_,_,t _ _,callsIn_wide.2 (h0.mono ?_)⟩;rintro x w' ⟨v,rfl,hb,hv⟩;have hR:∀j o,A1 (objRegs [Obj.vec e k n g vw]) j=some o->j=0/\o=.vec e k n g vw:=fun j o a=>by
  simp only[objRegs,objRegs.go,A1]at a;split at a
  ·rename_i hj0;cases a;exact⟨hj0.symm,rfl⟩
  ·cases a
 have z:A1 (objRegs [Obj.vec e k n g vw]) 0=some (.vec e k n g vw):=rfl
 let rho' : Nat->Value:=fun j=>if j=0 then v else rho j
 have hr0:rho' 0=v:=rfl;have l:∀b,F6 v (.vec e k n g vw) b->w.heap.size<=b/\b<w'.heap.size:=by
  intro b a0;rcases hv with⟨rfl,_⟩ | ⟨b',cap,c,rfl,h1,h2,_⟩
  ·cases a0
  ·cases a0;exact⟨h1,(AT1.1 h2).1⟩
 have a1:∀b o,Prv C.X (A1 (objRegs [Obj.vec e k n g vw])) rho' b o->C.X b o \/ w.heap.size<=b:=by
  rintro b o (hX|⟨j,o',a,d,_⟩)
  ·exact .inl hX
  ·obtain⟨rfl,rfl⟩:=hR j o' a;exact .inr (l b d).1
 have m:Keeps w (Prv C.X (A1 (objRegs [])) rho) w' (Prv C.X (A1 (objRegs [Obj.vec e k n g vw])) rho'):=fun b o u hp hc=>by
  have q:=AZ3 w ⟨b,o,none⟩ hc;refine⟨by rw[<- hc];exact AW6 (hb.block b q),fun hpp=>?_⟩;rcases a1 b o hpp with hX|hge
  ·exact hp (.inl hX)
  ·have:b<w.heap.size:=q
   omega
 refine⟨C,.ret (.vec 0),[.vec e k n g vw],[],rho',hG,⟨rfl,rfl,rfl⟩,?_,⟨v,rfl,?_⟩,fun i s=>by simp at s⟩
 ·refine⟨⟨fun j o a=>?_,fun i j oi oj b s a _ _=>by rw[(hR i oi s).1,(hR j oj a).1],fun j o b off a d hX=>?_,fun b off hp=>AU5 (hs.hp.bound b off hp) hb.size⟩,hs.ext.trans ⟨hb.os,hb.output⟩,AX1 hs.size hb.size,fun b q hE=>?_,hs.keep.trans m,fun b d=>?_,fun j r b a=>by cases (hR j _ a).2⟩
  ·obtain⟨rfl,rfl⟩:=hR j o a;rw[hr0];rcases hv with hn|⟨b,cap,c,rfl,h1,h2,h3,h4,h5,h6⟩
   ·exact .inl hn
   ·exact .inr ⟨b,cap,c,rfl,h2,h3,h4,h5,hk,fun i j s a=>⟨(h6 i j s a).1.keeps m,(h6 i j s a).2⟩⟩
  ·obtain⟨rfl,rfl⟩:=hR j o a;have h1:=(l b d).1;have h2:=hs.hp.bound b off hX;omega
  ·rw[hb.block b (AU5 q hs.size)];exact hs.same b q hE
  ·obtain⟨j,o,a,d⟩:=d;obtain⟨rfl,rfl⟩:=hR j o a;exact .inr (AX1 hs.size (l b d).1)
 ·rcases hv with⟨rfl,_⟩ | ⟨b,cap,c,rfl,_⟩
  ·exact .vec 0 none 0 0 (by simp[Lv,z]) rfl
  ·exact .vec 0 _ n cap (by simp[Lv,z]) rfl
end Go.AM
namespace Go.AM
open Go.RowKit Go.ChangeShapes
end Go.AM
namespace Go.AM
section
variable {S:AD}{P:Program}{F:K4}{K:List It}{st:St}{g:Cfg}{pr:Prop}
def AD1 (p:Option PV)(r:LR):Prop:=match p with
 |none=>∃a,r=.ret a
 |some x=>r=.panic x
def My (S:AD)(f:FuncId)(first caps:List AV)(objs:List Obj)(L:List (List PV))(p:Option PV):Prop:=
 S.F f (first ++ .yf objs.length::caps) (objs++[.yld L true]) fun r objs' ks=>∃b,objs'[objs.length]? = some (.yld [] b)/\ks[objs.length]? = some true/\(b=true->AD1 p r)/\(b=false->∃a,r=.ret a)
def endP:Option PV->LQ
 |none=>.normal
 |some x=>.panic x
theorem Ao8 (hS:H2 S P){g:Operand}{ps:Array Tmp}{asg body:Code}{f:FuncId}{first caps as bs:List AV}{objs:List Obj}(ids ts:List Nat)(gh:Nat)(L:List (List PV)){p:Option PV}{X:Type}(s:X->St)(J:List (List PV)->X->Prop)(x0:X)(idl:List (Nat×Nat))
 (hp:Ej st.env g=some (f,first,caps)) (n:∃fn,P.funcs[f]? = some fn/\fn.body.isSome=true/\(fn.name == "runtime.NumGoroutine")=false) (q:K5 ids st.regs ids=some objs) (t:EB objs=true) (hd:G8 ids=true) (u:Dg ids first=some as) (v:Dg ids caps=some bs) (w:objs.length=ids.length)
 (z:gh<1000) (a0:A1 st.regs gh=none) (a1:ids.length<1000) (a2:G8 ts=true) (d:∀ys∈L,ys.length=ps.size)
 (hF:My S f as bs objs L p) (hle:Le idl ⟨X3 ts (ts.map (get st.env)),P6 ids (ids.map fun _=>false) st.regs⟩ (s x0)) (h0:J L x0) (hk:∀x,(s x).env.map (·.1)=ts) (hn:∀x,A1 (s x).regs gh=none)
 (c:∀ys rest x,J (ys::rest) x->G S P (Bz S P body gh ts (Am7 s J rest) (kp S P K F)) (.code asg [] ⟨ID ps.toList ys (s x).env,ins gh (.ghost ((s x).env.map (·.2))) (s x).regs⟩))
 (i:∀x,J [] x->G S P F (.pop (endP p) K (s x))):G S P F (.code (.rangeFunc g ps asg body) K st):=by
 have j:∀{l:List Nat},G8 l=true->l.Nodup:=by
  intro l
  induction l with
  |nil=>intro _;exact Bb7
  |cons a r ih=>intro h;simp only[G8,AS7,AV0,AW7,decide_eq_false_iff_not]at h;exact AY0.2 ⟨h.1,ih h.2⟩
 refine⟨f,first,caps,as,bs,objs,ids,ts,gh,L,Am7 s J,fun b r=>b=true->AD1 p r,hp,n,t,hd,u,v,q,z,a0,a1,j a2,d,hS.le idl _ _ _ hle ⟨hk x0,hn x0,x0,rfl,h0⟩,?_,?_,?_⟩
 ·rintro ys rest _ _ _ ⟨x,rfl,hJ⟩;have h:=c ys rest x hJ;have e:Bz S P body gh ts (Am7 s J rest) (kp S P K F)=fun e s'=>match e with
   |.normal=>S.up s' fun s'=>awp S P body (El S gh ts (Am7 s J rest) (kp S P K F)) s'
   |_=>False:=by funext e s';cases e<;>rfl
  rw[e]at h;exact h
 ·rintro _ r _ _ ⟨x,rfl,hJ⟩ hf;have h1:=hf rfl;have m:=i x hJ;cases p with
  |none=>obtain⟨a,rfl⟩:=h1;exact m
  |some y=>cases h1;exact m
 ·rw[<- w];refine hS.monoF _ _ _ _ _ ?_ hF;rintro r o ks ⟨b,h1,m,h3,h4⟩;exact⟨b,h1,m,h3,h4⟩
theorem Ao9 (hS:H2 S P){g:Operand}{ps:Array Tmp}{asg body:Code}{f:FuncId}{first caps as bs:List AV}{objs:List Obj}{R T A:Type}{enc:T->List PV}{L:List T}{p:Option PV}{mb:(A->Option R)->T->A->Option R}{mk:A->Option R}{a0:A}{r:R}
 (ids ts:List Nat) (gh:Nat) (s:A->St) (idl:List (Nat×Nat)) (h:O5 L mb mk a0=some r) (y:My S f as bs objs (L.map enc) p)
 (hp:Ej st.env g=some (f,first,caps)) (j:∃fn,P.funcs[f]? = some fn/\fn.body.isSome=true/\(fn.name == "runtime.NumGoroutine")=false) (l:K5 ids st.regs ids=some objs) (m:EB objs=true) (z:G8 ids=true) (n:Dg ids first=some as) (o:Dg ids caps=some bs) (q:objs.length=ids.length)
 (u:Nat.blt gh 1000=true) (v:A1 st.regs gh=none) (w:Nat.blt ids.length 1000=true) (x:G8 ts=true) (d:∀t:T,(enc t).length=ps.size)
 (hle:Le idl ⟨X3 ts (ts.map (get st.env)),P6 ids (ids.map fun _=>false) st.regs⟩ (s a0)) (hk:∀a,(s a).env.map (·.1)=ts) (hn:∀a,A1 (s a).regs gh=none)
 (b:∀(t:T) (next:St->Prop) (c:A->Option R) (a:A),(∀(st st1:St) (cs:List AV) (idl:List (Nat×Nat)) (a:A),Le idl st st1->A1 st1.regs gh=some (.ghost cs)->cs.length=ts.length->A1 (del gh st1.regs) gh=none->(⟨X3 ts cs,del gh st1.regs⟩:St)=s a->c a=some r->G S P (El S gh ts next (kp S P K F)) (.pop .normal [] st)) ->
  mb c t a=some r->G S P (Bz S P body gh ts next (kp S P K F)) (.code asg [] ⟨ID ps.toList (enc t) (s a).env,ins gh (.ghost ((s a).env.map (·.2))) (s a).regs⟩))
 (i:∀a,mk a=some r->G S P F (.pop (endP p) K (s a))):G S P F (.code (.rangeFunc g ps asg body) K st):=by
 refine Ao8 hS ids ts gh (L.map enc) s (fun rest a=>∃L',rest=L'.map enc/\O5 L' mb mk a=some r) a0 idl hp j l m z n o q (by simpa[Bd4]using u) v (by simpa[Bd4]using w) x (fun ys hy=>?_) y hle ⟨L,rfl,h⟩ hk hn ?_ ?_
 ·obtain⟨t,_,rfl⟩:=Ba7.1 hy;exact d t
 ·rintro ys rest a ⟨L',hL,hx⟩;cases L' with
  |nil=>cases hL
  |cons t L'=>simp only[AV5,AZ8]at hL;obtain⟨rfl,rfl⟩:=hL;refine b t _ (O5 L' mb mk) a (fun st st1 cs idl a hle h1 h2 h3 h4 h5=>?_) hx;exact UG hS st1 a idl hle h1 h2 h3 h4 ⟨L',rfl,h5⟩
 ·rintro a ⟨L',hL,hx⟩;cases L' with
  |nil=>exact i a hx
  |cons t L'=>cases hL
theorem WX (hS:H2 S P)(hc:pr){f:FuncId}{as bs:List AV}{objs:List Obj}{R T A:Type}{enc:T->List PV}{L:List T}{p:Option PV}{mb:(A->Option R)->T->A->Option R}{mk:A->Option R}{a0:A}{r:R}
 (ids ts:List Nat) (gh:Nat) (s:A->St) {idl:List (Nat×Nat)}(h:O5 L mb mk a0=some r) (x:My S f as bs objs (L.map enc) p)
 (i:∀t:T,(enc t).length=(Hy (stp P g)).size) (hk:∀a,(s a).env.map (·.1)=ts) (hn:∀a,A1 (s a).regs gh=none) (m:∀a,(⟨X3 ts ((s a).env.map (·.2)),del gh (ins gh (.ghost ((s a).env.map (·.2))) (s a).regs)⟩:St)=s a)
 (c:∀(t:T) (next:St->Prop) (d:A->Option R) (a:A),
  (∀(g' : Cfg) (ids:List (Nat×Nat)) (pr:Prop) (a:A),pr->d a=some r->(hp:pr=D6 (cnd P g'):=by kernel_rfl)->(b:stp P g' = .pop .normal [] (stp P g').st:=by kernel_rfl)->(hle:KLe ids (stp P g').st (rst gh (s a)):=by exact kl)->KG S P (El S gh ts next (kp S P (stp P g).k F)) g') ->
  mb d t a=some r->KG S P (Bz S P (SH (stp P g)) gh ts next (kp S P (stp P g).k F)) (.code (SF (stp P g)) [] (SJ gh (Hy (stp P g)) (enc t) (s a))))
 (j:∀a,mk a=some r->KG S P F (.pop (endP p) (stp P g).k (s a)))
 (hp:pr=D6 (cnd P g):=by kernel_rfl) (b:SD P ids (stp P g)=some (f,as,bs,objs):=by kernel_rfl) (o:Nat.blt gh 1000=true:=by kernel_rfl) (n:A1 (stp P g).st.regs gh=none:=by kernel_rfl) (q:G8 ts=true:=by kernel_rfl)
 (hle:KLe idl (SI ids ts (stp P g)) (s a0):=by exact kl):KG S P F g:=by
 refine⟨FZ hS hc ?_ hp⟩;have u:=(Hb b).2;replace b:=(Hb b).1;generalize stp P g=g1 at i c j b n hle;unfold Mx at b;split at b
 ·rename_i op ps asg body K st;split at b
  ·rename_i f' first caps v
   split at b
   ·rename_i objs' as' bs' y z h4;split at b
    ·rename_i w;simp only[AS5,AV2]at b;obtain⟨rfl,rfl,rfl,rfl⟩:=b;simp only[AS7,AV0,beq_iff_eq]at w;obtain⟨⟨⟨e3,e4⟩,e5⟩,e6⟩:=w;refine Ao9 hS ids ts gh s idl h x v u y e3 e4 z h4 e5 o n e6 q i hle.out hk hn (fun t next d a hb hm=>?_) (fun a hm=>(j a hm).out);refine (c t next d a (fun g' ids' pr a hc l hp b hle=>⟨FZ hS hc ?_ hp⟩) hm).out;rw[b];have hl:((s a).env.map (·.2)).length=ts.length:=by rw[<- hk a];simp
     refine hb _ (rst gh (s a)) ((s a).env.map fun p=>p.2) ids' a hle.out (Gq gh (s a)) hl ?_ (m a) l
     have:=congrArg St.regs (m a)
     simp only at this;show A1 (del gh (ins gh _ _)) gh=none;rw[this];exact hn a
    ·cases b
   ·cases b
  ·cases b
 ·cases b
theorem Ab8 (hS:H2 S P){f:FuncId}{fn:Func}{first caps:List AV}{objs:List Obj}{L:List (List PV)}{p:Option PV}(i:P.funcs[f]? = some fn)
 (h:KG S P (Cv S P (objs++[Obj.yld L true]).length fn.results.toList fun r objs' ks=>∃b,objs'[objs.length]? = some (.yld [] b)/\ks[objs.length]? = some true/\(b=true->AD1 p r)/\(b=false->∃a,r=.ret a)) (.code (fn.body.getD .skip) [] { env:=argEnv (first ++ .yf objs.length::caps),regs:=objRegs (objs++[Obj.yld L true]) }))
 (hc:fn.body.isSome=true:=by kernel_rfl) (hn:Nat.ble (first ++ .yf objs.length::caps).length fn.ntmps=true:=by kernel_rfl) (j:Nat.blt (objs++[Obj.yld L true]).length 1000=true:=by kernel_rfl)
 (d:AE fn.ntmps (fn.body.getD .skip)=true:=by kernel_rfl) (g:(fn.name == "runtime.NumGoroutine")=false:=by kernel_rfl):My S f first caps objs L p:=by
 obtain⟨code,c⟩:=AU2.1 hc;rw[c,AT2]at d h;exact JZ hS i c (AZ2 hn) (by simpa[Bd4]using j) rfl d g h.out
theorem Ap0 (hS:H2 S P){f:FuncId}{fn:Func}{args:List AV}{objs:List Obj}{Q:LR->List Obj->List Bool->Prop}(d:P.funcs[f]? = some fn)
 (h:KG S P (Cv S P objs.length fn.results.toList Q) (.code (fn.body.getD .skip) [] { env:=argEnv args,regs:=objRegs objs }))
 (hc:fn.body.isSome=true:=by kernel_rfl) (hn:Nat.ble args.length fn.ntmps=true:=by kernel_rfl) (g:Nat.blt objs.length 1000=true:=by kernel_rfl)
 (b:AE fn.ntmps (fn.body.getD .skip)=true:=by kernel_rfl) (c:(fn.name == "runtime.NumGoroutine")=false:=by kernel_rfl):S.F f args objs Q:=by
 obtain⟨code,a⟩:=AU2.1 hc;rw[a,AT2]at b h;exact JZ hS d a (AZ2 hn) (by simpa[Bd4]using g) rfl b c h.out
def panE:Cfg->Option PV
 |.ops all (o::_) _ st=>match CV all st.env o,o.op with
  |some true,.panic x=>match aev st.env x with
   |.p (.iface t y)=>some (.iface t y)
   |_=>none
  |_,_=>none
 |_=>none
def panC (x:PV):Cfg->Cfg
 |.ops _ _ K st=>.pop (.panic x) K st
 |g=>g
theorem AD2 (hS:H2 S P)(hc:pr){x:PV}(hk:KG S P F (panC x (stp P g)))(hp:pr=D6 (cnd P g):=by kernel_rfl)(a:panE (stp P g)=some x:=by kernel_rfl):KG S P F g:=by
 refine⟨FZ hS hc ?_ hp⟩;have hk:=hk.out;generalize stp P g=g1 at hk a;unfold panE at a;split at a
 ·rename_i all o rest K st;split at a
  ·rename_i y b c;split at a
   ·rename_i t z hx;cases a;exact AB2 hS b c hx hk
   ·cases a
  ·cases a
 ·cases a
def Ap1:Cfg->Option PV
 |.pop (.panic x) [] _=>some x
 |_=>none
theorem Aw2 (hS:H2 S P)(hc:pr){n:Nat}{rs:List ResultVar}{Q:LR->List Obj->List Bool->Prop}{x:PV}{objs:List Obj}(outs:List Nat)(c:Q (.panic x) objs (FJ n outs))(hp:pr=D6 (cnd P g):=by kernel_rfl)
 (a:Ap1 (stp P g)=some x:=by kernel_rfl) (d:G8 outs=true:=by kernel_rfl) (b:K5 outs (stp P g).st.regs outs=some objs:=by kernel_rfl):KG S P (Cv S P n rs Q) g:=by
 refine⟨FZ hS hc ?_ hp⟩;generalize stp P g=g1 at a b;unfold Ap1 at a;split at a
 ·cases a;exact⟨outs,objs,d,b,c⟩
 ·cases a
theorem AD3 (hS:H2 S P){all rest:List Oper}{o:Oper}{c:Call}{f:Operand}{as:List AV}{regs:D0}{fn:FuncId}{as' args:List AV}{objs objs' : List Obj}{ks:List Bool}{x:PV}(ids:List Nat)
 (d:CV all st.env o=some true) (g:o.op=.call c) (b:c.callee=.value f) (ha:NP st.regs (c.args.toList.map (aev st.env))=some (as,regs))
 (hw:Ul st.env f as=some (fn,as')) (i:Dg ids as' = some args) (a:K5 ids regs ids=some objs) (j:S.F fn args objs fun res o k=>res=.panic x/\o=objs' /\ k=ks)
 (l:G8 ids=true) (hy:EB objs=true) (hn:Dl regs ids ks (o.dst.getD 0) objs'.length=true)
 (hk:G S P F (.pop (.panic x) K { env:=st.env,regs:=Ze (P5 (o.dst.getD 0) ids ks objs'.length) (P5 (o.dst.getD 0) ids ks objs'.length) objs' (P6 ids ks regs) })) :
 G S P F (.ops all (o::rest) K st):=by
 refine EC hS d ?_;unfold wOp;obtain⟨callee,cargs,types⟩:=c;simp only at b ha;subst b;rw[g];refine .inl ⟨as,regs,_,_,.inl ha,hw,ids,args,objs,l,i,a,hy,hS.monoF _ _ _ _ _ ?_ j⟩;rintro _ _ _ ⟨rfl,rfl,rfl⟩;exact⟨hn,hk⟩
def Aw3 (ids:List Nat)(ks:List Bool)(x:PV)(objs' : List Obj):Cfg->Cfg
 |.ops all (o::rest) K st=>match o.op with
  |.call c=>match NP st.regs (c.args.toList.map (aev st.env))with
   |some (_,regs)=>mkO st.env (Ze (P5 (o.dst.getD 0) ids ks objs'.length) (P5 (o.dst.getD 0) ids ks objs'.length) objs' (P6 ids ks regs)) fun env regs=>.pop (.panic x) K ⟨env,regs⟩
   |none=>.ops all (o::rest) K st
  |_=>.ops all (o::rest) K st
 |g=>g
theorem AD4 (hS:H2 S P)(ids:List Nat)(hc:pr){fn:FuncId}{args:List AV}{objs objs' : List Obj}{x:PV}{ks:List Bool}(i:S.F fn args objs fun res o k=>res=.panic x/\o=objs' /\ k=ks)
 (hk:KG S P F (Aw3 ids ks x objs' (stp P g))) (hp:pr=D6 (cnd P g):=by kernel_rfl) (a:Yj ids (stp P g)=some (fn,args,objs):=by kernel_rfl) (hn:Yk ids ks objs'.length (stp P g)=true:=by kernel_rfl):KG S P F g:=by
 refine⟨FZ hS hc ?_ hp⟩;replace hk:=hk.out;generalize stp P g=g' at a hn hk;unfold Yj at a;split at a
 ·split at a
  ·rename_i j f;split at a
   ·rename_i c;split at a
    ·rename_i ha;split at a
     ·rename_i hw;split at a
      ·rename_i l d;split at a
       ·rename_i b;cases a;simp only[AS7]at b;simp only[Aw3,Yk,f,ha,EK]at hk hn;exact AD3 hS ids j f c ha hw l d i b.1 b.2 hn hk
       ·cases a
      ·cases a
     ·cases a
    ·cases a
   ·cases a
  ·cases a
 ·cases a
def Pt (S:AD)(R:St->Prop)(X:PV->St->Prop):K4
 |.normal,st=>S.up st R
 |.panic x,st=>X x st
 |_,_=>False
theorem K_upN (hS:H2 S P)(hc:pr){R:St->Prop}{X:PV->St->Prop}(st:St){ids:List (Nat×Nat)}(hR:R st)(hp:pr=D6 (cnd P g):=by kernel_rfl)(a:stp P g=.pop .normal [] (stp P g).st:=by kernel_rfl)
 (hle:KLe ids (stp P g).st st:=by exact kl):KG S P (Pt S R X) g:=by
 refine⟨FZ hS hc ?_ hp⟩;rw[a];exact hS.le ids _ _ R hle.out hR
theorem K_upP (hS:H2 S P)(hc:pr){R:St->Prop}{X:PV->St->Prop}{x:PV}(b:X x (stp P g).st)(hp:pr=D6 (cnd P g):=by kernel_rfl)(a:Ap1 (stp P g)=some x:=by kernel_rfl):KG S P (Pt S R X) g:=by
 refine⟨FZ hS hc ?_ hp⟩;generalize stp P g=g1 at a b;unfold Ap1 at a;split at a
 ·cases a;exact b
 ·cases a
end
end Go.AM
namespace Go.AM
section
variable {S:AD}{P:Program}{F:K4}{K:List It}{g:Cfg}{pr:Prop}
end
end Go.AM
namespace Go.AM
open Go.RowKit Go.ChangeShapes Go.Deep
mutual
inductive LeD:PV->PV->Prop
 |refl (x:PV):LeD x x
 |sl {k n:Nat}{f g:Nat->List PV}(h:∀i,i<n->LeDs (f i) (g i)):LeD (.sl false k n f) (.sl false k n g)
inductive LeDs:List PV->List PV->Prop
 |nil:LeDs [] []
 |cons {x y:PV}{l r:List PV}(h:LeD x y) (h' : LeDs l r):LeDs (x::l) (y::r)
end
theorem LeDs.refl:∀l:List PV,LeDs l l
 |[]=>.nil
 |x::l=>.cons (.refl x) (LeDs.refl l)
theorem LeDs.length {l r:List PV}(h:LeDs l r):l.length=r.length:=by
 induction l generalizing r with
 |nil=>cases h;rfl
 |cons x l ih=>cases h with|cons _ h'=>simp[ih h']
theorem LeDs.get {l r:List PV}(h:LeDs l r):∀i,LeD (l.getD i default) (r.getD i default):=by
 induction l generalizing r with
 |nil=>cases h;exact fun i=>.refl _
 |cons x l ih=>
  cases h with
  |cons h h'=>
   intro i;cases i with
   |zero=>exact h
   |succ i=>simpa using ih h' i
theorem LeDs.append {a b c d:List PV}(h:LeDs a b)(h' : LeDs c d):LeDs (a++c) (b++d):=by
 induction a generalizing b with
 |nil=>cases h;exact h'
 |cons x l ih=>cases h with|cons h1 h2=>exact .cons h1 (ih h2)
theorem RepP.leD {w:World}{Pi:Nat->Nat->Prop}{v:Value}{x:PV}(h:RepP w Pi v x):∀{y:PV},LeD x y->RepP w Pi v y:=by
 induction h with
 |slnil k f=>intro y hy;cases hy with
  |refl=>exact .slnil _ _
  |sl h=>exact .slnil _ _
 |sl nn b off cap k n f c hn hk hc h sp hsp ih=>
  intro y hy;cases hy with
  |refl=>exact .sl nn b off cap k n f c hn hk hc h sp hsp
  |sl h'=>exact .sl false b off cap k n _ c hn (fun i d=>by rw[<- (h' i d).length];exact hk i d) hc (fun i j d g=>ih i j d g ((h' i d).get j)) sp hsp
 |v x=>intro y hy;cases hy;exact .v x
 |bb b=>intro y hy;cases hy;exact .bb b
 |str l=>intro y hy;cases hy;exact .str l
 |agg vs cs hs h1 h ih=>intro y hy;cases hy;exact .agg vs cs hs h1 h
 |ptr b off cs c hc h ih=>intro y hy;cases hy;exact .ptr b off cs c hc h
 |iface t x a h ih=>intro y hy;cases hy;exact .iface t x a h
 |fn f x y a b hx hy ha hb iha ihb=>intro y hy;cases hy;exact .fn f x _ a b hx ‹_› ha hb
theorem CRep.leD {W:World}{cs:List Value}{p q:List PV}(h:CRep W cs p)(hl:LeDs p q):CRep W cs q:=
 ⟨by rw[h.1,hl.length],fun i a=>⟨(h.2 i (by rw[hl.length];exact a)).1.leD (hl.get i),(h.2 i (by rw[hl.length];exact a)).2⟩⟩
section
variable {P:Program}{t e:TypeId}{m:Nat}{pvs:List PV}
def JN (f:Nat->Nat):Nat->Nat
 |0=>0
 |k+1=>JN f k+f k
theorem AD5 (f:Nat->Nat){k n:Nat}(h:k<=n):JN f k<=JN f n:=by
 induction h with
 |refl=>exact AS8 _
 |step _ ih=>simp only[JN];omega
theorem Ab9 (f:Nat->Nat){k n:Nat}(h:k<n):f k<=JN f n:=by
 have:=AD5 f (show k+1<=n from h)
 simp only[JN]at this;omega
theorem SL {f g:Nat->Nat}:∀{n:Nat},(∀i,i<n->f i<=g i)->JN f n<=JN g n
 |0,_=>AS8 _
 |n+1,h=>by have h1:=SL (n:=n) fun i a=>h i (by omega);have b:=h n (by omega);simp only[JN];omega
theorem Pu (f:Nat->Nat):∀n,Uf ((List.range n).map f)=JN f n:=by
 have app:∀a b:List Nat,Uf (a++b)=Uf a+Uf b:=by
  intro a b
  induction a with
  |nil=>simp[Uf]
  |cons x r ih=>simp only[AW5,Sv,ih];omega
 intro n
 induction n with
 |zero=>rfl
 |succ n ih=>rw[AX3,AY7,app,ih];simp[JN,Uf]
def Ob (P:Program)(t:TypeId){T:Type}(c:T->List PV)(W:T->Prop)(sz:T->Nat):Prop:=
 ∀(m:Nat) (pvs:List PV),Ie P m t pvs->∃x:T,LeDs pvs (c x)/\W x/\sz x<=m
theorem U3 {k:IntKind}(ht:P.underlying t=some (.int k)):Ob P t (cI k) (fun n=>(Lit.int k n).wf=true) (fun _=>1):=by
 intro m pvs h;cases h with
 |bool ht'=>rw[ht]at ht';cases ht'
 |str ht'=>rw[ht]at ht';cases ht'
 |slice _ ht'=>rw[ht]at ht';cases ht'
 |arr ht'=>rw[ht]at ht';cases ht'
 |struct ht'=>rw[ht]at ht';cases ht'
 |int ht' hw hm=>rw[ht]at ht';cases ht';exact⟨_,LeDs.refl _,hw,hm⟩
theorem Yp (ht:P.underlying t=some .bool):Ob P t cB (fun _=>True) (fun _=>1):=by
 intro m pvs h;cases h with
 |int ht'=>rw[ht]at ht';cases ht'
 |str ht'=>rw[ht]at ht';cases ht'
 |slice _ ht'=>rw[ht]at ht';cases ht'
 |arr ht'=>rw[ht]at ht';cases ht'
 |struct ht'=>rw[ht]at ht';cases ht'
 |bool ht' hm=>exact⟨_,LeDs.refl _,trivial,hm⟩
theorem Ac0 (ht:P.underlying t=some .string):Ob P t cS (fun _=>True) (fun l=>l.length+1):=by
 intro m pvs h;cases h with
 |int ht'=>rw[ht]at ht';cases ht'
 |bool ht'=>rw[ht]at ht';cases ht'
 |slice _ ht'=>rw[ht]at ht';cases ht'
 |arr ht'=>rw[ht]at ht';cases ht'
 |struct ht'=>rw[ht]at ht';cases ht'
 |str ht' hm=>exact⟨_,LeDs.refl _,trivial,hm⟩
theorem BY {T:Type}[Inhabited T]{c:T->List PV}{W:T->Prop}{sz:T->Nat}{k:Nat}(ht:P.underlying t=some (.slice e))(hk:P.cellsOf e=k)(h:Ob P e c W sz) :Ob P t (cL k c) (fun s=>∀i,i<s.n->W (s.g i)) (fun s=>JN (fun i=>sz (s.g i)) s.n+1):=by
 intro m pvs hs;cases hs with
 |int ht'=>rw[ht]at ht';cases ht'
 |bool ht'=>rw[ht]at ht';cases ht'
 |str ht'=>rw[ht]at ht';cases ht'
 |arr ht'=>rw[ht]at ht';cases ht'
 |struct ht'=>rw[ht]at ht';cases ht'
 | @slice _ _ e' n f ms ht' hl hel hm=>
  rw[ht]at ht';cases ht';obtain⟨g,b⟩:=choose_lt (α:=T) (p:=fun i x=>LeDs (f i) (c x)/\W x/\sz x<=ms i) fun i a=>h _ _ (hel i a);refine⟨⟨n,g⟩,?_,fun i a=>(b i a).2.1,?_⟩
  ·subst hk;exact .cons (.sl fun i a=>(b i a).1) .nil
  ·have h1:=SL (n:=n) fun i a=>(b i a).2.2;rw[Pu]at hm;show JN (fun i=>sz (g i)) n+1<=m;omega
theorem Cx {fs:Array Field}(ht:P.underlying t=some (.struct fs))(h:Ie P m t pvs):∃m',Gj P m' (fs.toList.map (·.type)) pvs/\m' + 1<=m:=by
 cases h with
 |int ht'=>rw[ht]at ht';cases ht'
 |bool ht'=>rw[ht]at ht';cases ht'
 |str ht'=>rw[ht]at ht';cases ht'
 |slice _ ht'=>rw[ht]at ht';cases ht'
 |arr ht'=>rw[ht]at ht';cases ht'
 |struct ht' h hm=>rw[ht]at ht';cases ht';exact⟨_,h,hm⟩
theorem D7 {ts:List TypeId}(h:Gj P m (t::ts) pvs):∃a b p q,pvs=p++q/\Ie P a t p/\Gj P b ts q/\a+b<=m:=by
 cases h with
 |cons h h' hm=>exact⟨_,_,_,_,rfl,h,h',hm⟩
theorem EL (h:Gj P m [] pvs):pvs=[]:=by cases h;rfl
end
end Go.AM
