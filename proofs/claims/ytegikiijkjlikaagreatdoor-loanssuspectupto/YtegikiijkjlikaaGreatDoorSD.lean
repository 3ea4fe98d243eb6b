/- What a law's walk and its plain proof need, part 4: no condition of its own. -/
import Derived.Test.YtegikiijkjlikaaGreatDoorSC
import Derived.KernelRfl
set_option linter.defProp false
set_option linter.unusedSimpArgs false
set_option linter.unusedVariables false
set_option linter.unusedSectionVars false
namespace Go.AM
def Be9:=@Nat.le_of_ble_eq_true
def Bh0:=@List.mem_map
def Bh1:=@List.mem_cons_self
def Bh2:=@List.mem_singleton
def Bh8:=@Nat.blt_eq
def Bh9:=@List.range_succ
def Bk4:=@List.map_append
def Bp4:=@List.tail_cons
abbrev Str:=List UInt8
structure Sl (α : Type) where
 n:Nat
 g:Nat -> α
instance {α : Type} [Inhabited α]:Inhabited (Sl α):=⟨⟨0,fun _=>default⟩⟩
namespace Sl
variable {α : Type}
def toList (s:Sl α):List α:=(List.range s.n).map s.g
abbrev nil [Inhabited α]:Sl α:=⟨0,fun _=>default⟩
abbrev rep (n:Nat)(a : α):Sl α:=⟨n,fun _=>a⟩
abbrev sub (s:Sl α)(a b:Nat):Sl α:=⟨b-a,fun i=>s.g (a+i)⟩
abbrev drop (s:Sl α)(a:Nat):Sl α:=⟨s.n-a,fun i=>s.g (a+i)⟩
abbrev take (s:Sl α)(b:Nat):Sl α:=⟨b,s.g⟩
abbrev push (s:Sl α)(a : α):Sl α:=⟨s.n+1,fun i=>if i<s.n then s.g i else a⟩
abbrev app (s t:Sl α):Sl α:=⟨s.n+t.n,fun i=>if i<s.n then s.g i else t.g (i-s.n)⟩
abbrev upd (s:Sl α)(k:Nat)(a : α):Sl α:=⟨s.n,fun i=>if i=k then a else s.g i⟩
abbrev of [Inhabited α](l:List α):Sl α:=⟨l.length,fun i=>l.getD i default⟩
end Sl
abbrev vSl {α : Type}(k:Nat)(c : α -> List PV)(s:Sl α):PV:=.sl false k s.n fun i=>c (s.g i)
abbrev pI (k:IntKind)(n:Int):PV:=.v (.int k n)
abbrev Z8 (l:Str)(i:Int):Int:=(((l.getD i.toNat 0).toNat:Nat):Int)
abbrev pN (n:Int):AV:=.p (.v (.int .i64 n))
abbrev pU (n:Int):AV:=.p (.v (.int .u32 n))
abbrev pB (b:Bool):AV:=.p (.bb b)
abbrev J2:PV:=.v (.slice none 0 0)
section
variable {R:Type}
def R5 {A:Type}(N:Nat)(body:(A->Option R)->A->Option R):A->Option R:=match N with
 |0=>fun _=>none
 |N+1=>fun a=>body (R5 N body) a
variable {A B C D E F G H:Type}
def S4 (N:Nat)(body:(A->B->Option R)->A->B->Option R)(a:A)(b:B):Option R:=R5 N (fun self x=>body (fun a b=>self (a,b)) x.1 x.2) (a,b)
def AI6 (N:Nat)(body:(A->B->C->Option R)->A->B->C->Option R)(a:A)(b:B)(c:C):Option R:=R5 N (fun self x=>body (fun a b c=>self (a,b,c)) x.1 x.2.1 x.2.2) (a,b,c)
def Aq4 (N:Nat)(body:(A->B->C->D->Option R)->A->B->C->D->Option R)(a:A)(b:B)(c:C)(d:D):Option R:=R5 N (fun self x=>body (fun a b c d=>self (a,b,c,d)) x.1 x.2.1 x.2.2.1 x.2.2.2) (a,b,c,d)
theorem V8 {N:Nat}{body:(A->Option R)->A->Option R}{a:A}:R5 (N+1) body a=body (R5 N body) a:=rfl
theorem F3 {N:Nat}{body:(A->B->Option R)->A->B->Option R}{a:A}{b:B}:S4 (N+1) body a b=body (S4 N body) a b:=rfl
theorem T3 {N:Nat}{body:(A->B->C->D->Option R)->A->B->C->D->Option R}{a:A}{b:B}{c:C}{d:D}:Aq4 (N+1) body a b c d=body (Aq4 N body) a b c d:=rfl
def lt {K:Type}(k:K)(f:K->Option R):Option R:=f k
end
section
variable {R X Y:Type}{r:R}
theorem itT {b:Bool}{x y:Option R}(hb:b=true)(h:(if b then x else y)=some r):x=some r:=by rwa [if_pos hb]at h
theorem itF {b:Bool}{x y:Option R}(hb:b=false)(h:(if b then x else y)=some r):y=some r:=by rwa [if_neg (by simp[hb])]at h
theorem D2 {p:Prop}[Decidable p]{x:Option R}(h:(if p then x else none)=some r):p/\x=some r:=by
 split at h
 ·exact⟨by assumption,h⟩
 ·cases h
theorem B6 {x:Option X}{f:X->Option R}(h:x.bind f=some r):∃a,x=some a/\f a=some r:=Bi4.1 h
theorem B7 {a b:R}(h:some a=some b):a=b:=Bg1 h
end
section
variable {S:Bd}{P:Program}{F:J6}{K:List It}{st:St}
theorem A3 (hS:G6 S P){n:Nat}{rs:List ResultVar}{Q:Lt->List Obj->List Bool->Prop}(s:St)(h:S.up s (Cj S P n rs Q .normal)):Cj S P n rs Q .normal s:=hS.trans _ _ h
theorem AS7 (hS:G6 S P){b:Code}{R A:Type}{body:(A->Option R)->A->Option R}{N:Nat}{a0:A}{r:R}(h:R5 N body a0=some r)(s:A->St)(ids:List (Nat×Nat))(hle:Le ids st (s a0))
 (hr:∀(X:Type) (s' : X->St) (J:X->Prop) (m:X->Nat) (n:Nat) (self:A->Option R) (a:A),(∀st ids a,Le ids st (s a)->self a=some r->G S P F (.pop .normal (.lp X s' J m n::K) st))->body self a=some r->G S P F (.code b (.lp X s' J m n::K) (s a))) :
 G S P F (.code (.loop b) K st):=by
 refine AC4 hS (X:=Nat×A) (fun x=>s x.2) (fun x=>R5 x.1 body x.2=some r) (fun x=>x.1) (N,a0) ids hle h ?_;rintro⟨n,a⟩ hx;cases n with
 |zero=>cases hx
 |succ n=>exact hr _ _ _ _ _ (R5 n body) a (fun st ids a hle h=>Ae8 hS (n,a) ids hle h (Nat.lt_succ_self n)) hx
theorem Ah9 (hS:G6 S P){all rest:List Oper}{o:Oper}(t:St)(ids:List (Nat×Nat))(hle:Le ids st t)(h:G S P F (.ops all (o::rest) K t)):G S P F (.ops all (o::rest) K st):=
 YL hS (hS.le ids _ _ _ hle h)
end
theorem pm:(∀b,(true||b)=true)/\(∀b,(b||true)=true)/\(∀b,(false||b)=b)/\(∀b,(b||false)=b)/\(∀b,(true&&b)=b)/\(∀b,(b&&true)=b)/\(∀b,(false&&b)=false)/\(∀b,(b&&false)=false)/\((!true)=false)/\((!false)=true)/\((false=true)=False)/\((true=true)=True):=by refine⟨?_,?_,?_,?_,?_,?_,?_,?_,?_,?_,?_,?_⟩<;>simp
section
variable {regs:D1}{ids:List (Nat×Nat)}
variable {env r:Env}{t:Nat}{a b:AV}{x y:PV}
theorem eP (hg:get env t=a)(h:viewP regs a=some y)(h' : Lx regs ids env r):Lx regs ids env ((t,.p y)::r):=AC5 hg (le_p h) h'
theorem eM {i j:Nat}(hg:get env t=.mref i)(h:lk ids j=some i)(h' : Lx regs ids env r):Lx regs ids env ((t,.mref j)::r):=AC5 hg (Ae9 h) h'
theorem Er {α : Type}{c : α -> List PV}{n:Nat}{v:Sl α}{f:Nat->List PV}{z cs:List PV}{x : α}(h:∀i,i<n->f i=c (v.g i))(hn:n=v.n)(hx:cs=c x):∀i,i<n+1->R4 n f (D4 z [(0,cs)]) i=c ((v.push x).g i):=by
 subst hn hx;intro i hi;show (if i<v.n then f i else D4 z [(0,c x)] (i-v.n))=c (if i<v.n then v.g i else x);split
 ·exact h i ‹_›
 ·obtain rfl:i=v.n:=by omega
  simp[D4]
theorem Vr {α : Type}{c : α -> List PV}{n m:Nat}{v w:Sl α}{f g:Nat->List PV}(h:∀i,i<n->f i=c (v.g i))(hn:n=v.n)(h' : ∀i,i<m->g i=c (w.g i))(hm:m=w.n):∀i,i<n+m->R4 n f g i=c ((v.app w).g i):=by
 subst hn hm;intro i hi;show (if i<v.n then f i else g (i-v.n))=c (if i<v.n then v.g i else w.g (i-v.n));split
 ·exact h i ‹_›
 ·exact h' _ (by omega)
theorem Av0 {α : Type}{c : α -> List PV}{n k:Nat}{v:Sl α}{f:Nat->List PV}{e:Nat->List PV}{x : α}(h:∀i,i<n->f i=c (v.g i))(hx:k<n->e k=c x):∀i,i<n->(fun l=>if l=k then e l else f l) i=c ((v.upd k x).g i):=by
 intro i hi;show (if i=k then e i else f i)=c (if i=k then x else v.g i);split
 ·subst_vars;exact hx hi
 ·exact h i hi
theorem same {n:Nat}{f:Nat->List PV}:∀i,i<n->f i=f i:=fun _ _=>rfl
end
end Go.AM
namespace Go.AM
abbrev cI (k:IntKind)(n:Int):List PV:=[.v (.int k n)]
abbrev cB (b:Bool):List PV:=[.bb b]
abbrev cS (s:Str):List PV:=[.str s]
abbrev cL {α : Type}(k:Nat)(c : α -> List PV)(s:Sl α):List PV:=[vSl k c s]
section
variable {S:Bd}{P:Program}{F:J6}{K:List It}{st:St}
end
section
variable {regs:D1}{ids:List (Nat×Nat)}
theorem le_yf {i j:Nat}(h:lk ids j=some i):leA regs ids (.yf i) (.yf j):=by unfold leA;exact⟨i,h,rfl⟩
theorem AS8 {l m:List AV}(h:leL regs ids l m):leA regs ids (.tup l) (.tup m):=by unfold leA;exact⟨l,rfl,h⟩
theorem AS9 {l m:List AV}(h:leL regs ids l m):leA regs ids (.agr l) (.agr m):=by unfold leA;exact⟨l,rfl,h⟩
end
end Go.AM
namespace Go.AM
def Pq {κ ν : Type}(kP : κ -> PV)(vP : ν -> PV)(es:List (κ × ν)):List (PV×PV):=es.map fun p=>(kP p.1,vP p.2)
def De {κ ν : Type}(eq : κ -> κ -> Bool)(k : κ):List (κ × ν)->Option ν
 |[]=>none
 |(a,v)::es=>if eq k a then some v else De eq k es
def QO {κ ν : Type}(eq : κ -> κ -> Bool)(k : κ)(v : ν):List (κ × ν)->List (κ × ν)
 |[]=>[(k,v)]
 |(a,x)::es=>if eq k a then (k,v)::es else (a,x)::QO eq k v es
theorem Vs {κ ν : Type}(kP : κ -> PV)(vP : ν -> PV)(es:List (κ × ν)):(Pq kP vP es).length=es.length:=by simp[Pq]
theorem FK {κ ν : Type}{kP : κ -> PV}{vP : ν -> PV}{cmp:PV->PV->Option Bool}{eq : κ -> κ -> Bool}(hc:∀a b,cmp (kP a) (kP b)=some (eq a b))(k : κ):∀es:List (κ × ν),find cmp (kP k) (Pq kP vP es)=some ((De eq k es).map vP)
 |[]=>rfl
 |(a,v)::es=>by
  show (match cmp (kP k) (kP a)with|some true=>some (some (vP v))|some false=>find cmp (kP k) (Pq kP vP es)|none=>none)=some ((De eq k ((a,v)::es)).map vP);rw[hc];simp only[De];cases h:eq k a
  ·simpa using FK hc k es
  ·rfl
theorem Li {κ ν : Type}{kP : κ -> PV}{vP : ν -> PV}{cmp:PV->PV->Option Bool}{eq : κ -> κ -> Bool}(hc:∀a b,cmp (kP a) (kP b)=some (eq a b))(k : κ)(x : ν):∀es:List (κ × ν),upd cmp (kP k) (vP x) (Pq kP vP es)=some (Pq kP vP (QO eq k x es))
 |[]=>rfl
 |(a,v)::es=>by
  show (match cmp (kP k) (kP a)with|some true=>some ((kP k,vP x)::Pq kP vP es)|some false=>(upd cmp (kP k) (vP x) (Pq kP vP es)).map ((kP a,vP v) :: ·)|none=>none)=some (Pq kP vP (QO eq k x ((a,v)::es)));rw[hc];simp only[QO];cases h:eq k a
  ·simp only[Li hc k x es,AZ6,if_false,AZ2];rfl
  ·rfl
abbrev eqS (a b:Str):Bool:=a==b
def AP5 {X Y:Type}(o:Option X)(a:Y)(f:X->Y):Y:=match o with
 |none=>a
 |some x=>f x
theorem optN {X R:Type}{r:R}{o:Option X}{a:Option R}{f:X->Option R}(ho:o=none)(h:AP5 o a f=some r):a=some r:=by subst ho;exact h
theorem optS {X R:Type}{r:R}{o:Option X}{x:X}{a:Option R}{f:X->Option R}(ho:o=some x)(h:AP5 o a f=some r):f x=some r:=by subst ho;exact h
theorem SR {X Y:Type}(a:Y)(f:X->Y):AP5 none a f=a:=rfl
theorem Ai0 {X Y:Type}(x:X)(a:Y)(f:X->Y):AP5 (some x) a f=f x:=rfl
section
variable {R T A B C D:Type}
def iter0 (L:List T)(body:Option R->T->Option R)(k:Option R):Option R:=match L with
 |[]=>k
 |t::L=>body (iter0 L body k) t
def P4 (L:List T)(body:(A->Option R)->T->A->Option R)(k:A->Option R)(a:A):Option R:=match L with
 |[]=>k a
 |t::L=>body (P4 L body k) t a
end
section
variable {S:Bd}{P:Program}{F:J6}{K:List It}{st:St}
theorem AI7 (hS:G6 S P){g:Operand}{ps:Array Tmp}{asg body:Code}{f:FuncId}{first caps as bs:List AV}{objs:List Obj}{R T A:Type}{enc:T->List PV}{L:List T}{mb:(A->Option R)->T->A->Option R}{mk:A->Option R}{a0:A}{r:R}
 (ids ts:List Nat) (gh:Nat) (s:A->St) (idl:List (Nat×Nat)) (h:P4 L mb mk a0=some r) (hF:Dx S f as bs objs (L.map enc))
 (hp:DQ st.env g=some (f,first,caps)) (hfn:∃fn,P.funcs[f]? = some fn/\fn.body.isSome=true/\(fn.name == "runtime.NumGoroutine")=false) (hob:J7 ids st.regs ids=some objs) (hny:Eh objs=true) (hd:G2 ids=true) (hr1:CO ids first=some as) (hr2:CO ids caps=some bs) (hol:objs.length=ids.length)
 (hgh:Nat.blt gh 1000=true) (hng:A2 st.regs gh=none) (hil:Nat.blt ids.length 1000=true) (hts:G2 ts=true) (hlen:∀t:T,(enc t).length=ps.size)
 (hle:Le idl ⟨V7 ts (ts.map (get st.env)),O5 ids (ids.map fun _=>false) st.regs⟩ (s a0)) (hk:∀a,(s a).env.map (·.1)=ts) (hn:∀a,A2 (s a).regs gh=none)
 (hround:∀(t:T) (next:St->Prop) (self:A->Option R) (a:A),(∀(st st1:St) (cs:List AV) (idl:List (Nat×Nat)) (a:A),Le idl st st1->A2 st1.regs gh=some (.ghost cs)->cs.length=ts.length->A2 (del gh st1.regs) gh=none->(⟨V7 ts cs,del gh st1.regs⟩:St)=s a->self a=some r->G S P (DS S gh ts next (kp S P K F)) (.pop .normal [] st)) ->
  mb self t a=some r->G S P (Bo S P body gh ts next (kp S P K F)) (.code asg [] ⟨HZ ps.toList (enc t) (s a).env,ins gh (.ghost ((s a).env.map (·.2))) (s a).regs⟩))
 (hend:∀a,mk a=some r->G S P F (.pop .normal K (s a))):G S P F (.code (.rangeFunc g ps asg body) K st):=by
 refine Ah7 hS ids ts gh (L.map enc) s (fun rest a=>∃L',rest=L'.map enc/\P4 L' mb mk a=some r) a0 idl hp hfn hob hny hd hr1 hr2 hol (by simpa[Bh8]using hgh) hng (by simpa[Bh8]using hil) hts (fun ys hy=>?_) hF hle ⟨L,rfl,h⟩ hk hn ?_ ?_
 ·obtain⟨t,_,rfl⟩:=Bh0.1 hy;exact hlen t
 ·rintro ys rest a ⟨L',hL,hx⟩;cases L' with
  |nil=>cases hL
  |cons t L'=>simp only[Bb4,Bg2]at hL;obtain⟨rfl,rfl⟩:=hL;refine hround t _ (P4 L' mb mk) a (fun st st1 cs idl a hle h1 h2 h3 h4 h5=>?_) hx;exact Vo hS st1 a idl hle h1 h2 h3 h4 ⟨L',rfl,h5⟩
 ·rintro a ⟨L',hL,hx⟩;cases L' with
  |nil=>exact hend a hx
  |cons t L'=>cases hL
theorem Av1 (hS:G6 S P){g:Operand}{ps:Array Tmp}{asg body:Code}{f:FuncId}{first caps as bs:List AV}{objs:List Obj}{R T A:Type}{enc:T->List PV}{L:List T}{mb:(A->Option R)->T->A->Option R}{mk:A->Option R}{a0:A}{r0:R}
 (ids ts:List Nat) (gh:Nat) (s:A->R->St) (idl:List (Nat×Nat)) (h:P4 L mb mk a0=some r0) (hF:Dx S f as bs objs (L.map enc))
 (hp:DQ st.env g=some (f,first,caps)) (hfn:∃fn,P.funcs[f]? = some fn/\fn.body.isSome=true/\(fn.name == "runtime.NumGoroutine")=false) (hob:J7 ids st.regs ids=some objs) (hny:Eh objs=true) (hd:G2 ids=true) (hr1:CO ids first=some as) (hr2:CO ids caps=some bs) (hol:objs.length=ids.length)
 (hgh:Nat.blt gh 1000=true) (hng:A2 st.regs gh=none) (hil:Nat.blt ids.length 1000=true) (hts:G2 ts=true) (hlen:∀t:T,(enc t).length=ps.size)
 (hle:Le idl ⟨V7 ts (ts.map (get st.env)),O5 ids (ids.map fun _=>false) st.regs⟩ (s a0 r0)) (hk:∀a r,(s a r).env.map (·.1)=ts) (hn:∀a r,A2 (s a r).regs gh=none)
 (hround:∀(t:T) (next:St->Prop) (self:A->Option R) (a:A) (r:R),(∀(st st1:St) (cs:List AV) (idl:List (Nat×Nat)) (a:A) (r:R),Le idl st st1->A2 st1.regs gh=some (.ghost cs)->cs.length=ts.length->A2 (del gh st1.regs) gh=none->(⟨V7 ts cs,del gh st1.regs⟩:St)=s a r->self a=some r->G S P (DS S gh ts next (kp S P K F)) (.pop .normal [] st)) ->
  mb self t a=some r->G S P (Bo S P body gh ts next (kp S P K F)) (.code asg [] ⟨HZ ps.toList (enc t) (s a r).env,ins gh (.ghost ((s a r).env.map (·.2))) (s a r).regs⟩))
 (hend:∀a r,mk a=some r->G S P F (.pop .normal K (s a r))):G S P F (.code (.rangeFunc g ps asg body) K st):=by
 refine Ah7 hS ids ts gh (L.map enc) (fun x:A×R=>s x.1 x.2) (fun rest x=>∃L',rest=L'.map enc/\P4 L' mb mk x.1=some x.2) (a0,r0) idl hp hfn hob hny hd hr1 hr2 hol (by simpa[Bh8]using hgh) hng (by simpa[Bh8]using hil) hts (fun ys hy=>?_) hF hle ⟨L,rfl,h⟩ (fun x=>hk x.1 x.2) (fun x=>hn x.1 x.2) ?_ ?_
 ·obtain⟨t,_,rfl⟩:=Bh0.1 hy;exact hlen t
 ·rintro ys rest ⟨a,r⟩ ⟨L',hL,hx⟩;cases L' with
  |nil=>cases hL
  |cons t L'=>simp only[Bb4,Bg2]at hL;obtain⟨rfl,rfl⟩:=hL;refine hround t _ (P4 L' mb mk) a r (fun st st1 cs idl a r hle h1 h2 h3 h4 h5=>?_) hx;exact Vo hS st1 (a,r) idl hle h1 h2 h3 h4 ⟨L',rfl,h5⟩
 ·rintro⟨a,r⟩ ⟨L',hL,hx⟩;cases L' with
  |nil=>exact hend a r hx
  |cons t L'=>cases hL
end
end Go.AM
namespace Go.AM
section
variable {S:Bd}{P:Program}{all:List Oper}{k:Env->D1->Prop}
end
end Go.AM
namespace Go.AM
section
variable (P:Program)
def stp (g:Cfg):Cfg:=(run P none 400 [] g).cfg
def cnd (g:Cfg):List Prop:=(run P none 400 [] g).conds
def KM (d:Nat)(g:Cfg):Cfg:=(run P (some d) 400 [] g).cfg
def AX5 (d:Nat)(g:Cfg):List Prop:=(run P (some d) 400 [] g).conds
def Cfg.st:Cfg->St
 |.code _ _ s=>s
 |.ops _ _ _ s=>s
 |.pop _ _ s=>s
def Cfg.k:Cfg->List It
 |.code _ K _=>K
 |.ops _ _ K _=>K
 |.pop _ K _=>K
def mkO {R:Type _}(env:Env)(regs:D1)(κ : Env->D1->R):R:=fE env fun env=>fR regs fun regs=>κ env regs
theorem FL {R:Type _}(env:Env)(regs:D1)(κ : Env->D1->R):mkO env regs κ = κ env regs:=by simp only[mkO,fE_eq,AF9]
def AD1 {R:Type _}(d:Option Nat)(a:AV)(env:Env)(regs:D1)(κ : St->R):R:=match d with
 |some d=>mkO (ins d a env) regs fun env regs=>κ ⟨env,regs⟩
 |none=>mkO env regs fun env regs=>κ ⟨env,regs⟩
theorem JA {R:Type _}(d:Option Nat)(a:AV)(env:Env)(regs:D1)(κ : St->R):AD1 d a env regs κ = κ (put ⟨env,regs⟩ d a):=by cases d<;>simp only[AD1,FL,put]
def Av2:Cfg->Option Bool
 |.code (.cond c _ _) _ st=>match aev st.env c with
  |.p (.bb b)=>some b
  |_=>none
 |_=>none
def AI8:Cfg->Cfg
 |.code (.cond _ t _) K st=>.code t K st
 |g=>g
def AI9:Cfg->Cfg
 |.code (.cond _ _ e) K st=>.code e K st
 |g=>g
def XL:Cfg->Option Bool
 |.ops all (o::_) _ st=>match o.guard with
  |some (j,_)=>match AQ7 all j with
   |some d=>match get st.env d with
    |.p (.bb b)=>some b
    |_=>none
   |none=>none
  |none=>none
 |_=>none
def LU (b:Bool):Cfg->Cfg
 |.ops all (o::rest) K st=>match o.guard with
  |some (j,_)=>match AQ7 all j with
   |some d=>AD1 (some d) (.p (.v (.bool b))) st.env st.regs fun st=>.ops all (o::rest) K st
   |none=>.ops all (o::rest) K st
  |none=>.ops all (o::rest) K st
 |g=>g
def Zm (ids:List Nat):Cfg->Option (FuncId×List AV×List Obj)
 |.ops all (o::_) _ st=>match CD all st.env o,o.op with
  |some true,.call c=>match c.callee with
   |.value f=>match NJ st.regs (c.args.toList.map (aev st.env))with
    |some (as,regs)=>match UT st.env f as with
     |some (fn,as')=>match CO ids as',J7 ids regs ids with
      |some a,some ob=>if G2 ids&&Eh ob then some (fn,a,ob)else none
      |_,_=>none
     |none=>none
    |none=>none
   |_=>none
  |_,_=>none
 |_=>none
def Zn (ids:List Nat)(ks:List Bool)(n:Nat):Cfg->Bool
 |.ops _ (o::_) _ st=>match o.op with
  |.call c=>match NJ st.regs (c.args.toList.map (aev st.env))with
   |some (_,regs)=>CY regs ids ks (o.dst.getD 0) n
   |none=>false
  |_=>false
 |_=>false
def Av3 (ids:List Nat)(ks:List Bool)(r:AV)(objs' : List Obj):Cfg->Cfg
 |.ops all (o::rest) K st=>match o.op with
  |.call c=>match NJ st.regs (c.args.toList.map (aev st.env))with
   |some (_,regs)=>AD1 o.dst (unA (O4 (o.dst.getD 0) ids ks objs'.length) r) st.env
    (Ac7 (O4 (o.dst.getD 0) ids ks objs'.length) (O4 (o.dst.getD 0) ids ks objs'.length) objs' (O5 ids ks regs)) fun st=>.ops all rest K st
   |none=>.ops all (o::rest) K st
  |_=>.ops all (o::rest) K st
 |g=>g
structure LookI where
 kt:TypeId
 e:TypeId
 key:PV
 es:List (PV×PV)
def AJ0:Cfg->Option LookI
 |.ops all (o::_) _ st=>match CD all st.env o,o.op with
  |some true,.lookup t m k _=>match HW st.regs (aev st.env k),aev st.env m with
   |some (key,regs),.mref j=>match A2 regs j,tk P t with
    |some (.map es),some (.map kt e)=>if KI P kt key then some ⟨kt,e,key,es⟩else none
    |_,_=>none
   |_,_=>none
  |_,_=>none
 |_=>none
def AT0 (e:TypeId):Option PV->Option (PV×Bool)
 |some x=>some (x,true)
 |none=>(Lr P e).map fun z=>(z,false)
def AJ1 (x:PV)(b:Bool):Cfg->Cfg
 |.ops all (o::rest) K st=>match o.op with
  |.lookup _ _ k ok=>match HW st.regs (aev st.env k)with
   |some (_,regs)=>AD1 o.dst (if ok then .tup [.p x,.bool b]else .p x) st.env regs fun st=>.ops all rest K st
   |none=>.ops all (o::rest) K st
  |_=>.ops all (o::rest) K st
 |g=>g
def updE:Cfg->Option (TypeId×PV×PV×List (PV×PV))
 |.ops all (o::_) _ st=>match CD all st.env o,o.op with
  |some true,.mapUpdate t m k x=>match aev st.env k,aev st.env m,HW st.regs (aev st.env x)with
   |.p key,.mref j,some (y,regs)=>match A2 regs j,tk P t with
    |some (.map es),some (.map kt _)=>if KI P kt (nP key) then some (kt,nP key,y,es)else none
    |_,_=>none
   |_,_,_=>none
  |_,_=>none
 |_=>none
def updK (es' : List (PV×PV)):Cfg->Cfg
 |.ops all (o::rest) K st=>match o.op with
  |.mapUpdate _ m _ x=>match aev st.env m,HW st.regs (aev st.env x)with
   |.mref j,some (_,regs)=>AD1 o.dst YG st.env (ins j (.map es') regs) fun st=>.ops all rest K st
   |_,_=>.ops all (o::rest) K st
  |_=>.ops all (o::rest) K st
 |g=>g
def Io:Cfg->Bool
 |.code (.loop _) _ _=>true
 |_=>false
def SS:Cfg->Code
 |.code (.loop b) _ _=>b
 |_=>.skip
def popSt:Cfg->Option St
 |.pop .normal _ st=>some st
 |_=>none
def ST (M:It):Nat->List It->List It
 |0,K=>M::K
 |n+1,i::K=>i::ST M n K
 |_+1,[]=>[M]
def AT1 (n:Nat)(M:St->Prop):Cfg->Cfg
 |.code c K st=>.code c (ST (.mid M) n K) st
 |.ops all rest K st=>.ops all rest (ST (.mid M) n K) st
 |.pop e K st=>.pop e (ST (.mid M) n K) st
def JB:Cfg->Bool
 |.ops _ (_::_) _ _=>true
 |_=>false
def opsS (st:St):Cfg->Cfg
 |.ops all rest K _=>.ops all rest K st
 |g=>g
def AJ2:Cfg->Option St
 |.pop .ret [] st=>some st
 |.pop .normal [] st=>some st
 |_=>none
inductive Leaf where
 |eq (x y:PV)
 |fn (n m:Nat) (f g:Nat->List PV)
 |mp (x y:List (PV×PV))
 |yl (x y:List (List PV)) (b c:Bool)
 |nt (a b:Nat)
 |ob (n:Nat) (f g:Nat->Obj)
inductive LV where
 |eq (x:PV)
 |fn (n:Nat) (f:Nat->List PV)
 |mp (x:List (PV×PV))
 |yl (x:List (List PV)) (b:Bool)
 |nt (a:Nat)
 |ob (f:Nat->Obj)
def Leaf.src:Leaf->LV
 |.eq x _=>.eq x
 |.fn n _ f _=>.fn n f
 |.mp x _=>.mp x
 |.yl x _ b _=>.yl x b
 |.nt a _=>.nt a
 |.ob _ f _=>.ob f
def Leaf.tgt:Leaf->LV
 |.eq _ y=>.eq y
 |.fn _ m _ g=>.fn m g
 |.mp _ y=>.mp y
 |.yl _ y _ c=>.yl y c
 |.nt _ b=>.nt b
 |.ob _ _ g=>.ob g
def Leaf.ok:Leaf->Prop
 |.eq x y=>x=y
 |.fn n m f g=>n=m/\∀i,i<n->f i=g i
 |.mp x y=>x=y
 |.yl x y b c=>x=y/\b=c
 |.nt a b=>a=b
 |.ob n f g=>∀i,i<n->f i=g i
theorem Leaf.ok_of {l:Leaf}(h:l.src=l.tgt):l.ok:=by
 cases l with
 |eq x y=>simp only[Leaf.src,Leaf.tgt,LV.eq.injEq]at h;exact h
 |fn n m f g=>simp only[Leaf.src,Leaf.tgt,LV.fn.injEq]at h;obtain⟨rfl,rfl⟩:=h;exact⟨rfl,fun _ _=>rfl⟩
 |mp x y=>simp only[Leaf.src,Leaf.tgt,LV.mp.injEq]at h;exact h
 |yl x y b c=>simp only[Leaf.src,Leaf.tgt,LV.yl.injEq]at h;exact h
 |nt a b=>simp only[Leaf.src,Leaf.tgt,LV.nt.injEq]at h;exact h
 |ob n f g=>simp only[Leaf.src,Leaf.tgt,LV.ob.injEq]at h;subst h;exact fun _ _=>rfl
def AJ3:PV->PV->Leaf
 |.v (.bool b),.bb c=>.eq (.bb b) (.bb c)
 |.v (.slice none 0 0),.sl false _ n f=>.fn 0 n f f
 |.sl nn k n f,.sl false l m g=>if k=l then .fn n m f g else .eq (.sl nn k n f) (.sl false l m g)
 |x,y=>.eq x y
mutual
def Ip (regs:D1)(ids:List (Nat×Nat))(a b:AV):Option (List Leaf):=
 match b with
 |.top=>some []
 |.p y=>match viewP regs a with
  |some x=>some [AJ3 x y]
  |none=>none
 |.reg j off=>match a with | .reg i off'=>if lk ids j=some i/\off=off' then some []else none|_=>none
 |.vec j=>match a with
  |.vec i=>if lk ids j=some i then some []else none
  |.p (.v (.slice none 0 0))=>if lk ids j=none then some []else none
  |_=>none
 |.vecp j n=>match a with | .vecp i m=>if lk ids j=some i/\n=m then some []else none|_=>none
 |.elt j k n off=>match a with | .elt i k' n' off'=>if lk ids j=some i/\k=k' /\ n=n' /\ off=off' then some []else none|_=>none
 |.mref j=>match a with | .mref i=>if lk ids j=some i then some []else none|_=>none
 |.yf j=>match a with | .yf i=>if lk ids j=some i then some []else none|_=>none
 |.clo f x y=>match a with
  |.clo f' x' y'=>match NQ regs ids x' x,NQ regs ids y' y with|some l,some m=>some (.nt f' f::l++m)|_,_=>none
  |_=>none
 |.tup l=>match a with | .tup l'=>NQ regs ids l' l|_=>none
 |.agr l=>match a with | .agr l'=>NQ regs ids l' l|_=>none
def NQ (regs:D1)(ids:List (Nat×Nat))(a b:List AV):Option (List Leaf):=
 match b with
 |[]=>match a with | []=>some [] | _=>none
 |y::s=>match a with
  |x::r=>match Ip regs ids x y,NQ regs ids r s with|some l,some m=>some (l++m)|_,_=>none
  |[]=>none
end
def Av4 (regs:D1)(ids:List (Nat×Nat))(env:Env):Env->Option (List Leaf)
 |[]=>some []
 |(t,b)::r=>match Ip regs ids (get env t) b,Av4 regs ids env r with|some l,some m=>some (l++m)|_,_=>none
def NR (regs:D1)(ids:List (Nat×Nat))(o p:Obj):Option (List Leaf):=
 match p with
 |.cells cs=>match o with | .cells cs'=>NQ regs ids cs' cs|_=>none
 |.vec e k n f vw=>match o with
  |.vec e' k' m g vw'=>if e=e' /\ k=k' /\ (vw' = true->vw=true)then some [.fn m n g f]else none
  |_=>none
 |.map es=>match o with | .map es'=>some [.mp es' es] | _=>none
 |.arr n f=>match o with | .arr m g=>some [.fn m n (fun i=>[g i]) (fun i=>[f i])] | _=>none
 |.ghost cs=>match o with | .ghost cs'=>NQ regs ids cs' cs|_=>none
 |.yld r b=>match o with | .yld r' b'=>some [.yl r' r b' b] | _=>none
 |.fam e n jr x=>match o with
  |.fam e' m jr' x'=>if e=e' /\ lk ids jr=some jr' then (match x,x' with
   |none,none=>some [.nt m n]
   |some (i,a),some (i',a')=>match nov a' a,Ip regs ids a' a with
    |true,some l=>some (.nt m n :: .nt i' i::l)
    |_,_=>none
   |_,_=>none)else none
  |_=>none
 |.rows n g=>match o with | .rows m g'=>some [.nt m n,.ob n g' g] | _=>none
 |.dead=>some []
def Av5 (regs:D1)(ids:List (Nat×Nat)):D1->Option (List Leaf)
 |[]=>some []
 |(j,p)::r=>match (match lk ids j with
  |some i=>match A2 regs i with
   |some o=>NR regs ids o p
   |none=>none
  |none=>match p with
   |.vec _ _ n f _=>some [.fn 0 n f f]
   |_=>none:Option (List Leaf)),Av5 regs ids r with
  |some l,some m=>some (l++m)
  |_,_=>none
def leK (ids:List (Nat×Nat))(s t:St):Option (List Leaf):=
 if (wf t&&G2 (ids.map (·.2))&&YI ids&&OT ids t.regs&&JX ids (Ar0 s.env t.env++Ib ids s.regs t.regs) t.regs) then
  match Av4 s.regs ids s.env t.env,Av5 s.regs ids t.regs with
  |some l,some m=>some (l++m)
  |_,_=>none
 else none
theorem Av6 {x y:PV}(h:(AJ3 x y).ok):leP x y:=by
 unfold AJ3 at h;split at h
 ·simp only[Leaf.ok,PV.bb.injEq]at h;subst h;exact .inr (.inr (.inr (.inl ⟨_,rfl,rfl⟩)))
 ·obtain⟨rfl,_⟩:=h;exact .inr (.inr (.inl ⟨_,_,rfl,rfl⟩))
 ·split at h
  ·rename_i hk;subst hk;obtain⟨rfl,h⟩:=h;exact .inr (.inl ⟨_,_,_,_,_,rfl,rfl,h⟩)
  ·exact .inl h
 ·exact .inl h
theorem LW {l m:List Leaf}(h:∀x∈l++m,x.ok):(∀x∈l,x.ok)/\∀x∈m,x.ok:=
 ⟨fun x hx=>h x (Ba8 _ hx),fun x hx=>h x (AZ7 _ hx)⟩
mutual
theorem QP {regs:D1}{ids:List (Nat×Nat)}{a:AV}(b:AV){L:List Leaf}(h:Ip regs ids a b=some L)(hL:∀x∈L,x.ok):leA regs ids a b:=by
 cases b with
 |top=>unfold leA;trivial
 |p y=>
  unfold Ip at h;split at h
  ·rename_i x hx;cases h;unfold leA;exact⟨x,hx,Av6 (hL _ (by simp))⟩
  ·cases h
 |reg j off=>
  unfold Ip at h;split at h
  ·split at h
   ·rename_i hh;obtain⟨h1,rfl⟩:=hh;exact AR0 h1
   ·cases h
  ·cases h
 |vec j=>
  unfold Ip at h;split at h
  ·split at h
   ·rename_i h1;exact AQ9 h1
   ·cases h
  ·split at h
   ·rename_i h1;exact AG3 h1
   ·cases h
  ·cases h
 |vecp j n=>
  unfold Ip at h;split at h
  ·split at h
   ·rename_i hh;obtain⟨h1,rfl⟩:=hh;unfold leA;exact⟨_,h1,rfl⟩
   ·cases h
  ·cases h
 |elt j k n off=>
  unfold Ip at h;split at h
  ·split at h
   ·rename_i hh;obtain⟨h1,rfl,rfl,rfl⟩:=hh;unfold leA;exact⟨_,h1,rfl⟩
   ·cases h
  ·cases h
 |mref j=>
  unfold Ip at h;split at h
  ·split at h
   ·rename_i h1;exact Ae9 h1
   ·cases h
  ·cases h
 |yf j=>
  unfold Ip at h;split at h
  ·split at h
   ·rename_i h1;exact le_yf h1
   ·cases h
  ·cases h
 |clo f x y=>
  unfold Ip at h;split at h
  ·split at h
   ·rename_i l m h1 h2;cases h;have hf:=hL _ (Bh1 ..);simp only[Leaf.ok]at hf;subst hf;obtain⟨h3,h4⟩:=LW fun x hx=>hL x (Bb2 _ hx);exact AR1 (EL x h1 h3) (EL y h2 h4)
   ·cases h
  ·cases h
 |tup l=>
  unfold Ip at h;split at h
  ·exact AS8 (EL l h hL)
  ·cases h
 |agr l=>
  unfold Ip at h;split at h
  ·exact AS9 (EL l h hL)
  ·cases h
theorem EL {regs:D1}{ids:List (Nat×Nat)}{a:List AV}(b:List AV){L:List Leaf}(h:NQ regs ids a b=some L)(hL:∀x∈L,x.ok):leL regs ids a b:=by
 cases b with
 |nil=>
  unfold NQ at h;split at h
  ·exact AG4
  ·cases h
 |cons y s=>
  unfold NQ at h;split at h
  ·split at h
   ·rename_i l m h1 h2;cases h;obtain⟨h3,h4⟩:=LW hL;exact Ar5 (QP y h1 h3) (EL s h2 h4)
   ·cases h
  ·cases h
end
theorem XM {regs:D1}{ids:List (Nat×Nat)}{env:Env}:∀(t:Env) {L:List Leaf},Av4 regs ids env t=some L->(∀x∈L,x.ok)->Lx regs ids env t
 |[],_,_,_=>trivial
 |(t,b)::r,L,h,hL=>by
  simp only[Av4]at h;split at h
  ·rename_i l m h1 h2;cases h;obtain⟨h3,h4⟩:=LW hL;exact⟨QP b h1 h3,XM r h2 h4⟩
  ·cases h
theorem Av7 {regs:D1}{ids:List (Nat×Nat)}{o p:Obj}{L:List Leaf}(h:NR regs ids o p=some L)(hL:∀x∈L,x.ok):leO regs ids o p:=by
 cases p with
 |cells cs=>
  simp only[NR]at h;split at h
  ·exact Ar6 (EL cs h hL)
  ·cases h
 |vec e k n f vw=>
  simp only[NR]at h;split at h
  ·split at h
   ·rename_i hh;obtain⟨rfl,rfl,hv⟩:=hh;cases h;obtain⟨rfl,h1⟩:=hL _ (Bh2.2 rfl);exact⟨_,_,rfl,h1,hv⟩
   ·cases h
  ·cases h
 |map es=>
  simp only[NR]at h;split at h
  ·cases h
   have:=hL _ (Bh2.2 rfl)
   simp only[Leaf.ok]at this;subst this;rfl
  ·cases h
 |arr n f=>
  simp only[NR]at h;split at h
  ·cases h;obtain⟨rfl,h1⟩:=hL _ (Bh2.2 rfl);exact⟨_,rfl,fun i hi=>by simpa using h1 i hi⟩
  ·cases h
 |ghost cs=>
  simp only[NR]at h;split at h
  ·exact⟨_,rfl,EL cs h hL⟩
  ·cases h
 |yld r b=>
  simp only[NR]at h;split at h
  ·cases h;obtain⟨rfl,rfl⟩:=hL _ (Bh2.2 rfl);rfl
  ·cases h
 |fam e n jr x=>
  simp only[NR]at h;split at h
  ·split at h
   ·rename_i he;obtain⟨rfl,hj⟩:=he;split at h
    ·cases h;have h0:=hL _ (Bh1 ..);simp only[Leaf.ok]at h0;subst h0;exact⟨_,_,rfl,hj,rfl⟩
    ·split at h
     ·rename_i hn hl;cases h;have h0:=hL _ (Bh1 ..);have h1:=hL _ (Bb2 _ (Bh1 ..));simp only[Leaf.ok]at h0 h1;subst h0 h1;exact⟨_,_,rfl,hj,_,rfl,hn,QP _ hl fun x hx=>hL x (by simp[hx])⟩
     ·cases h
    ·cases h
   ·cases h
  ·cases h
 |rows n g=>
  simp only[NR]at h;split at h
  ·cases h;have h0:=hL _ (Bh1 ..);simp only[Leaf.ok]at h0;subst h0;exact⟨_,rfl,hL (.ob _ _ _) (by simp)⟩
  ·cases h
 |dead=>trivial
theorem XN {regs:D1}{ids:List (Nat×Nat)}:∀(t:D1) {L:List Leaf},Av5 regs ids t=some L->(∀x∈L,x.ok)->Sg regs ids t
 |[],_,_,_=>trivial
 |(j,p)::r,L,h,hL=>by
  simp only[Av5]at h;split at h
  ·rename_i l m h1 h2;cases h;obtain⟨h3,h4⟩:=LW hL;refine⟨?_,XN r h2 h4⟩;split at h1
   ·rename_i i hi;split at h1
    ·rename_i o ho;exact .inl ⟨i,o,hi,ho,Av7 h1 h3⟩
    ·cases h1
   ·rename_i hi;split at h1
    ·cases h1;obtain⟨rfl,_⟩:=h3 _ (Bh2.2 rfl);exact .inr ⟨hi,_,_,_,_,rfl⟩
    ·cases h1
  ·cases h
theorem AD2 {ids:List (Nat×Nat)}{s t:St}{L:List Leaf}(h:leK ids s t=some L)(hL:∀x∈L,x.ok):Le ids s t:=by
 unfold leK at h;split at h
 ·rename_i hw;split at h
  ·rename_i l m h1 h2;cases h;obtain⟨h3,h4⟩:=LW hL;exact le_mk hw (XM _ h1 h3) (XN _ h2 h4)
  ·cases h
 ·cases h
theorem kle {ids:List (Nat×Nat)}{s t:St}(h:(leK ids s t).map (·.map Leaf.src)=(leK ids s t).map (·.map Leaf.tgt):=by kernel_rfl)(h1:(leK ids s t).isSome=true:=by kernel_rfl):Le ids s t:=by
 obtain⟨L,hL⟩:=Ba2.1 h1;rw[hL]at h;simp only[AZ6,AY6]at h;refine AD2 hL fun x hx=>?_;obtain⟨i,hi,rfl⟩:=Bh5.1 hx
 have:=congrArg (·[i]?) h
 simp only[AZ1,AY8 hi,AZ6,AY6]at this;exact Leaf.ok_of this
def AT2 (is:List Nat)(f:Leaf->LV)(L:List Leaf):List (Option LV):=L.zipIdx.map fun q=>if is.contains q.2 then none else some (f q.1)
theorem kleR {ids:List (Nat×Nat)}{s t:St}(rs:List (Nat×Leaf))(hr:∀q∈rs,q.2.ok)(h:(leK ids s t).map (AT2 (rs.map (·.1)) Leaf.src)=(leK ids s t).map (AT2 (rs.map (·.1)) Leaf.tgt):=by kernel_rfl)
 (h2:(leK ids s t).map (fun L=>rs.map fun q=>L[q.1]?)=some (rs.map fun q=>some q.2):=by kernel_rfl):Le ids s t:=by
 cases hL:leK ids s t with
 |none=>rw[hL]at h2;cases h2
 |some L=>
  rw[hL]at h h2;simp only[AZ6,AY6]at h h2;refine AD2 hL fun x hx=>?_;obtain⟨i,hi,rfl⟩:=Bh5.1 hx;by_cases hm:(rs.map (·.1)).contains i=true
  ·simp only[Bb8,decide_eq_true_eq,Bh0]at hm;obtain⟨q,hq,rfl⟩:=hm;obtain⟨k,hk,rfl⟩:=Bh5.1 hq
   have:=congrArg (·[k]?) h2
   simp only[AZ1,AY8 hk,AZ6,AY6,AY8 hi]at this;rw[this];exact hr _ hq
  ·have:=congrArg (·[i]?) h
   simp only[AT2,AZ1,List.getElem?_zipIdx,AY8 hi,AZ6,Bb7,hm,AY6]at this;exact Leaf.ok_of (by simpa using this)
end
section
variable {P:Program}
variable {S:Bd}{F:J6}{g:Cfg}{pr:Prop}
theorem Fm (hS:G6 S P)(hc:pr)(h:G S P F (stp P g))(hp:pr=E1 (cnd P g):=by kernel_rfl):G S P F g:=
 (Jo (F:=F) hS 400 [] g (by subst hp;exact hc)).2 h
theorem AT3 (hS:G6 S P)(hc:pr){b:Bool}(ht:b=true->G S P F (AI8 (stp P g)))(hf:b=false->G S P F (AI9 (stp P g)))(hp:pr=E1 (cnd P g):=by kernel_rfl)(hb:Av2 (stp P g)=some b:=by kernel_rfl):G S P F g:=by
 refine Fm hS hc ?_ hp;generalize stp P g=g' at hb ht hf;unfold Av2 at hb;split at hb
 ·split at hb
  ·rename_i hc;cases hb;exact AQ6 hc ht hf
  ·cases hb
 ·cases hb
theorem AJ4 (hS:G6 S P)(hc:pr){b:Bool}(ht:b=true->G S P F (LU true (stp P g)))(hf:b=false->G S P F (LU false (stp P g)))(hp:pr=E1 (cnd P g):=by kernel_rfl)(hb:XL (stp P g)=some b:=by kernel_rfl):G S P F g:=by
 refine Fm hS hc ?_ hp;generalize stp P g=g' at hb ht hf;unfold XL at hb;split at hb
 ·split at hb
  ·rename_i hg;split at hb
   ·rename_i hd;split at hb
    ·rename_i hbb;cases hb;simp only[LU,hg,hd,JA,put]at ht hf;exact AG1 hS hg hd hbb ht hf
    ·cases hb
   ·cases hb
  ·cases hb
 ·cases hb
theorem AT4 (hS:G6 S P)(ids:List Nat)(hc:pr){fn:FuncId}{args:List AV}{objs objs' : List Obj}{r:AV}{ks:List Bool}(hF:FunO S fn args objs r objs' ks)
 (hk:G S P F (Av3 ids ks r objs' (stp P g))) (hp:pr=E1 (cnd P g):=by kernel_rfl) (he:Zm ids (stp P g)=some (fn,args,objs):=by kernel_rfl) (hn:Zn ids ks objs'.length (stp P g)=true:=by kernel_rfl):G S P F g:=by
 refine Fm hS hc ?_ hp;generalize stp P g=g' at he hn hk;unfold Zm at he;split at he
 ·split at he
  ·rename_i hg ho;split at he
   ·rename_i hcl;split at he
    ·rename_i ha;split at he
     ·rename_i hw;split at he
      ·rename_i hr hob;split at he
       ·rename_i hdy;cases he;simp only[AY9]at hdy;simp only[Av3,Zn,ho,ha,JA]at hk hn;exact AG2 hS ids hg ho hcl ha hw hr hob hF hdy.1 hdy.2 hn hk
       ·cases he
      ·cases he
     ·cases he
    ·cases he
   ·cases he
  ·cases he
 ·cases he
theorem Av8 (hS:G6 S P)(hc:pr){kt e:TypeId}{key:PV}{es:List (PV×PV)}{x:PV}{b:Bool}{fd:Option PV}
 (hf:find (NM P kt) key es=some fd) (hcc:E1 (Qs P kt))
 (hk:G S P F (AJ1 x b (stp P g))) (hp:pr=E1 (cnd P g):=by kernel_rfl) (he:AJ0 P (stp P g)=some ⟨kt,e,key,es⟩:=by kernel_rfl) (hx:AT0 P e fd=some (x,b):=by kernel_rfl):G S P F g:=by
 refine Fm hS hc ?_ hp;generalize stp P g=g' at he hk;unfold AJ0 at he;split at he
 ·split at he
  ·rename_i hg ho;split at he
   ·rename_i hv hm;split at he
    ·rename_i hr ht;split at he
     ·rename_i hko;simp only[AY6,LookI.mk.injEq]at he;obtain⟨rfl,rfl,rfl,rfl⟩:=he;simp only[AJ1,ho,hv,JA]at hk;cases fd with
      |some y=>exact XK (fd:=some y) hS hg ho hv hm hr ht hko hf hx hcc hk
      |none=>exact XK (fd:=none) hS hg ho hv hm hr ht hko hf hx hcc hk
     ·cases he
    ·cases he
   ·cases he
  ·cases he
 ·cases he
theorem Av9 (hS:G6 S P)(hc:pr){kt:TypeId}{key y:PV}{es es' : List (PV×PV)}
 (hu:upd (NM P kt) key y es=some es') (hcc:E1 (Qs P kt)) (hk:G S P F (updK es' (stp P g))) (hp:pr=E1 (cnd P g):=by kernel_rfl) (he:updE P (stp P g)=some (kt,key,y,es):=by kernel_rfl):G S P F g:=by
 refine Fm hS hc ?_ hp;generalize stp P g=g' at he hk;unfold updE at he;split at he
 ·split at he
  ·rename_i hg ho;split at he
   ·rename_i h1 h2 hv;split at he
    ·rename_i hr ht;split at he
     ·rename_i hko;simp only[AY6,Bb1]at he;obtain⟨rfl,rfl,rfl,rfl⟩:=he;simp only[updK,ho,h2,hv,JA]at hk;exact Vq hS hg ho h1 hv h2 hr ht hko hu hcc hk
     ·cases he
    ·cases he
   ·cases he
  ·cases he
 ·cases he
theorem AT5 (hS:G6 S P)(hc:pr)(st:St){ids:List (Nat×Nat)}(hk:G S P F (opsS st (stp P g)))(hp:pr=E1 (cnd P g):=by kernel_rfl)(ho:JB (stp P g)=true:=by kernel_rfl)(hle:Le ids (stp P g).st st:=by exact kle):G S P F g:=by
 refine Fm hS hc ?_ hp;generalize stp P g=g' at ho hle hk;unfold JB at ho;split at ho
 ·exact Ah9 hS st ids hle hk
 ·cases ho
end
section
variable {S:Bd}{P:Program}{F:J6}{g:Cfg}{pr:Prop}
theorem Iq (hS:G6 S P){K1 K2:List It}(h:∀e s,kp S P K1 F e s->kp S P K2 F e s):∀(K:List It) (e:Ls) (s:St),kp S P (K++K1) F e s->kp S P (K++K2) F e s
 |[],e,s,hk=>h e s hk
 |.code c::K,e,s,hk=>by simp only[Bc3,kp]at hk⊢;exact QN hS (fun t=>Bp hS c (Iq hS h K)) (Iq hS h K) e s hk
 |.blk id::K,e,s,hk=>by
  simp only[Bc3,kp]at hk⊢;cases e with
  |exit i=>
   simp only[blk]at hk⊢;split at hk
   ·rename_i hi;rw[if_pos hi];exact Iq hS h K _ _ hk
   ·rename_i hi;rw[if_neg hi];exact Iq hS h K _ _ hk
  |_=>exact Iq hS h K _ _ hk
 |.lp X s' J m n::K,e,s,hk=>by
  simp only[Bc3,kp]at hk⊢;cases e with
  |normal=>exact hk
  |_=>exact Iq hS h K _ _ hk
 |.mid M::K,e,s,hk=>by simp only[Bc3,kp]at hk⊢;exact QN hS (fun t h=>h) (Iq hS h K) e s hk
 |.scp::K,e,s,hk=>by
  simp only[Bc3,kp]at hk⊢;cases e with
  |goto l=>exact hk
  |_=>exact Iq hS h K _ _ hk
theorem XO (M:It):∀(n:Nat) (K:List It),n<=K.length->ST M n K=K.take n++M::K.drop n
 |0,K,_=>by simp[ST]
 |n+1,i::K,h=>by simp only[ST,Bi3,List.drop_succ_cons,Bc3,XO M n K (by simpa using h)]
 |n+1,[],h=>by simp at h
theorem AD3 (hS:G6 S P)(hF:∀s,S.up s (F .normal)->F .normal s)(n:Nat)(hn:n<=g.k.length){M:St->Prop}(hM:∀t,M t->G S P F (.pop .normal (g.k.drop n) t))(h:G S P F (AT1 n M g)):G S P F g:=by
 have hk:∀e s,kp S P (ST (.mid M) n g.k) F e s->kp S P g.k F e s:=by
  intro e s;rw[XO _ _ _ hn]
  conv=>rhs;rw[<- Bj1 n g.k]
  exact Iq hS (AS6 hS hF hM) _ e s
 cases g with
 |code c K st=>exact Bp hS c hk h
 |ops all rest K st=>exact FJ hS hk rest h
 |pop e K st=>exact hk e st h
theorem J_cut (hS:G6 S P)(hc:pr)(hF:∀s,S.up s (F .normal)->F .normal s)(n:Nat)(s:St)
 (h1:∀(M:St->Prop),(∀(g' : Cfg) (ids:List (Nat×Nat)) (pr:Prop),pr->(hp:pr=E1 (cnd P g'):=by kernel_rfl)->(he:stp P g' = .pop .normal (.mid M::(stp P g).k.drop n) (stp P g').st:=by kernel_rfl)->(hle:Le ids (stp P g').st s:=by exact kle)->G S P F g')->G S P F (AT1 n M (stp P g)))
 (h2:G S P F (.pop .normal ((stp P g).k.drop n) s)) (hp:pr=E1 (cnd P g):=by kernel_rfl) (hn:Nat.ble n (stp P g).k.length=true:=by kernel_rfl):G S P F g:=by
 refine Fm hS hc ?_ hp;refine AD3 hS hF n (Be9 hn) (M:=fun t=>t=s) (fun t ht=>by subst ht;exact h2) (h1 _ fun g' ids pr hc hp he hle=>?_);refine Fm hS hc ?_ hp;rw[he];exact hS.le ids _ _ _ hle rfl
theorem J_lt (hS:G6 S P)(hc:pr)(hF:∀s,S.up s (F .normal)->F .normal s){R A:Type}{f:(A->Option R)->Option R}{k0:A->Option R}{r:R}(h:lt k0 f=some r)(n:Nat)(s:A->St)
 (h1:∀(M:St->Prop) (k:A->Option R),(∀(g' : Cfg) (ids:List (Nat×Nat)) (pr:Prop) (a:A),pr->k a=some r->(hp:pr=E1 (cnd P g'):=by kernel_rfl)->(he:stp P g' = .pop .normal (.mid M::(stp P g).k.drop n) (stp P g').st:=by kernel_rfl)->(hle:Le ids (stp P g').st (s a):=by exact kle)->G S P F g')->f k=some r->G S P F (AT1 n M (stp P g)))
 (h2:∀a,k0 a=some r->G S P F (.pop .normal ((stp P g).k.drop n) (s a))) (hp:pr=E1 (cnd P g):=by kernel_rfl) (hn:Nat.ble n (stp P g).k.length=true:=by kernel_rfl):G S P F g:=by
 refine Fm hS hc ?_ hp;refine AD3 hS hF n (Be9 hn) (M:=fun t=>∃a,t=s a/\k0 a=some r) (fun t ⟨a,ht,hk⟩=>by subst ht;exact h2 a hk) (h1 _ k0 (fun g' ids pr a hc hk hp he hle=>?_) h);refine Fm hS hc ?_ hp;rw[he];exact hS.le ids _ _ _ hle ⟨a,rfl,hk⟩
theorem Ai1 {g:Cfg}(h:Io g=true):g=.code (.loop (SS g)) g.k g.st:=by
 unfold Io at h;split at h
 ·rfl
 ·cases h
theorem AT6 (hS:G6 S P)(hc:pr){R A:Type}{body:(A->Option R)->A->Option R}{N:Nat}{a0:A}{r:R}(h:R5 N body a0=some r)(s:A->St){ids:List (Nat×Nat)}
 (hr:∀(X:Type) (s' : X->St) (J:X->Prop) (m:X->Nat) (n:Nat) (self:A->Option R) (a:A),
  (∀(g' : Cfg) (ids:List (Nat×Nat)) (pr:Prop) (a:A),pr->self a=some r->(hp:pr=E1 (cnd P g'):=by kernel_rfl)->(he:stp P g' = .pop .normal (.lp X s' J m n::(stp P g).k) (stp P g').st:=by kernel_rfl)->(hle:Le ids (stp P g').st (s a):=by exact kle)->G S P F g') ->
  body self a=some r->G S P F (.code (SS (stp P g)) (.lp X s' J m n::(stp P g).k) (s a))) (hp:pr=E1 (cnd P g):=by kernel_rfl) (hl:Io (stp P g)=true:=by kernel_rfl) (hle:Le ids (stp P g).st (s a0):=by exact kle):G S P F g:=by
 refine Fm hS hc ?_ hp;rw[Ai1 hl];refine AS7 hS h s ids hle fun X s' J m n self a hb hbody=>hr X s' J m n self a (fun g' ids pr a hc hself hp he hle=>?_) hbody;refine Fm hS hc ?_ hp;rw[he];exact hb _ _ _ hle hself
def Vt (P:Program)(st:St)(rs:List ResultVar)(outs:List Nat):Option (AV×List Obj):=match FC P st rs with
 |some l=>match RX outs (one l),J7 outs st.regs outs with
  |some a,some o=>if G2 outs then some (a,o)else none
  |_,_=>none
 |none=>none
theorem J_ret (hS:G6 S P)(hc:pr){n:Nat}{rs:List ResultVar}{Q:Lt->List Obj->List Bool->Prop}{a:AV}{objs:List Obj}(outs:List Nat)(hQ:Q (.ret a) objs (Fj n outs))(hp:pr=E1 (cnd P g):=by kernel_rfl)(he:(AJ2 (stp P g)).bind (fun st=>Vt P st rs outs)=some (a,objs):=by kernel_rfl) :G S P (Cj S P n rs Q) g:=by
 refine Fm hS hc ?_ hp;generalize stp P g=g' at he;obtain⟨st,h1,h2⟩:=Bi4.1 he;unfold Vt at h2;split at h2
 ·rename_i l hl;split at h2
  ·rename_i hr ho;split at h2
   ·rename_i hd;cases h2;unfold AJ2 at h1;split at h1
    ·cases h1;exact hS.refl _ _ ⟨l,outs,a,objs,hl,hd,hr,ho,hQ⟩
    ·cases h1;exact hS.refl _ _ ⟨l,outs,a,objs,hl,hd,hr,ho,hQ⟩
    ·cases h1
   ·cases h2
  ·cases h2
 ·cases h2
theorem AT7 (hS:G6 S P)(hc:pr){n:Nat}{rs:List ResultVar}{Q:Lt->List Obj->List Bool->Prop}{a:AV}{objs:List Obj}(st:St)(outs:List Nat){ids:List (Nat×Nat)}(hQ:Q (.ret a) objs (Fj n outs))(hp:pr=E1 (cnd P g):=by kernel_rfl)(he:(AJ2 (stp P g)).isSome=true:=by kernel_rfl)(hle:Le ids (stp P g).st st:=by exact kle)(hr:Vt P st rs outs=some (a,objs):=by kernel_rfl) :G S P (Cj S P n rs Q) g:=by
 refine Fm hS hc ?_ hp;generalize stp P g=g' at he hle;have h2:=hr;unfold Vt at h2;split at h2
 ·rename_i l hl;split at h2
  ·rename_i hr ho;split at h2
   ·rename_i hd;cases h2;unfold AJ2 at he;split at he
    ·exact hS.le ids _ _ _ hle ⟨l,outs,a,objs,hl,hd,hr,ho,hQ⟩
    ·exact hS.le ids _ _ _ hle ⟨l,outs,a,objs,hl,hd,hr,ho,hQ⟩
    ·cases he
   ·cases h2
  ·cases h2
 ·cases h2
theorem AJ5 (hS:G6 S P){f:FuncId}{fn:Func}{args:List AV}{objs objs' : List Obj}{ks:List Bool}{r:AV}(hf:P.funcs[f]? = some fn)
 (h:G S P (Cj S P objs.length fn.results.toList fun res o k=>res=.ret r/\o=objs' /\ k=ks) (.code (fn.body.getD .skip) [] { env:=argEnv args,regs:=objRegs objs }))
 (hc:fn.body.isSome=true:=by kernel_rfl) (hn:Nat.ble args.length fn.ntmps=true:=by kernel_rfl) (ho:Nat.blt objs.length 1000=true:=by kernel_rfl)
 (hco:Aj fn.ntmps (fn.body.getD .skip)=true:=by kernel_rfl) (hnm:(fn.name == "runtime.NumGoroutine")=false:=by kernel_rfl):FunO S f args objs r objs' ks:=by
 obtain⟨code,hcode⟩:=Ba2.1 hc;rw[hcode,AZ4]at hco h;exact Af0 hS hf hcode (Be9 hn) (by simpa[Bh8]using ho) rfl hco hnm h
theorem al0:∀q∈([]:List (Nat×Leaf)),q.2.ok:=fun _ h=>by cases h
theorem al1 {i:Nat}{l:Leaf}{rs:List (Nat×Leaf)}(h:l.ok)(t:∀q∈rs,q.2.ok):∀q∈(i,l)::rs,q.2.ok:=fun q hq=>by
 rcases Bc6.1 hq with rfl|hq
 ·exact h
 ·exact t q hq
structure SC where
 all:List Oper
 cls:List Cls
 rest:List Oper
 env:Env
 regs:D1
 kn:List Nat
def SG (S:Bd)(P:Program)(sc:SC)(k:Env->D1->Prop):Prop:=NK S P sc.all sc.cls sc.rest sc.env sc.regs k
def Fz (P:Program)(sc:SC):SC:=match NL P sc.kn sc.all sc.cls sc.rest [] sc.env sc.regs with
 |⟨_,cls,rest,env,regs⟩=>⟨sc.all,cls,rest,env,regs,sc.kn⟩
def Ac9 (P:Program)(sc:SC):List Prop:=(NL P sc.kn sc.all sc.cls sc.rest [] sc.env sc.regs).conds
def Df:Cfg->Bool
 |.code (.region _ _ true) _ _=>true
 |_=>false
def HK:Cfg->SC
 |.code (.region _ ops true) _ st=>⟨ops.toList,ops.toList.map fun o=>AX3 o.op,ops.toList,st.env,st.regs,[]⟩
 |_=>⟨[],[],[],[],[],[]⟩
theorem AJ6 (hS:G6 S P)(hc:pr)
 (h:SG S P (HK (stp P g)) fun env regs=>G S P F (.pop .normal (stp P g).k ⟨env,regs⟩)) (hp:pr=E1 (cnd P g):=by kernel_rfl) (hd:Df (stp P g)=true:=by kernel_rfl) (hmix:P.follows .mixedOrders=true:=by kernel_rfl) (hok:Kd (HK (stp P g)).all (HK (stp P g)).cls=true:=by kernel_rfl):G S P F g:=by
 refine Fm hS hc ?_ hp;generalize stp P g=g' at hd hok h;unfold Df at hd;split at hd
 ·exact Au4 hS hmix rfl hok h
 ·cases hd
section
variable {sc:SC}{k:Env->D1->Prop}
theorem AT8 (hc:pr)(h:SG S P (Fz P sc) k)(hp:pr=E1 (Ac9 P sc):=by kernel_rfl):SG S P sc k:=by subst hp;unfold Fz at h;unfold Ac9 at hc;unfold SG at *;generalize hr:NL P sc.kn sc.all sc.cls sc.rest [] sc.env sc.regs=r at h hc;obtain⟨c,cls,rest,env,regs⟩:=r;exact s_go hr hc h
theorem C_end (hc:pr)(h:k (Fz P sc).env (Fz P sc).regs)(hp:pr=E1 (Ac9 P sc):=by kernel_rfl)(he:(Fz P sc).rest.isEmpty=true:=by kernel_rfl):SG S P sc k:=by
 refine AT8 hc ?_ hp;generalize Fz P sc=s at he h;obtain⟨all,cls,rest,env,regs,kn⟩:=s;cases rest with
 |nil=>exact s_end h
 |cons=>simp at he
def AT9 {R:Type _}(d:Option Nat)(a:AV)(env:Env)(regs:D1)(κ : Env->D1->R):R:=match d with
 |some d=>mkO (ins d a env) regs κ
 |none=>mkO env regs κ
theorem Vu {R:Type _}(d:Option Nat)(a:AV)(env:Env)(regs:D1)(κ : Env->D1->R):AT9 d a env regs κ = κ (Pl d a env) regs:=by cases d<;>simp only[AT9,FL,Pl]
theorem AD4:∀{env:Env}{i d:Nat}{b:AV},Aq9 ((i,b)::env)=true->get env d ≠ .top->d<i
 |[],_,_,_,_,h=>absurd rfl h
 |(j,c)::r,i,d,b,hd,h=>by
  simp only[Aq9,AY9,decide_eq_true_eq]at hd;by_cases e:j=d
  ·subst e;exact hd.1
  ·simp only[get,e,if_false]at h;exact Nat.lt_trans (AD4 hd.2 h) hd.1
theorem QR:∀{env:Env}{d:Nat}{a:AV},Aq9 env=true->get env d=a->a ≠ .top->ins d a env=env
 |[],_,_,_,h,hn=>absurd h.symm hn
 |(i,b)::r,d,a,hd,h,hn=>by
  by_cases e:i=d
  ·subst e;simp only[get,if_true]at h;subst h;simp[ins]
  ·simp only[get,e,if_false]at h;have hlt:=AD4 hd (by rw[h];exact hn);have hr:Aq9 r=true:=by
    cases r with
    |nil=>rfl
    |cons p r=>simp only[Aq9,AY9]at hd;exact hd.2
   simp only[ins,show ¬i<d by omega,e,if_false,QR hr h hn]
def QS (sc:SC):Option Bool:=match sc.rest with
 |o::_=>match o.guard with
  |some (j,_)=>match AQ7 sc.all j with
   |some d=>match get sc.env d with
    |.p (.bb b)=>if Aq9 sc.env then some b else none
    |_=>none
   |none=>none
  |none=>none
 |[]=>none
def LX (v:Bool)(sc:SC):SC:=match sc.rest with
 |o::_=>match o.guard with
  |some (j,_)=>match AQ7 sc.all j with
   |some d=>mkO (ins d (.p (.bb v)) sc.env) sc.regs fun env regs=>⟨sc.all,sc.cls,sc.rest,env,regs,j::sc.kn⟩
   |none=>sc
  |none=>sc
 |[]=>sc
theorem AJ7 (hc:pr){b:Bool}(ht:b=true->SG S P (LX true (Fz P sc)) k)(hf:b=false->SG S P (LX false (Fz P sc)) k)(hp:pr=E1 (Ac9 P sc))(hb:QS (Fz P sc)=some b):SG S P sc k:=by
 refine AT8 hc ?_ hp;generalize Fz P sc=s at hb ht hf;obtain⟨all,cls,rest,env,regs,kn⟩:=s;cases rest with
 |nil=>simp[QS]at hb
 |cons o rest=>
  simp only[QS]at hb;split at hb
  ·rename_i j w hg;split at hb
   ·rename_i d hd;split at hb
    ·rename_i b' hbb;split at hb
     ·rename_i hds;simp only[AY6]at hb;subst hb;simp only[LX,hg,hd,FL]at ht hf;cases b' with
      |true=>have:=ht rfl;rwa [QR hds hbb (by simp)]at this
      |false=>have:=hf rfl;rwa [QR hds hbb (by simp)]at this
     ·cases hb
    ·cases hb
   ·cases hb
  ·cases hb
def XP (ids:List Nat)(sc:SC):Option (FuncId×List AV×List Obj):=match sc.rest with
 |o::_=>match DE sc.all sc.env o,o.op with
  |some true,.call c=>match c.callee with
   |.value f=>match NJ sc.regs (c.args.toList.map (aev sc.env))with
    |some (as,regs)=>match UT sc.env f as with
     |some (fn,as')=>match CO ids as',J7 ids regs ids with
      |some a,some ob=>if G2 ids&&Eh ob then some (fn,a,ob)else none
      |_,_=>none
     |none=>none
    |none=>none
   |_=>none
  |_,_=>none
 |[]=>none
def SU (ids:List Nat)(ks:List Bool)(n:Nat)(sc:SC):Bool:=match sc.cls,sc.rest with
 |.w::_,o::_=>match o.op with
  |.call c=>match NJ sc.regs (c.args.toList.map (aev sc.env))with
   |some (_,regs)=>CY regs ids ks (o.dst.getD 0) n
   |none=>false
  |_=>false
 |_,_=>false
def Ai2 (ids:List Nat)(ks:List Bool)(r:AV)(objs' : List Obj)(sc:SC):SC:=match sc.rest with
 |o::rest=>match o.op with
  |.call c=>match NJ sc.regs (c.args.toList.map (aev sc.env))with
   |some (_,regs)=>AT9 o.dst (unA (O4 (o.dst.getD 0) ids ks objs'.length) r) sc.env
    (Ac7 (O4 (o.dst.getD 0) ids ks objs'.length) (O4 (o.dst.getD 0) ids ks objs'.length) objs' (O5 ids ks regs)) fun env regs=>⟨sc.all,sc.cls.tail,rest,env,regs,sc.kn⟩
   |none=>sc
  |_=>sc
 |[]=>sc
theorem AU0 (ids:List Nat)(hc:pr){fn:FuncId}{args:List AV}{objs objs' : List Obj}{r:AV}{ks:List Bool}(hF:FunO S fn args objs r objs' ks)
 (hk:SG S P (Ai2 ids ks r objs' (Fz P sc)) k) (hp:pr=E1 (Ac9 P sc):=by kernel_rfl) (he:XP ids (Fz P sc)=some (fn,args,objs):=by kernel_rfl) (hn:SU ids ks objs'.length (Fz P sc)=true:=by kernel_rfl):SG S P sc k:=by
 refine AT8 hc ?_ hp;generalize Fz P sc=s at he hn hk;obtain⟨all,cls,rest,env,regs,kn⟩:=s;cases rest with
 |nil=>simp[XP]at he
 |cons o rest=>
  simp only[XP]at he;split at he
  ·rename_i c hg ho;split at he
   ·rename_i hcl;split at he
    ·rename_i ha;split at he
     ·rename_i hw;split at he
      ·rename_i hr hob;split at he
       ·rename_i hdy;cases he;simp only[AY9]at hdy;cases cls with
        |nil=>simp[SU]at hn
        |cons cl cls=>
         cases cl with
         |w=>simp only[SU,ho,ha]at hn;simp only[Ai2,ho,ha,Vu,Bp4]at hk;exact AI2 ids hg ho hcl ha hw hr hob hF hdy.1 hdy.2 hn hk
         |_=>simp[SU]at hn
       ·cases he
      ·cases he
     ·cases he
    ·cases he
   ·cases he
  ·cases he
def XQ (sc:SC):Bool:=match sc.cls,sc.rest with
 |_::_,o::_=>match o.op with
  |.call c=>(c.args.toList.map (aev sc.env)).all Ah3
  |_=>false
 |_,_=>false
def XR (sc:SC):Option (FuncId×List AV):=match sc.rest with
 |o::_=>match DE sc.all sc.env o,o.op with
  |some true,.call c=>match c.callee with
   |.value f=>match UT sc.env f (c.args.toList.map (aev sc.env))with
    |some (fn,as')=>match CO [] as' with
     |some a=>some (fn,a)
     |none=>none
    |none=>none
   |_=>none
  |_,_=>none
 |[]=>none
def Ai3 (r:AV)(sc:SC):SC:=match sc.rest with
 |o::rest=>AT9 o.dst (unA [] r) sc.env sc.regs fun env regs=>⟨sc.all,sc.cls.tail,rest,env,regs,sc.kn⟩
 |[]=>sc
theorem AU1 (hc:pr){fn:FuncId}{args:List AV}{r:AV}(hF:FunO S fn args [] r [] [])
 (hk:SG S P (Ai3 r (Fz P sc)) k) (hp:pr=E1 (Ac9 P sc):=by kernel_rfl) (he:XR (Fz P sc)=some (fn,args):=by kernel_rfl) (hn:XQ (Fz P sc)=true:=by kernel_rfl):SG S P sc k:=by
 refine AT8 hc ?_ hp;generalize Fz P sc=s at he hn hk;obtain⟨all,cls,rest,env,regs,kn⟩:=s;cases rest with
 |nil=>simp[XR]at he
 |cons o rest=>
  cases cls with
  |nil=>simp[XQ]at hn
  |cons cl cls=>
   simp only[XR]at he;split at he
   ·rename_i c hg ho;split at he
    ·rename_i hcl;split at he
     ·rename_i hw;split at he
      ·rename_i hr;cases he;simp only[XQ,ho]at hn;simp only[Ai3,Vu,Bp4]at hk;exact AS3 hg ho hcl hn hw hr hF hk
      ·cases he
     ·cases he
    ·cases he
   ·cases he
def EM (P:Program)(sc:SC):Option (List Prop×PV):=match sc.cls,sc.rest with
 |_::_,o::_=>match DE sc.all sc.env o with
  |some true=>Se P sc.env o.op
  |_=>none
 |_,_=>none
def Vv (x:PV)(sc:SC):SC:=match sc.rest with
 |o::rest=>AT9 o.dst (.p x) sc.env sc.regs fun env regs=>⟨sc.all,sc.cls.tail,rest,env,regs,sc.kn⟩
 |[]=>sc
theorem AJ8 (hc:pr){x:PV}(hk:SG S P (Vv x (Fz P sc)) k)(hp:pr=E1 (Ac9 P sc):=by kernel_rfl)(he:(EM P (Fz P sc)).map (·.2)=some x:=by kernel_rfl)(hc2:((EM P (Fz P sc)).map fun q=>E1 q.1)=some (true=true):=by kernel_rfl):SG S P sc k:=by
 refine AT8 hc ?_ hp;generalize Fz P sc=s at he hc2 hk;obtain⟨all,cls,rest,env,regs,kn⟩:=s;cases rest with
 |nil=>cases cls<;>simp[EM]at he
 |cons o rest=>
  cases cls with
  |nil=>simp[EM]at he
  |cons cl cls=>
   cases hg:DE all env o with
   |none=>simp[EM,hg]at he
   |some bb=>
    cases bb with
    |false=>simp[EM,hg]at he
    |true=>
     simp only[EM,hg]at he hc2;cases ha:Se P env o.op with
     |none=>rw[ha]at he;cases he
     |some q=>obtain⟨c,y⟩:=q;rw[ha]at he hc2;simp only[AZ6,AY6]at he hc2;subst he;simp only[Vv,Vu,Bp4]at hk;exact Au3 hg ha (by rw[hc2];trivial) hk
end
end
structure KG (S:Bd) (P:Program) (F:J6) (g:Cfg):Prop where
 out:G S P F g
structure DG (S:Bd) (P:Program) (sc:SC) (k:Env->D1->Prop):Prop where
 out:SG S P sc k
structure KLe (ids:List (Nat×Nat)) (s t:St):Prop where
 out:Le ids s t
section
variable {S:Bd}{P:Program}{F:J6}{g:Cfg}{pr:Prop}
theorem kl {ids:List (Nat×Nat)}{s t:St}(h:(leK ids s t).map (·.map Leaf.src)=(leK ids s t).map (·.map Leaf.tgt):=by kernel_rfl)(h1:(leK ids s t).isSome=true:=by kernel_rfl):KLe ids s t:=⟨kle h h1⟩
theorem klR {ids:List (Nat×Nat)}{s t:St}(rs:List (Nat×Leaf))(hr:∀q∈rs,q.2.ok)(h:(leK ids s t).map (AT2 (rs.map (·.1)) Leaf.src)=(leK ids s t).map (AT2 (rs.map (·.1)) Leaf.tgt):=by kernel_rfl)
 (h2:(leK ids s t).map (fun L=>rs.map fun q=>L[q.1]?)=some (rs.map fun q=>some q.2):=by kernel_rfl):KLe ids s t:=⟨kleR rs hr h h2⟩
theorem D3 (hS:G6 S P)(hc:pr){b:Bool}(ht:b=true->KG S P F (AI8 (stp P g)))(hf:b=false->KG S P F (AI9 (stp P g)))(hp:pr=E1 (cnd P g):=by kernel_rfl)(hb:Av2 (stp P g)=some b:=by kernel_rfl):KG S P F g:=
 ⟨AT3 hS hc (fun h=>(ht h).out) (fun h=>(hf h).out) hp hb⟩
theorem Dg (hS:G6 S P)(hc:pr){b:Bool}(ht:b=true->KG S P F (LU true (stp P g)))(hf:b=false->KG S P F (LU false (stp P g)))(hp:pr=E1 (cnd P g):=by kernel_rfl)(hb:XL (stp P g)=some b:=by kernel_rfl):KG S P F g:=
 ⟨AJ4 hS hc (fun h=>(ht h).out) (fun h=>(hf h).out) hp hb⟩
theorem B8 (hS:G6 S P)(ids:List Nat)(hc:pr){fn:FuncId}{args:List AV}{objs objs' : List Obj}{r:AV}{ks:List Bool}(hF:FunO S fn args objs r objs' ks)(hk:KG S P F (Av3 ids ks r objs' (stp P g)))
 (hp:pr=E1 (cnd P g):=by kernel_rfl) (he:Zm ids (stp P g)=some (fn,args,objs):=by kernel_rfl) (hn:Zn ids ks objs'.length (stp P g)=true:=by kernel_rfl):KG S P F g:=⟨AT4 hS ids hc hF hk.out hp he hn⟩
theorem Lj (hS:G6 S P)(hc:pr){kt e:TypeId}{key:PV}{es:List (PV×PV)}{x:PV}{b:Bool}{fd:Option PV}(hf:find (NM P kt) key es=some fd)(hcc:E1 (Qs P kt))(hk:KG S P F (AJ1 x b (stp P g)))
 (hp:pr=E1 (cnd P g):=by kernel_rfl) (he:AJ0 P (stp P g)=some ⟨kt,e,key,es⟩:=by kernel_rfl) (hx:AT0 P e fd=some (x,b):=by kernel_rfl):KG S P F g:=⟨Av8 hS hc hf hcc hk.out hp he hx⟩
theorem QT (hS:G6 S P)(hc:pr){kt:TypeId}{key y:PV}{es es' : List (PV×PV)}(hu:upd (NM P kt) key y es=some es')(hcc:E1 (Qs P kt))(hk:KG S P F (updK es' (stp P g)))
 (hp:pr=E1 (cnd P g):=by kernel_rfl) (he:updE P (stp P g)=some (kt,key,y,es):=by kernel_rfl):KG S P F g:=⟨Av9 hS hc hu hcc hk.out hp he⟩
theorem Am (hS:G6 S P)(hc:pr)(st:St){ids:List (Nat×Nat)}(hk:KG S P F (opsS st (stp P g)))(hp:pr=E1 (cnd P g):=by kernel_rfl)(ho:JB (stp P g)=true:=by kernel_rfl)(hle:KLe ids (stp P g).st st:=by exact kl):KG S P F g:=
 ⟨AT5 hS hc st hk.out hp ho hle.out⟩
theorem SV (hS:G6 S P)(hc:pr)(hF:∀s,S.up s (F .normal)->F .normal s)(n:Nat)(s:St)
 (h1:∀(M:St->Prop),(∀(g' : Cfg) (ids:List (Nat×Nat)) (pr:Prop),pr->(hp:pr=E1 (cnd P g'):=by kernel_rfl)->(he:stp P g' = .pop .normal (.mid M::(stp P g).k.drop n) (stp P g').st:=by kernel_rfl)->(hle:KLe ids (stp P g').st s:=by exact kl)->KG S P F g')->KG S P F (AT1 n M (stp P g)))
 (h2:KG S P F (.pop .normal ((stp P g).k.drop n) s)) (hp:pr=E1 (cnd P g):=by kernel_rfl) (hn:Nat.ble n (stp P g).k.length=true:=by kernel_rfl):KG S P F g:=
 ⟨J_cut hS hc hF n s (fun M hb=>(h1 M fun g' ids pr hc hp he hle=>⟨hb g' ids pr hc hp he hle.out⟩).out) h2.out hp hn⟩
theorem FM (hS:G6 S P)(hc:pr)(hF:∀s,S.up s (F .normal)->F .normal s){R A:Type}{f:(A->Option R)->Option R}{k0:A->Option R}{r:R}(h:lt k0 f=some r)(n:Nat)(s:A->St)
 (h1:∀(M:St->Prop) (k:A->Option R),(∀(g' : Cfg) (ids:List (Nat×Nat)) (pr:Prop) (a:A),pr->k a=some r->(hp:pr=E1 (cnd P g'):=by kernel_rfl)->(he:stp P g' = .pop .normal (.mid M::(stp P g).k.drop n) (stp P g').st:=by kernel_rfl)->(hle:KLe ids (stp P g').st (s a):=by exact kl)->KG S P F g')->f k=some r->KG S P F (AT1 n M (stp P g)))
 (h2:∀a,k0 a=some r->KG S P F (.pop .normal ((stp P g).k.drop n) (s a))) (hp:pr=E1 (cnd P g):=by kernel_rfl) (hn:Nat.ble n (stp P g).k.length=true:=by kernel_rfl):KG S P F g:=
 ⟨J_lt hS hc hF h n s (fun M k hb hf=>(h1 M k (fun g' ids pr a hc hk hp he hle=>⟨hb g' ids pr a hc hk hp he hle.out⟩) hf).out) (fun a hk=>(h2 a hk).out) hp hn⟩
theorem G7 (hS:G6 S P)(hc:pr){R A:Type}{body:(A->Option R)->A->Option R}{N:Nat}{a0:A}{r:R}(h:R5 N body a0=some r)(s:A->St){ids:List (Nat×Nat)}
 (hr:∀(X:Type) (s' : X->St) (J:X->Prop) (m:X->Nat) (n:Nat) (self:A->Option R) (a:A),
  (∀(g' : Cfg) (ids:List (Nat×Nat)) (pr:Prop) (a:A),pr->self a=some r->(hp:pr=E1 (cnd P g'):=by kernel_rfl)->(he:stp P g' = .pop .normal (.lp X s' J m n::(stp P g).k) (stp P g').st:=by kernel_rfl)->(hle:KLe ids (stp P g').st (s a):=by exact kl)->KG S P F g') ->
  body self a=some r->KG S P F (.code (SS (stp P g)) (.lp X s' J m n::(stp P g).k) (s a))) (hp:pr=E1 (cnd P g):=by kernel_rfl) (hl:Io (stp P g)=true:=by kernel_rfl) (hle:KLe ids (stp P g).st (s a0):=by exact kl):KG S P F g:=
 ⟨AT6 hS hc h s (fun X s' J m n self a hb hbody=>(hr X s' J m n self a (fun g' ids pr a hc hself hp he hle=>⟨hb g' ids pr a hc hself hp he hle.out⟩) hbody).out) hp hl hle.out⟩
theorem F5 (hS:G6 S P)(hc:pr){R A B:Type}{body:(A->B->Option R)->A->B->Option R}{N:Nat}{a0:A}{b0:B}{r:R}(h:S4 N body a0 b0=some r)(s:A->B->St){ids:List (Nat×Nat)}
 (hr:∀(X:Type) (s' : X->St) (J:X->Prop) (m:X->Nat) (n:Nat) (self:A->B->Option R) (a:A) (b:B),
  (∀(g' : Cfg) (ids:List (Nat×Nat)) (pr:Prop) (a:A) (b:B),pr->self a b=some r->(hp:pr=E1 (cnd P g'):=by kernel_rfl)->(he:stp P g' = .pop .normal (.lp X s' J m n::(stp P g).k) (stp P g').st:=by kernel_rfl)->(hle:KLe ids (stp P g').st (s a b):=by exact kl)->KG S P F g') ->
  body self a b=some r->KG S P F (.code (SS (stp P g)) (.lp X s' J m n::(stp P g).k) (s a b))) (hp:pr=E1 (cnd P g):=by kernel_rfl) (hl:Io (stp P g)=true:=by kernel_rfl) (hle:KLe ids (stp P g).st (s a0 b0):=by exact kl):KG S P F g:=
 G7 hS hc h (fun x=>s x.1 x.2) (fun X s' J m n self a hb=>hr X s' J m n (fun a b=>self (a,b)) a.1 a.2 fun g' ids pr a b h1 h2 h3 h4 h5=>hb g' ids pr (a,b) h1 h2 h3 h4 h5) hp hl hle
theorem SW (hS:G6 S P)(hc:pr){R A B C:Type}{body:(A->B->C->Option R)->A->B->C->Option R}{N:Nat}{a0:A}{b0:B}{c0:C}{r:R}(h:AI6 N body a0 b0 c0=some r)(s:A->B->C->St){ids:List (Nat×Nat)}
 (hr:∀(X:Type) (s' : X->St) (J:X->Prop) (m:X->Nat) (n:Nat) (self:A->B->C->Option R) (a:A) (b:B) (c:C),
  (∀(g' : Cfg) (ids:List (Nat×Nat)) (pr:Prop) (a:A) (b:B) (c:C),pr->self a b c=some r->(hp:pr=E1 (cnd P g'):=by kernel_rfl)->(he:stp P g' = .pop .normal (.lp X s' J m n::(stp P g).k) (stp P g').st:=by kernel_rfl)->(hle:KLe ids (stp P g').st (s a b c):=by exact kl)->KG S P F g') ->
  body self a b c=some r->KG S P F (.code (SS (stp P g)) (.lp X s' J m n::(stp P g).k) (s a b c))) (hp:pr=E1 (cnd P g):=by kernel_rfl) (hl:Io (stp P g)=true:=by kernel_rfl) (hle:KLe ids (stp P g).st (s a0 b0 c0):=by exact kl):KG S P F g:=
 G7 hS hc h (fun x=>s x.1 x.2.1 x.2.2) (fun X s' J m n self a hb=>hr X s' J m n (fun a b c=>self (a,b,c)) a.1 a.2.1 a.2.2 fun g' ids pr a b c h1 h2 h3 h4 h5=>hb g' ids pr (a,b,c) h1 h2 h3 h4 h5) hp hl hle
theorem Ai4 (hS:G6 S P)(hc:pr){R A B C D:Type}{body:(A->B->C->D->Option R)->A->B->C->D->Option R}{N:Nat}{a0:A}{b0:B}{c0:C}{d0:D}{r:R}(h:Aq4 N body a0 b0 c0 d0=some r)(s:A->B->C->D->St){ids:List (Nat×Nat)}
 (hr:∀(X:Type) (s' : X->St) (J:X->Prop) (m:X->Nat) (n:Nat) (self:A->B->C->D->Option R) (a:A) (b:B) (c:C) (d:D),
  (∀(g' : Cfg) (ids:List (Nat×Nat)) (pr:Prop) (a:A) (b:B) (c:C) (d:D),pr->self a b c d=some r->(hp:pr=E1 (cnd P g'):=by kernel_rfl)->(he:stp P g' = .pop .normal (.lp X s' J m n::(stp P g).k) (stp P g').st:=by kernel_rfl)->(hle:KLe ids (stp P g').st (s a b c d):=by exact kl)->KG S P F g') ->
  body self a b c d=some r->KG S P F (.code (SS (stp P g)) (.lp X s' J m n::(stp P g).k) (s a b c d))) (hp:pr=E1 (cnd P g):=by kernel_rfl) (hl:Io (stp P g)=true:=by kernel_rfl) (hle:KLe ids (stp P g).st (s a0 b0 c0 d0):=by exact kl):KG S P F g:=
 G7 hS hc h (fun x=>s x.1 x.2.1 x.2.2.1 x.2.2.2) (fun X s' J m n self a hb=>hr X s' J m n (fun a b c d=>self (a,b,c,d)) a.1 a.2.1 a.2.2.1 a.2.2.2 fun g' ids pr a b c d h1 h2 h3 h4 h5=>hb g' ids pr (a,b,c,d) h1 h2 h3 h4 h5) hp hl hle
theorem Aw0 (hS:G6 S P)(hc:pr){n:Nat}{rs:List ResultVar}{Q:Lt->List Obj->List Bool->Prop}{a:AV}{objs:List Obj}(outs:List Nat)(hQ:Q (.ret a) objs (Fj n outs))(hp:pr=E1 (cnd P g):=by kernel_rfl)
 (he:(AJ2 (stp P g)).bind (fun st=>Vt P st rs outs)=some (a,objs):=by kernel_rfl):KG S P (Cj S P n rs Q) g:=⟨J_ret hS hc outs hQ hp he⟩
theorem A6 (hS:G6 S P)(hc:pr){n:Nat}{rs:List ResultVar}{Q:Lt->List Obj->List Bool->Prop}{a:AV}{objs:List Obj}(st:St)(outs:List Nat){ids:List (Nat×Nat)}(hQ:Q (.ret a) objs (Fj n outs))(hp:pr=E1 (cnd P g):=by kernel_rfl)
 (he:(AJ2 (stp P g)).isSome=true:=by kernel_rfl) (hle:KLe ids (stp P g).st st:=by exact kl) (hr:Vt P st rs outs=some (a,objs):=by kernel_rfl):KG S P (Cj S P n rs Q) g:=⟨AT7 hS hc st outs hQ hp he hle.out hr⟩
theorem A1 (hS:G6 S P){f:FuncId}{fn:Func}{args:List AV}{objs objs' : List Obj}{ks:List Bool}{r:AV}(hf:P.funcs[f]? = some fn)
 (h:KG S P (Cj S P objs.length fn.results.toList fun res o k=>res=.ret r/\o=objs' /\ k=ks) (.code (fn.body.getD .skip) [] { env:=argEnv args,regs:=objRegs objs }))
 (hc:fn.body.isSome=true:=by kernel_rfl) (hn:Nat.ble args.length fn.ntmps=true:=by kernel_rfl) (ho:Nat.blt objs.length 1000=true:=by kernel_rfl)
 (hco:Aj fn.ntmps (fn.body.getD .skip)=true:=by kernel_rfl) (hnm:(fn.name == "runtime.NumGoroutine")=false:=by kernel_rfl):FunO S f args objs r objs' ks:=AJ5 hS hf h.out hc hn ho hco hnm
theorem LY (hS:G6 S P)(hc:pr)(h:DG S P (HK (stp P g)) fun env regs=>KG S P F (.pop .normal (stp P g).k ⟨env,regs⟩))(hp:pr=E1 (cnd P g):=by kernel_rfl)(hd:Df (stp P g)=true:=by kernel_rfl)(hmix:P.follows .mixedOrders=true:=by kernel_rfl)
 (hok:Kd (HK (stp P g)).all (HK (stp P g)).cls=true:=by kernel_rfl):KG S P F g:=by
 have e:(fun env regs=>KG S P F (.pop .normal (stp P g).k ⟨env,regs⟩))=fun env regs=>G S P F (.pop .normal (stp P g).k ⟨env,regs⟩):=by funext env regs;exact propext ⟨fun h=>h.out,fun h=>⟨h⟩⟩
 rw[e]at h;exact⟨AJ6 hS hc h.out hp hd hmix hok⟩
section
variable {sc:SC}{k:Env->D1->Prop}
theorem H5 (hc:pr)(h:k (Fz P sc).env (Fz P sc).regs)(hp:pr=E1 (Ac9 P sc):=by kernel_rfl)(he:(Fz P sc).rest.isEmpty=true:=by kernel_rfl):DG S P sc k:=⟨C_end hc h hp he⟩
theorem LZ (hc:pr){b:Bool}(ht:b=true->DG S P (LX true (Fz P sc)) k)(hf:b=false->DG S P (LX false (Fz P sc)) k)(hp:pr=E1 (Ac9 P sc):=by kernel_rfl)(hb:QS (Fz P sc)=some b:=by kernel_rfl):DG S P sc k:=
 ⟨AJ7 hc (fun h=>(ht h).out) (fun h=>(hf h).out) hp hb⟩
theorem GX (ids:List Nat)(hc:pr){fn:FuncId}{args:List AV}{objs objs' : List Obj}{r:AV}{ks:List Bool}(hF:FunO S fn args objs r objs' ks)(hk:DG S P (Ai2 ids ks r objs' (Fz P sc)) k)
 (hp:pr=E1 (Ac9 P sc):=by kernel_rfl) (he:XP ids (Fz P sc)=some (fn,args,objs):=by kernel_rfl) (hn:SU ids ks objs'.length (Fz P sc)=true:=by kernel_rfl):DG S P sc k:=⟨AU0 ids hc hF hk.out hp he hn⟩
theorem U6 (hc:pr){fn:FuncId}{args:List AV}{r:AV}(hF:FunO S fn args [] r [] [])(hk:DG S P (Ai3 r (Fz P sc)) k)(hp:pr=E1 (Ac9 P sc):=by kernel_rfl)(he:XR (Fz P sc)=some (fn,args):=by kernel_rfl)(hn:XQ (Fz P sc)=true:=by kernel_rfl):DG S P sc k:=
 ⟨AU1 hc hF hk.out hp he hn⟩
theorem EN (hc:pr){x:PV}(hk:DG S P (Vv x (Fz P sc)) k)(hp:pr=E1 (Ac9 P sc):=by kernel_rfl)(he:(EM P (Fz P sc)).map (·.2)=some x:=by kernel_rfl)(hc2:((EM P (Fz P sc)).map fun q=>E1 q.1)=some (true=true):=by kernel_rfl):DG S P sc k:=⟨AJ8 hc hk.out hp he hc2⟩
end
end
end Go.AM
namespace Go.AM
section
variable {S:Bd}{P:Program}{F:J6}{g:Cfg}{pr:Prop}
def yldE:Cfg->Option (List PV×List (List PV))
 |.ops all (o::_) _ st=>match CD all st.env o,o.op with
  |some true,.call c=>match c.callee with
   |.value f=>match aev st.env f,Jm st.regs (c.args.toList.map (aev st.env))with
    |.yf j,some (xs,regs)=>match A2 regs j with
     |some (.yld (ys::rest) true)=>if EG j regs=true/\xs.length=ys.length then some (xs,ys::rest)else none
     |_=>none
    |_,_=>none
   |_=>none
  |_,_=>none
 |_=>none
def AU2 (b:Bool)(rest:List (List PV)):Cfg->Cfg
 |.ops all (o::ops) K st=>match o.op with
  |.call c=>match c.callee with
   |.value f=>match aev st.env f,Jm st.regs (c.args.toList.map (aev st.env))with
    |.yf j,some (_,regs)=>AD1 o.dst (.p (.bb b)) st.env (ins j (.yld rest b) regs) fun st=>.ops all ops K st
    |_,_=>.ops all (o::ops) K st
   |_=>.ops all (o::ops) K st
  |_=>.ops all (o::ops) K st
 |g=>g
theorem SX:∀l:List PV,AF7 l l
 |[]=>trivial
 |x::l=>⟨.inl rfl,SX l⟩
theorem AJ9 (hS:G6 S P)(hc:pr){ys:List PV}{rest:List (List PV)}(ht:G S P F (AU2 true rest (stp P g)))(hf:G S P F (AU2 false [] (stp P g)))(hp:pr=E1 (cnd P g))(he:yldE (stp P g)=some (ys,ys::rest)):G S P F g:=by
 refine Fm hS hc ?_ hp;generalize stp P g=g' at he ht hf;unfold yldE at he;split at he
 ·split at he
  ·rename_i hg ho;split at he
   ·rename_i hcl;split at he
    ·rename_i hy hv;split at he
     ·rename_i hr;split at he
      ·rename_i ho2;simp only[AY6,Bb1,Bg2]at he;obtain⟨rfl,rfl,rfl⟩:=he;simp only[AU2,ho,hcl,hy,hv,JA]at ht hf;refine AI3 hS hg ho hcl hy hv hr ho2.1 (SX _) fun b=>?_;cases b
       ·exact hf
       ·exact ht
      ·cases he
     ·cases he
    ·cases he
   ·cases he
  ·cases he
 ·cases he
theorem Dh (hS:G6 S P)(hc:pr){ys:List PV}{rest:List (List PV)}(ht:KG S P F (AU2 true rest (stp P g)))(hf:KG S P F (AU2 false [] (stp P g)))(hp:pr=E1 (cnd P g):=by kernel_rfl)(he:yldE (stp P g)=some (ys,ys::rest):=by kernel_rfl):KG S P F g:=
 ⟨AJ9 hS hc ht.out hf.out hp he⟩
def Be {T:Type}(x:T)(o:Option (List T)):Option (List T):=o.map (x :: ·)
theorem Ma {T:Type}{x:T}{o:Option (List T)}{L:List T}(h:Be x o=some L):∃L',L=x::L' /\ o=some L':=by simp only[Be,Ba7]at h;obtain⟨l,h1,h2⟩:=h;exact⟨l,h2.symm,h1⟩
theorem EO (hS:G6 S P)(hc:pr){R A:Type}{body:(A->Option R)->A->Option R}{N:Nat}{a0:A}{r0:R}(h:R5 N body a0=some r0)(s:A->R->St){ids:List (Nat×Nat)}
 (hr:∀(X:Type) (s' : X->St) (J:X->Prop) (m:X->Nat) (n:Nat) (self:A->Option R) (a:A) (r:R),
  (∀(g' : Cfg) (ids:List (Nat×Nat)) (pr:Prop) (a:A) (r:R),pr->self a=some r->(hp:pr=E1 (cnd P g'):=by kernel_rfl)->(he:stp P g' = .pop .normal (.lp X s' J m n::(stp P g).k) (stp P g').st:=by kernel_rfl)->(hle:KLe ids (stp P g').st (s a r):=by exact kl)->KG S P F g') ->
  body self a=some r->KG S P F (.code (SS (stp P g)) (.lp X s' J m n::(stp P g).k) (s a r))) (hp:pr=E1 (cnd P g):=by kernel_rfl) (hl:Io (stp P g)=true:=by kernel_rfl) (hle:KLe ids (stp P g).st (s a0 r0):=by exact kl):KG S P F g:=by
 refine⟨Fm hS hc ?_ hp⟩;rw[Ai1 hl];refine AC4 hS (X:=Nat×A×R) (fun x=>s x.2.1 x.2.2) (fun x=>R5 x.1 body x.2.1=some x.2.2) (fun x=>x.1) (N,a0,r0) ids hle.out h ?_;rintro⟨n,a,r⟩ hx;cases n with
 |zero=>cases hx
 |succ n=>exact (hr _ _ _ _ _ (R5 n body) a r (fun g' ids pr a r hc hself hp he hle=>⟨Fm hS hc (by rw[he];exact Ae8 hS (n,a,r) ids hle.out hself (Nat.lt_succ_self n)) hp⟩) hx).out
theorem QU (hS:G6 S P)(hc:pr){R A B:Type}{body:(A->B->Option R)->A->B->Option R}{N:Nat}{a0:A}{b0:B}{r0:R}(h:S4 N body a0 b0=some r0)(s:A->B->R->St){ids:List (Nat×Nat)}
 (hr:∀(X:Type) (s' : X->St) (J:X->Prop) (m:X->Nat) (n:Nat) (self:A->B->Option R) (a:A) (b:B) (r:R),
  (∀(g' : Cfg) (ids:List (Nat×Nat)) (pr:Prop) (a:A) (b:B) (r:R),pr->self a b=some r->(hp:pr=E1 (cnd P g'):=by kernel_rfl)->(he:stp P g' = .pop .normal (.lp X s' J m n::(stp P g).k) (stp P g').st:=by kernel_rfl)->(hle:KLe ids (stp P g').st (s a b r):=by exact kl)->KG S P F g') ->
  body self a b=some r->KG S P F (.code (SS (stp P g)) (.lp X s' J m n::(stp P g).k) (s a b r))) (hp:pr=E1 (cnd P g):=by kernel_rfl) (hl:Io (stp P g)=true:=by kernel_rfl) (hle:KLe ids (stp P g).st (s a0 b0 r0):=by exact kl):KG S P F g:=
 EO hS hc h (fun x r=>s x.1 x.2 r) (fun X s' J m n self a r hb=>hr X s' J m n (fun a b=>self (a,b)) a.1 a.2 r fun g' ids pr a b r h1 h2 h3 h4 h5=>hb g' ids pr (a,b) r h1 h2 h3 h4 h5) hp hl hle
theorem EP (hS:G6 S P){f:FuncId}{fn:Func}{first caps:List AV}{objs:List Obj}{L:List (List PV)}(hf:P.funcs[f]? = some fn)
 (h:KG S P (Cj S P (objs++[Obj.yld L true]).length fn.results.toList fun r objs' ks=>∃b,objs'[objs.length]? = some (.yld [] b)/\ks[objs.length]? = some true/\∃a,r=.ret a) (.code (fn.body.getD .skip) [] { env:=argEnv (first ++ .yf objs.length::caps),regs:=objRegs (objs++[Obj.yld L true]) }))
 (hc:fn.body.isSome=true:=by kernel_rfl) (hn:Nat.ble (first ++ .yf objs.length::caps).length fn.ntmps=true:=by kernel_rfl) (ho:Nat.blt (objs++[Obj.yld L true]).length 1000=true:=by kernel_rfl)
 (hco:Aj fn.ntmps (fn.body.getD .skip)=true:=by kernel_rfl) (hnm:(fn.name == "runtime.NumGoroutine")=false:=by kernel_rfl):Dx S f first caps objs L:=by
 obtain⟨code,hcode⟩:=Ba2.1 hc;rw[hcode,AZ4]at hco h;exact Jy hS hf hcode (Be9 hn) (by simpa[Bh8]using ho) rfl hco hnm h.out
def SY (P:Program)(ids:List Nat):Cfg->Option (FuncId×List AV×List AV×List Obj)
 |.code (.rangeFunc op _ _ _) _ st=>match DQ st.env op with
  |some (f,first,caps)=>match P.funcs[f]?,J7 ids st.regs ids,CO ids first,CO ids caps with
   |some fn,some objs,some as,some bs=>if (fn.body.isSome && !(fn.name == "runtime.NumGoroutine")&&Eh objs&&G2 ids&&(objs.length==ids.length)&&Nat.blt ids.length 1000) then some (f,as,bs,objs)else none
   |_,_,_,_=>none
  |none=>none
 |_=>none
def GY:Cfg->Array Tmp
 |.code (.rangeFunc _ ps _ _) _ _=>ps
 |_=>#[]
def SZ:Cfg->Code
 |.code (.rangeFunc _ _ a _) _ _=>a
 |_=>.skip
def Tb:Cfg->Code
 |.code (.rangeFunc _ _ _ b) _ _=>b
 |_=>.skip
def Tc (ids ts:List Nat)(g:Cfg):St:=⟨V7 ts (ts.map (get g.st.env)),O5 ids (ids.map fun _=>false) g.st.regs⟩
def rst (gh:Nat)(t:St):St:=⟨[],ins gh (.ghost (t.env.map (·.2))) t.regs⟩
def Td (gh:Nat)(ps:Array Tmp)(ys:List PV)(t:St):St:=⟨HZ ps.toList ys t.env,ins gh (.ghost (t.env.map (·.2))) t.regs⟩
def exitE:Cfg->Ls
 |.pop e _ _=>e
 |_=>.normal
def AD5:Cfg->Bool
 |.pop .ret [] _=>true
 |.pop (.exit _) [] _=>true
 |_=>false
theorem Ai5 (regs:D1)(d:Nat)(x:Obj):A2 (ins d x regs) d=some x:=by
 induction regs with
 |nil=>simp[ins,A2]
 |cons p r ih=>
  obtain⟨i,b⟩:=p;simp only[ins];split
  ·simp[A2]
  split
  ·simp[A2]
  ·rename_i h1 h2;simp only[A2,h2,if_false,ih]
theorem FN (gh:Nat)(t:St):A2 (rst gh t).regs gh=some (.ghost (t.env.map fun p=>p.2)):=by unfold rst;exact Ai5 _ _ _
def Mb (ids:List Nat):Cfg->Option (FuncId×List AV×List AV×List Obj)
 |.code (.rangeFunc op _ _ _) _ st=>match DQ st.env op with
  |some (f,first,caps)=>match J7 ids st.regs ids,CO ids first,CO ids caps with
   |some objs,some as,some bs=>if (Eh objs&&G2 ids&&(objs.length==ids.length)&&Nat.blt ids.length 1000) then some (f,as,bs,objs)else none
   |_,_,_=>none
  |none=>none
 |_=>none
theorem GC {ids:List Nat}{g:Cfg}{q:FuncId×List AV×List AV×List Obj}(h:SY P ids g=some q):Mb ids g=some q/\∃fn,P.funcs[q.1]? = some fn/\fn.body.isSome=true/\(fn.name == "runtime.NumGoroutine")=false:=by
 unfold SY at h;split at h
 ·split at h
  ·rename_i hpo;split at h
   ·rename_i fn objs' as' bs' h1 h2 h3 h4;split at h
    ·rename_i hh;cases h;simp only[AY9,Ba9,beq_iff_eq]at hh;obtain⟨⟨⟨⟨⟨e1,e2⟩,e3⟩,e4⟩,e5⟩,e6⟩:=hh;refine⟨?_,fn,h1,e1,by simpa using e2⟩;simp only[Mb,hpo,h2,h3,h4,e3,e4,e5,e6,beq_self_eq_true,Bm0,if_true]
    ·cases h
   ·cases h
  ·cases h
 ·cases h
theorem Ir (hS:G6 S P)(hc:pr){f:FuncId}{as bs:List AV}{objs:List Obj}{R T A:Type}{enc:T->List PV}{L:List T}{mb:(A->Option R)->T->A->Option R}{mk:A->Option R}{a0:A}{r:R}(hfn:∃fn,P.funcs[f]? = some fn/\fn.body.isSome=true/\(fn.name == "runtime.NumGoroutine")=false)
 (ids ts:List Nat) (gh:Nat) (s:A->St) {idl:List (Nat×Nat)}(h:P4 L mb mk a0=some r) (hF:Dx S f as bs objs (L.map enc))
 (hlen:∀t:T,(enc t).length=(GY (stp P g)).size) (hk:∀a,(s a).env.map (·.1)=ts) (hn:∀a,A2 (s a).regs gh=none) (hb0:∀a,(⟨V7 ts ((s a).env.map (·.2)),del gh (ins gh (.ghost ((s a).env.map (·.2))) (s a).regs)⟩:St)=s a)
 (hround:∀(t:T) (next:St->Prop) (self:A->Option R) (a:A),
  (∀(g' : Cfg) (ids:List (Nat×Nat)) (pr:Prop) (a:A),pr->self a=some r->(hp:pr=E1 (cnd P g'):=by kernel_rfl)->(he:stp P g' = .pop .normal [] (stp P g').st:=by kernel_rfl)->(hle:KLe ids (stp P g').st (rst gh (s a)):=by exact kl)->KG S P (DS S gh ts next (kp S P (stp P g).k F)) g') ->
  mb self t a=some r->KG S P (Bo S P (Tb (stp P g)) gh ts next (kp S P (stp P g).k F)) (.code (SZ (stp P g)) [] (Td gh (GY (stp P g)) (enc t) (s a))))
 (hend:∀a,mk a=some r->KG S P F (.pop .normal (stp P g).k (s a)))
 (hp:pr=E1 (cnd P g):=by kernel_rfl) (he:Mb ids (stp P g)=some (f,as,bs,objs):=by kernel_rfl) (hgh:Nat.blt gh 1000=true:=by kernel_rfl) (hng:A2 (stp P g).st.regs gh=none:=by kernel_rfl) (hts:G2 ts=true:=by kernel_rfl)
 (hle:KLe idl (Tc ids ts (stp P g)) (s a0):=by exact kl):KG S P F g:=by
 refine⟨Fm hS hc ?_ hp⟩;generalize stp P g=g1 at hlen hround hend he hng hle;unfold Mb at he;split at he
 ·rename_i op ps asg body K st;split at he
  ·rename_i f' first caps hpo
   split at he
   ·rename_i objs' as' bs' h2 h3 h4;split at he
    ·rename_i hh;simp only[AY6,Bb1]at he;obtain⟨rfl,rfl,rfl,rfl⟩:=he;simp only[AY9,Ba9,beq_iff_eq]at hh;obtain⟨⟨⟨e3,e4⟩,e5⟩,e6⟩:=hh;refine AI7 hS ids ts gh s idl h hF hpo hfn h2 e3 e4 h3 h4 e5 hgh hng e6 hts hlen hle.out hk hn (fun t next self a hb hm=>?_) (fun a hm=>(hend a hm).out);refine (hround t next self a (fun g' ids' pr a hc hself hp he hle=>⟨Fm hS hc ?_ hp⟩) hm).out;rw[he];have hl:((s a).env.map (·.2)).length=ts.length:=by rw[<- hk a];simp
     refine hb _ (rst gh (s a)) ((s a).env.map fun p=>p.2) ids' a hle.out (FN gh (s a)) hl ?_ (hb0 a) hself
     have:=congrArg St.regs (hb0 a)
     simp only at this;show A2 (del gh (ins gh _ _)) gh=none;rw[this];exact hn a
    ·cases he
   ·cases he
  ·cases he
 ·cases he
theorem FO (hS:G6 S P)(hc:pr){f:FuncId}{as bs:List AV}{objs:List Obj}{R T A:Type}{enc:T->List PV}{L:List T}{mb:(A->Option R)->T->A->Option R}{mk:A->Option R}{a0:A}{r:R}
 (ids ts:List Nat) (gh:Nat) (s:A->St) {idl:List (Nat×Nat)}(h:P4 L mb mk a0=some r) (hF:Dx S f as bs objs (L.map enc))
 (hlen:∀t:T,(enc t).length=(GY (stp P g)).size) (hk:∀a,(s a).env.map (·.1)=ts) (hn:∀a,A2 (s a).regs gh=none) (hb0:∀a,(⟨V7 ts ((s a).env.map (·.2)),del gh (ins gh (.ghost ((s a).env.map (·.2))) (s a).regs)⟩:St)=s a)
 (hround:∀(t:T) (next:St->Prop) (self:A->Option R) (a:A),
  (∀(g' : Cfg) (ids:List (Nat×Nat)) (pr:Prop) (a:A),pr->self a=some r->(hp:pr=E1 (cnd P g'):=by kernel_rfl)->(he:stp P g' = .pop .normal [] (stp P g').st:=by kernel_rfl)->(hle:KLe ids (stp P g').st (rst gh (s a)):=by exact kl)->KG S P (DS S gh ts next (kp S P (stp P g).k F)) g') ->
  mb self t a=some r->KG S P (Bo S P (Tb (stp P g)) gh ts next (kp S P (stp P g).k F)) (.code (SZ (stp P g)) [] (Td gh (GY (stp P g)) (enc t) (s a))))
 (hend:∀a,mk a=some r->KG S P F (.pop .normal (stp P g).k (s a)))
 (hp:pr=E1 (cnd P g):=by kernel_rfl) (he:SY P ids (stp P g)=some (f,as,bs,objs):=by kernel_rfl) (hgh:Nat.blt gh 1000=true:=by kernel_rfl) (hng:A2 (stp P g).st.regs gh=none:=by kernel_rfl) (hts:G2 ts=true:=by kernel_rfl)
 (hle:KLe idl (Tc ids ts (stp P g)) (s a0):=by exact kl):KG S P F g:=
 Ir hS hc (GC he).2 ids ts gh s h hF hlen hk hn hb0 hround hend hp (GC he).1 hgh hng hts hle
theorem Ai6 (hS:G6 S P)(hc:pr){f:FuncId}{as bs:List AV}{objs:List Obj}{R T A:Type}{enc:T->List PV}{L:List T}{mb:(A->Option R)->T->A->Option R}{mk:A->Option R}{a0:A}{r0:R}(hfn:∃fn,P.funcs[f]? = some fn/\fn.body.isSome=true/\(fn.name == "runtime.NumGoroutine")=false)
 (ids ts:List Nat) (gh:Nat) (s:A->R->St) {idl:List (Nat×Nat)}(h:P4 L mb mk a0=some r0) (hF:Dx S f as bs objs (L.map enc))
 (hlen:∀t:T,(enc t).length=(GY (stp P g)).size) (hk:∀a r,(s a r).env.map (·.1)=ts) (hn:∀a r,A2 (s a r).regs gh=none) (hb0:∀a r,(⟨V7 ts ((s a r).env.map (·.2)),del gh (ins gh (.ghost ((s a r).env.map (·.2))) (s a r).regs)⟩:St)=s a r)
 (hround:∀(t:T) (next:St->Prop) (self:A->Option R) (a:A) (r:R),
  (∀(g' : Cfg) (ids:List (Nat×Nat)) (pr:Prop) (a:A) (r:R),pr->self a=some r->(hp:pr=E1 (cnd P g'):=by kernel_rfl)->(he:stp P g' = .pop .normal [] (stp P g').st:=by kernel_rfl)->(hle:KLe ids (stp P g').st (rst gh (s a r)):=by exact kl)->KG S P (DS S gh ts next (kp S P (stp P g).k F)) g') ->
  mb self t a=some r->KG S P (Bo S P (Tb (stp P g)) gh ts next (kp S P (stp P g).k F)) (.code (SZ (stp P g)) [] (Td gh (GY (stp P g)) (enc t) (s a r))))
 (hend:∀a r,mk a=some r->KG S P F (.pop .normal (stp P g).k (s a r)))
 (hp:pr=E1 (cnd P g):=by kernel_rfl) (he:Mb ids (stp P g)=some (f,as,bs,objs):=by kernel_rfl) (hgh:Nat.blt gh 1000=true:=by kernel_rfl) (hng:A2 (stp P g).st.regs gh=none:=by kernel_rfl) (hts:G2 ts=true:=by kernel_rfl)
 (hle:KLe idl (Tc ids ts (stp P g)) (s a0 r0):=by exact kl):KG S P F g:=by
 refine⟨Fm hS hc ?_ hp⟩;generalize stp P g=g1 at hlen hround hend he hng hle;unfold Mb at he;split at he
 ·rename_i op ps asg body K st;split at he
  ·rename_i f' first caps hpo
   split at he
   ·rename_i objs' as' bs' h2 h3 h4;split at he
    ·rename_i hh;simp only[AY6,Bb1]at he;obtain⟨rfl,rfl,rfl,rfl⟩:=he;simp only[AY9,Ba9,beq_iff_eq]at hh;obtain⟨⟨⟨e3,e4⟩,e5⟩,e6⟩:=hh;refine Av1 hS ids ts gh s idl h hF hpo hfn h2 e3 e4 h3 h4 e5 hgh hng e6 hts hlen hle.out hk hn (fun t next self a r hb hm=>?_) (fun a r hm=>(hend a r hm).out);refine (hround t next self a r (fun g' ids' pr a r hc hself hp he hle=>⟨Fm hS hc ?_ hp⟩) hm).out;rw[he];have hl:((s a r).env.map (·.2)).length=ts.length:=by rw[<- hk a r];simp
     refine hb _ (rst gh (s a r)) ((s a r).env.map fun p=>p.2) ids' a r hle.out (FN gh (s a r)) hl ?_ (hb0 a r) hself
     have:=congrArg St.regs (hb0 a r)
     simp only at this;show A2 (del gh (ins gh _ _)) gh=none;rw[this];exact hn a r
    ·cases he
   ·cases he
  ·cases he
 ·cases he
theorem Aw1 (hS:G6 S P)(hc:pr){f:FuncId}{as bs:List AV}{objs:List Obj}{R T A:Type}{enc:T->List PV}{L:List T}{mb:(A->Option R)->T->A->Option R}{mk:A->Option R}{a0:A}{r0:R}
 (ids ts:List Nat) (gh:Nat) (s:A->R->St) {idl:List (Nat×Nat)}(h:P4 L mb mk a0=some r0) (hF:Dx S f as bs objs (L.map enc))
 (hlen:∀t:T,(enc t).length=(GY (stp P g)).size) (hk:∀a r,(s a r).env.map (·.1)=ts) (hn:∀a r,A2 (s a r).regs gh=none) (hb0:∀a r,(⟨V7 ts ((s a r).env.map (·.2)),del gh (ins gh (.ghost ((s a r).env.map (·.2))) (s a r).regs)⟩:St)=s a r)
 (hround:∀(t:T) (next:St->Prop) (self:A->Option R) (a:A) (r:R),
  (∀(g' : Cfg) (ids:List (Nat×Nat)) (pr:Prop) (a:A) (r:R),pr->self a=some r->(hp:pr=E1 (cnd P g'):=by kernel_rfl)->(he:stp P g' = .pop .normal [] (stp P g').st:=by kernel_rfl)->(hle:KLe ids (stp P g').st (rst gh (s a r)):=by exact kl)->KG S P (DS S gh ts next (kp S P (stp P g).k F)) g') ->
  mb self t a=some r->KG S P (Bo S P (Tb (stp P g)) gh ts next (kp S P (stp P g).k F)) (.code (SZ (stp P g)) [] (Td gh (GY (stp P g)) (enc t) (s a r))))
 (hend:∀a r,mk a=some r->KG S P F (.pop .normal (stp P g).k (s a r)))
 (hp:pr=E1 (cnd P g):=by kernel_rfl) (he:SY P ids (stp P g)=some (f,as,bs,objs):=by kernel_rfl) (hgh:Nat.blt gh 1000=true:=by kernel_rfl) (hng:A2 (stp P g).st.regs gh=none:=by kernel_rfl) (hts:G2 ts=true:=by kernel_rfl)
 (hle:KLe idl (Tc ids ts (stp P g)) (s a0 r0):=by exact kl):KG S P F g:=
 Ai6 hS hc (GC he).2 ids ts gh s h hF hlen hk hn hb0 hround hend hp (GC he).1 hgh hng hts hle
def AX6 (t:Nat)(a:AV):Cfg->Cfg
 |.ops all rest K st=>mkO (ins t a st.env) st.regs fun env regs=>.ops all rest K ⟨env,regs⟩
 |g=>g
theorem AK0 (hS:G6 S P)(hc:pr)(t:Nat){k n:Nat}{f:Nat->List PV}(h0:n=0->KG S P F (AX6 t (.p (.v (.slice none 0 0))) (stp P g)))(h1:KG S P F (AX6 t (.p (.sl true k n f)) (stp P g)))
 (hp:pr=E1 (cnd P g):=by kernel_rfl) (ho:JB (stp P g)=true:=by kernel_rfl) (hg:get (stp P g).st.env t=.p (.sl false k n f):=by kernel_rfl):KG S P F g:=by
 refine⟨Fm hS hc ?_ hp⟩;generalize stp P g=g1 at h0 h1 ho hg;unfold JB at ho;split at ho
 ·refine AQ8 hS t hg (fun h=>?_) ?_
  ·have:=(h0 h).out
   simpa only[AX6,FL]using this
  ·have:=h1.out
   simpa only[AX6,FL]using this
 ·cases ho
def frzC (j:Nat)(ps:List PV):Cfg->Cfg
 |.code c K st=>mkO (Aq3 j ps st.env) (ins j .dead st.regs) fun env regs=>.code c K ⟨env,regs⟩
 |g=>g
theorem Aw2 (hS:G6 S P)(hc:pr)(j:Nat)(ps:List PV)(hk:KG S P F (frzC j ps (stp P g)))(hp:pr=E1 (cnd P g):=by kernel_rfl)(hd:Df (stp P g)=true:=by kernel_rfl)(hmix:P.follows .mixedOrders=true:=by kernel_rfl)
 (hdep:GT (HK (stp P g)).all=true:=by kernel_rfl) (hr:A2 (stp P g).st.regs j=some (.cells (ps.map .p)):=by kernel_rfl):KG S P F g:=by
 refine⟨Fm hS hc ?_ hp⟩;generalize stp P g=g1 at hk hd hdep hr;unfold Df at hd;split at hd
 ·rename_i id ops K st;have hk:=hk.out;simp only[frzC,FL]at hk;show awp S P (.region id ops true) (kp S P K F) st;simp only[awp,if_true];have hk' : YH S P ops.toList (kp S P K F) ⟨Aq3 j ps st.env,ins j .dead st.regs⟩:=by
   have:awp S P (.region id ops true) (kp S P K F) ⟨Aq3 j ps st.env,ins j .dead st.regs⟩:=hk
   simpa only[awp,if_true]using this
  exact Au8 hS hmix hdep (hS.frz st j ps _ hr hk')
 ·cases hd
def clsN (js:List Nat):Nat->List Oper->List Cls
 |_,[]=>[]
 |i,o::r=>(if js.contains i then .n else if js.contains (i+1000)then .w else AX3 o.op)::clsN js (i+1) r
def QV (js:List Nat):Cfg->SC
 |.code (.region _ ops true) _ st=>⟨ops.toList,clsN js 0 ops.toList,ops.toList,st.env,st.regs,[]⟩
 |_=>⟨[],[],[],[],[],[]⟩
theorem D7 (hS:G6 S P)(hc:pr)(js:List Nat)(h:DG S P (QV js (stp P g)) fun env regs=>KG S P F (.pop .normal (stp P g).k ⟨env,regs⟩))(hp:pr=E1 (cnd P g):=by kernel_rfl)(hd:Df (stp P g)=true:=by kernel_rfl)(hmix:P.follows .mixedOrders=true:=by kernel_rfl)
 (hok:Kd (QV js (stp P g)).all (QV js (stp P g)).cls=true:=by kernel_rfl):KG S P F g:=by
 have e:(fun env regs=>KG S P F (.pop .normal (stp P g).k ⟨env,regs⟩))=fun env regs=>G S P F (.pop .normal (stp P g).k ⟨env,regs⟩):=by funext env regs;exact propext ⟨fun h=>h.out,fun h=>⟨h⟩⟩
 rw[e]at h;refine⟨Fm hS hc ?_ hp⟩;have h:=h.out;generalize stp P g=g' at hd hok h;unfold Df at hd;split at hd
 ·exact XF hS _ hmix hok h
 ·cases hd
def AX7 (ls:List (Nat×Cls)):Nat->List Oper->List Cls
 |_,[]=>[]
 |i,o::r=>(match ls.find? (fun q=>q.1==i)with|some q=>q.2|none=>AX3 o.op)::AX7 ls (i+1) r
def QW (ls:List (Nat×Cls)):Cfg->SC
 |.code (.region _ ops true) _ st=>⟨ops.toList,AX7 ls 0 ops.toList,ops.toList,st.env,st.regs,[]⟩
 |_=>⟨[],[],[],[],[],[]⟩
theorem U7 (hS:G6 S P)(hc:pr)(ls:List (Nat×Cls))(h:DG S P (QW ls (stp P g)) fun env regs=>KG S P F (.pop .normal (stp P g).k ⟨env,regs⟩))(hp:pr=E1 (cnd P g):=by kernel_rfl)(hd:Df (stp P g)=true:=by kernel_rfl)(hmix:P.follows .mixedOrders=true:=by kernel_rfl)
 (hok:Kd (QW ls (stp P g)).all (QW ls (stp P g)).cls=true:=by kernel_rfl):KG S P F g:=by
 have e:(fun env regs=>KG S P F (.pop .normal (stp P g).k ⟨env,regs⟩))=fun env regs=>G S P F (.pop .normal (stp P g).k ⟨env,regs⟩):=by funext env regs;exact propext ⟨fun h=>h.out,fun h=>⟨h⟩⟩
 rw[e]at h;refine⟨Fm hS hc ?_ hp⟩;have h:=h.out;generalize stp P g=g' at hd hok h;unfold Df at hd;split at hd
 ·exact XF hS _ hmix hok h
 ·cases hd
theorem HL (hS:G6 S P)(hc:pr){body:Code}{gh:Nat}{ts:List Nat}{next:St->Prop}{Q:J6}(h:KG S P (DS S gh ts next Q) (.code body [] (stp P g).st))(hp:pr=E1 (cnd P g):=by kernel_rfl)(he:stp P g=.pop .normal [] (stp P g).st:=by kernel_rfl):KG S P (Bo S P body gh ts next Q) g:=by refine⟨Fm hS hc ?_ hp⟩;rw[he];exact G_asg hS h.out
theorem Lk (hS:G6 S P)(hc:pr){K:List It}{gh:Nat}{ts:List Nat}{next:St->Prop}(t:St){ids:List (Nat×Nat)}(hk:KG S P F (.pop (exitE (stp P g)) K t))(hp:pr=E1 (cnd P g):=by kernel_rfl)(he:AD5 (stp P g)=true:=by kernel_rfl)
 (hle:KLe ids (stp P g).st (rst gh t):=by exact kl) (h1:t.env.map (·.1)=ts:=by kernel_rfl) (h2:A2 t.regs gh=none:=by kernel_rfl) (h3:(⟨V7 ts (t.env.map (·.2)),del gh (ins gh (.ghost (t.env.map (·.2))) t.regs)⟩:St)=t:=by kernel_rfl):KG S P (DS S gh ts next (kp S P K F)) g:=by
 refine⟨Fm hS hc ?_ hp⟩;generalize stp P g=g1 at hk he hle;have hl:(t.env.map (·.2)).length=ts.length:=by rw[<- h1];simp
 have hd:A2 (del gh (ins gh (.ghost (t.env.map (·.2))) t.regs)) gh=none:=by
  have:=congrArg St.regs h3
  simp only at this;rw[this];exact h2
 unfold AD5 at he;split at he
 ·exact XH hS trivial (rst gh t) ids hle.out (FN gh t) hl hd (by rw[show (⟨V7 ts (t.env.map (·.2)),del gh (rst gh t).regs⟩:St)=t from h3];exact hk.out)
 ·exact XH hS trivial (rst gh t) ids hle.out (FN gh t) hl hd (by rw[show (⟨V7 ts (t.env.map (·.2)),del gh (rst gh t).regs⟩:St)=t from h3];exact hk.out)
 ·cases he
end
end Go.AM
namespace Go.AM
section
variable {S:Bd}{P:Program}{F:J6}{g:Cfg}{pr:Prop}
def AU3 (j:Nat)(ps:List PV):Cfg->Cfg
 |.ops all rest K st=>mkO (Aq3 j ps st.env) (ins j .dead st.regs) fun env regs=>.ops all rest K ⟨env,regs⟩
 |g=>g
end
section
variable {S:Bd}{P:Program}{F:J6}{g:Cfg}{pr:Prop}
theorem J0 (hS:G6 S P)(hc:pr)(d:Nat)(st:St){ids:List (Nat×Nat)}(hk:KG S P F (opsS st (KM P d g)))(hp:pr=E1 (AX5 P d g):=by kernel_rfl)(ho:JB (KM P d g)=true:=by kernel_rfl)(hle:KLe ids (KM P d g).st st:=by exact kl):KG S P F g:=by
 refine⟨(Jo (u:=some d) (F:=F) hS 400 [] g (by subst hp;exact hc)).2 ?_⟩;have hk:=hk.out;have hle:=hle.out;show G S P F (KM P d g);generalize KM P d g=g' at ho hle hk;unfold JB at ho;split at ho
 ·exact Ah9 hS st ids hle hk
 ·cases ho
end
end Go.AM
namespace Go.AM
section
variable {S:Bd}{P:Program}{F:J6}{g:Cfg}{pr:Prop}
def AU4 (S:Bd)(P:Program)(pv:PV)(m:String)(as:List AV)(r:AV):Prop:=∃t y fn,pv=.iface t y/\Sf P t m=some fn/\Ar4 S fn (.p (nP y)::as) r
def invE:Cfg->Option (PV×String×List AV)
 |.ops all (o::_) _ st=>match CD all st.env o,o.op with
  |some true,.call c=>match c.callee with
   |.invoke rv m=>match NJ st.regs (c.args.toList.map (aev st.env)),aev st.env rv with
    |some (as,_),.p pv=>match CO [] as with
     |some as'=>some (pv,m,as')
     |none=>none
    |_,_=>none
   |_=>none
  |_,_=>none
 |_=>none
def invK (r:AV):Cfg->Cfg
 |.ops all (o::rest) K st=>match o.op with
  |.call c=>match NJ st.regs (c.args.toList.map (aev st.env))with
   |some (_,regs)=>AD1 o.dst (unA [] r) st.env regs fun st=>.ops all rest K st
   |none=>.ops all (o::rest) K st
  |_=>.ops all (o::rest) K st
 |g=>g
theorem Ll (hS:G6 S P)(hc:pr){pv:PV}{m:String}{as:List AV}{r:AV}(hF:AU4 S P pv m as r)(hk:KG S P F (invK r (stp P g)))
 (hp:pr=E1 (cnd P g):=by kernel_rfl) (he:invE (stp P g)=some (pv,m,as):=by kernel_rfl):KG S P F g:=by
 obtain⟨t,y,fn,rfl,hm,hF⟩:=hF;refine⟨Fm hS hc ?_ hp⟩;have hk:=hk.out;generalize stp P g=g' at he hk;unfold invE at he;split at he
 ·split at he
  ·rename_i hg ho;split at he
   ·rename_i hcl;split at he
    ·rename_i ha hrv;split at he
     ·rename_i hr;cases he;simp only[invK,ho,ha,JA]at hk;refine Au5 hS hg ho hcl ha hrv hm (args:=.p (nP y)::_) ?_ hF hk;simp only[CO,RX,hr]
     ·cases he
    ·cases he
   ·cases he
  ·cases he
 ·cases he
theorem J3 (hS:G6 S P)(hc:pr)(d j:Nat)(ps:List PV)(hk:KG S P F (AU3 j ps (KM P d g)))(hp:pr=E1 (AX5 P d g):=by kernel_rfl)(ho:JB (KM P d g)=true:=by kernel_rfl)
 (hr:A2 (KM P d g).st.regs j=some (.cells (ps.map .p)):=by kernel_rfl):KG S P F g:=by
 refine⟨(Jo (u:=some d) (F:=F) hS 400 [] g (by subst hp;exact hc)).2 ?_⟩;have hk:=hk.out;show G S P F (KM P d g);generalize KM P d g=g' at ho hr hk;unfold JB at ho;split at ho
 ·simp only[AU3,FL]at hk;exact YL hS (hS.frz _ j ps _ hr hk)
 ·cases ho
def Aw3 (j j' : Nat):AV->AV
 |.vecp i m=>if i=j then .vec j' else .vecp i m
 |a=>a
def Aw4 (j j' : Nat):List AV->List AV
 |[]=>[]
 |a::r=>Aw3 j j' a::Aw4 j j' r
def Aw5 (j j' : Nat):Env->Env
 |[]=>[]
 |(t,a)::r=>(t,Aw3 j j' a)::Aw5 j j' r
def Zo (j j' : Nat):D1->D1
 |[]=>[]
 |(t,.cells cs)::r=>(t,.cells (Aw4 j j' cs))::Zo j j' r
 |(t,o)::r=>(t,o)::Zo j j' r
def msA (j:Nat)(r:List Nat):AV->List Nat
 |.vecp i m=>if i=j then m::r else r
 |_=>r
def msL (j:Nat):List AV->List Nat
 |[]=>[]
 |a::r=>msA j (msL j r) a
def msE (j:Nat):Env->List Nat
 |[]=>[]
 |(_,a)::r=>msA j (msE j r) a
def msR (j:Nat):D1->List Nat
 |[]=>[]
 |(_,.cells cs)::r=>msL j cs++msR j r
 |_::r=>msR j r
theorem Ai7 {j:Nat}{r:List Nat}{a:AV}:∀x∈r,x∈msA j r a:=by
 intro x hx;unfold msA;split
 ·split
  ·exact Bb2 _ hx
  ·exact hx
 ·exact hx
theorem XS {j n j' : Nat}{r:List Nat}{a:AV}(h:∀m∈msA j r a,m=n):Ar1 j n j' a=Aw3 j j' a:=by
 cases a with
 |vecp i m=>
  simp only[Ar1,Aw3];by_cases e:i=j
  ·have:m=n:=h m (by simp[msA,e])
   simp[e,this]
  ·simp[e]
 |_=>rfl
theorem XT {j n j' : Nat}:∀{l:List AV},(∀m∈msL j l,m=n)->AC1 j n j' l=Aw4 j j' l
 |[],_=>rfl
 |a::r,h=>by simp only[AC1,Aw4,XS (r:=msL j r) h,XT fun m hm=>h m (Ai7 m hm)]
theorem XU {j n j' : Nat}:∀{l:Env},(∀m∈msE j l,m=n)->AC0 j n j' l=Aw5 j j' l
 |[],_=>rfl
 |(t,a)::r,h=>by simp only[AC0,Aw5,XS (r:=msE j r) h,XU fun m hm=>h m (Ai7 m hm)]
theorem QX {j n j' : Nat}:∀{l:D1},(∀m∈msR j l,m=n)->Xl j n j' l=Zo j j' l
 |[],_=>rfl
 |(t,o)::r,h=>by
  cases o with
  |cells cs=>simp only[Xl,Zo,AP3,XT fun m hm=>h m (Ba8 _ hm),QX fun m hm=>h m (AZ7 _ hm)]
  |_=>simp only[Xl,Zo,AP3,QX (l:=r) h]
def truC (j j' : Nat)(e:TypeId)(k n:Nat)(f:Nat->List PV):Cfg->Cfg
 |.ops all rest K st=>mkO (Aw5 j j' st.env) (ins j' (.vec e k n f false) (ins j .dead (Zo j j' st.regs))) fun env regs=>.ops all rest K ⟨env,regs⟩
 |g=>g
theorem AU5 (hS:G6 S P)(hc:pr)(d j n j' : Nat){e:TypeId}{k N:Nat}{f:Nat->List PV}(hn:n<=N)(hk:KG S P F (truC j j' e k n f (KM P d g)))(hp:pr=E1 (AX5 P d g):=by kernel_rfl)(ho:JB (KM P d g)=true:=by kernel_rfl)
 (hr:A2 (KM P d g).st.regs j=some (.vec e k N f false):=by kernel_rfl) (hf:A2 (KM P d g).st.regs j' = none:=by kernel_rfl) (h1:Nat.ble 1000 j' = true:=by kernel_rfl)
 (hm:(msE j (KM P d g).st.env++msR j (KM P d g).st.regs)=List.replicate (msE j (KM P d g).st.env++msR j (KM P d g).st.regs).length n:=by kernel_rfl):KG S P F g:=by
 refine⟨(Jo (u:=some d) (F:=F) hS 400 [] g (by subst hp;exact hc)).2 ?_⟩;have hk:=hk.out;show G S P F (KM P d g);generalize KM P d g=g' at ho hr hf hk hm;unfold JB at ho;split at ho
 ·rename_i st;have hall:∀m∈msE j st.env++msR j st.regs,m=n:=fun m h=>by rw[show msE j st.env++msR j st.regs=_ from hm]at h;exact (List.mem_replicate.1 h).2
  simp only[truC,FL]at hk;refine YL hS (hS.trunc _ j j' n N k e f _ hr hn hf (Be9 h1) ?_);rw[XU fun m h=>hall m (Ba8 _ h),QX fun m h=>hall m (AZ7 _ h)];exact hk
 ·cases ho
end
abbrev cA {α : Type}(n:Nat)(c : α -> PV)(f:Nat -> α):List PV:=Cy n (fun i=>c (f i))
theorem F2 (n:Nat)(f:Nat->PV):(Cy n f).length=n:=by simp[Cy]
theorem E2 (n:Nat)(f:Nat->PV):∀i,i<n->[(Cy n f).getD i default]=[f i]:=by intro i hi;simp[Cy,AY4,hi]
theorem BN {n:Nat}{z:PV}{ps:List PV}(h:ps=List.replicate n z):∀i,i<n->[ps.getD i default]=[z]:=by intro i hi;subst h;simp[AY4,hi]
theorem Zp {n:Nat}{f g:Nat->PV}(h:∀i,i<n->[f i]=[g i]):Cy n f=Cy n g:=by unfold Cy;exact Bc4 fun i hi=>by have:=h i (Bf0.1 hi);injection this
abbrev Mc {α : Type}(f:Nat -> α)(k:Nat)(x : α):Nat -> α:=fun i=>if i=k then x else f i
theorem AK1 {α : Type}{c : α -> PV}{n k:Nat}{v:Nat -> α}{f:Nat->PV}{e:PV}{x : α}(h:∀i,i<n->[f i]=[c (v i)])(hx:e=c x):∀i,i<n->[if i=k then e else f i]=[c (if i=k then x else v i)]:=by
 intro i hi;by_cases h1:i=k
 ·rw[if_pos h1,if_pos h1,hx]
 ·rw[if_neg h1,if_neg h1];exact h i hi
theorem app1H {α : Type}{c : α -> List PV}{n:Nat}{v:Sl α}{f g:Nat->List PV}{z : α}(h:∀i,i<n->f i=c (v.g i))(hn:n=v.n):∀i,i<n+1->i≠v.n->R4 n f g i=c ((v.push z).g i):=by
 subst hn;intro i hi hne;have hl:i<v.n:=by omega
 show (if i<v.n then f i else g (i-v.n))=c (if i<v.n then v.g i else z);rw[if_pos hl,if_pos hl];exact h i hl
theorem setH {α : Type}{c : α -> List PV}{n k:Nat}{v:Sl α}{f e:Nat->List PV}{x : α}(h:∀i,i<n->i≠k->f i=c (v.g i))(hx:k<n->e k=c x):∀i,i<n->(fun l=>if l=k then e l else f l) i=c ((v.upd k x).g i):=by
 intro i hi;show (if i=k then e i else f i)=c (if i=k then x else v.g i);split
 ·subst_vars;exact hx hi
 ·exact h i hi ‹_›
end Go.AM
namespace Go.AM
section
variable {S:Bd}{P:Program}{F:J6}{g:Cfg}{R X:Type}{A B:Option R}{r:R}{b:Bool}
theorem kI (hS:G6 S P)(h:(if b then A else B)=some r)(ht:A=some r->KG S P F (AI8 (stp P g)))(hf:B=some r->KG S P F (AI9 (stp P g)))
 (hp:True=E1 (cnd P g):=by kernel_rfl) (hb:Av2 (stp P g)=some b:=by kernel_rfl):KG S P F g:=
 D3 hS trivial (fun c=>ht (itT c h)) (fun c=>hf (itF c h)) hp hb
theorem kG (hS:G6 S P)(h:(if b then A else B)=some r)(ht:A=some r->KG S P F (LU true (stp P g)))(hf:B=some r->KG S P F (LU false (stp P g)))
 (hp:True=E1 (cnd P g):=by kernel_rfl) (hb:XL (stp P g)=some b:=by kernel_rfl):KG S P F g:=
 Dg hS trivial (fun c=>ht (itT c h)) (fun c=>hf (itF c h)) hp hb
theorem kR (hS:G6 S P){n:Nat}{rs:List ResultVar}{Q:Lt->List Obj->List Bool->Prop}{a:AV}{objs:List Obj}(hQ:Q (.ret a) objs (Fj n []):=by exact⟨rfl,rfl,rfl⟩)
 (hp:True=E1 (cnd P g):=by kernel_rfl) (he:(AJ2 (stp P g)).bind (fun st=>Vt P st rs [])=some (a,objs):=by kernel_rfl):KG S P (Cj S P n rs Q) g:=
 Aw0 hS trivial [] hQ hp he
theorem kC (hS:G6 S P){x:Option X}{f:X->Option R}(h:x.bind f=some r){fn:FuncId}{args:List AV}{objs:List Obj}{objs' : X->List Obj}{rr:X->AV}{ks:List Bool}
 (hF:∀{y},x=some y->FunO S fn args objs (rr y) (objs' y) ks) (hk:∀y,f y=some r->KG S P F (Av3 [] ks (rr y) (objs' y) (stp P g)))
 (hp:True=E1 (cnd P g):=by kernel_rfl) (he:Zm [] (stp P g)=some (fn,args,objs):=by kernel_rfl) (hn:∀y,Zn [] ks (objs' y).length (stp P g)=true:=by intro y;kernel_rfl):KG S P F g:=by
 obtain⟨y,e,h⟩:=B6 h;exact B8 hS [] trivial (hF e) (hk y h) hp he (hn y)
end
end Go.AM
namespace Go.AM
inductive BT where
 |l (b:Bool)
 |n (b:Bool) (t f:BT)
def BT.ev:BT->Bool
 |.l b=>b
 |.n b t f=>if b then t.ev else f.ev
inductive BE where
 |a (b:Bool)
 |n (x y:BE)
 |o (x y:BE)
def BE.den:BE->Bool
 |.a b=>b
 |.n x y=>x.den&&y.den
 |.o x y=>x.den||y.den
def BE.tr:BE->BT->BT->BT
 |.a b,t,f=>.n b t f
 |.n x y,t,f=>x.tr (y.tr t f) f
 |.o x y,t,f=>x.tr t (y.tr t f)
def BE.top:BE->BT
 |.a b=>.l b
 |.n x y=>x.tr y.top (.l false)
 |.o x y=>x.tr (.l true) y.top
theorem BE.tr_ev:∀(e:BE) (t f:BT),(e.tr t f).ev=if e.den then t.ev else f.ev
 |.a b,t,f=>rfl
 |.n x y,t,f=>by simp only[tr,den,x.tr_ev,y.tr_ev];by_cases h:x.den=true<;>simp[h]
 |.o x y,t,f=>by simp only[tr,den,x.tr_ev,y.tr_ev];by_cases h:x.den=true<;>simp[h]
theorem BE.top_ev:∀e:BE,e.top.ev=e.den
 |.a b=>rfl
 |.n x y=>by simp only[top,den,x.tr_ev,y.top_ev,BT.ev];by_cases h:x.den=true<;>simp[h]
 |.o x y=>by simp only[top,den,x.tr_ev,y.top_ev,BT.ev];by_cases h:x.den=true<;>simp[h]
def keeps:Op->Bool
 |.move _ | .assign _ | .pick .. | .load .. | .nilCheck _ | .binOp .. | .unOp .. | .convert .. | .fieldAddr .. | .field .. | .indexAddr .. | .index .. | .extract ..=>true
 |.call { callee:=.builtin .len,.. } | .call { callee:=.builtin .min,.. } | .call { callee:=.builtin .max,.. }=>true
 |_=>false
theorem Zq {P:Program}{env:Env}{regs:D1}{d:Nat}{o:Op}{out:Out}(hk:keeps o=true)(h:aop P env regs d o=some out):out.regs=regs:=by unfold keeps at hk;split at hk<;>first|(cases hk;done)|(simp only[aop]at h;(repeat' split at h)<;>first|(cases h;rfl)|cases h)
theorem Pr {o:Op}(hk:keeps o=true):AC2 o=true:=by unfold keeps at hk;split at hk<;>first|cases hk;done|rfl
def Aw6:List Prop->List Prop
 |[]=>[]
 |c=>[E1 c]
def bgo (P:Program)(regs:D1)(o:Oper)(last:Bool)(rec:List Prop->Env->Option (BT×List Prop))(c:List Prop)(env:Env)(runs:Bool):Option (BT×List Prop):=match runs with
 |true=>match keeps o.op,o.dst with
  |true,some d=>match aop P env regs d o.op with
   |some ⟨p,v,_⟩=>match last with
    |true=>match Lu v with
     |some b=>some (.l b,Aw6 (p++c))
     |none=>none
    |false=>fA v fun v=>Ae6 d v env fun env=>rec (p++c) env
   |none=>none
  |_,_=>none
 |false=>match last,o.dst with
  |false,some d=>Ae6 d Bl env fun env=>rec c env
  |_,_=>none
def bev (P:Program)(all:List Oper)(regs:D1):List Oper->List Prop->Env->Option (BT×List Prop)
 |[],_,_=>none
 |o::rest,c,env=>
  match o.guard with
  |none=>bgo P regs o rest.isEmpty (fun c env=>bev P all regs rest c env) c env true
  |some (j,want)=>match get env (DR all j)with
   |.p (.v (.bool b))=>bgo P regs o rest.isEmpty (fun c env=>bev P all regs rest c env) c env (b==want)
   |.p (.v (.tuple _))=>bgo P regs o rest.isEmpty (fun c env=>bev P all regs rest c env) c env false
   |.p (.bb b)=>match Ae6 (DR all j) (.p (.v (.bool true))) env fun env=>bgo P regs o rest.isEmpty (fun c env=>bev P all regs rest c env) [] env want,
    Ae6 (DR all j) (.p (.v (.bool false))) env fun env=>bgo P regs o rest.isEmpty (fun c env=>bev P all regs rest c env) [] env !want with
    |some (t,ct),some (f,cf)=>some (.n b t f,Aw6 c++(ct.map (fun p=>b=true->p)++cf.map (fun p=>b=false->p)))
    |_,_=>none
   |_=>none
def Ad0 (l:List Oper):List Nat:=l.filterMap (·.dst)
def AK2 (ks:List Nat)(env:Env):Env:=env.filter fun q=>!ks.contains q.1
theorem XV (ks:List Nat)(env:Env)(x:Nat):get (AK2 ks env) x=if x∈ks then .top else get env x:=by
 induction env with
 |nil=>simp[AK2,get]
 |cons q r ih=>
  obtain⟨i,a⟩:=q;simp only[AK2,List.filter_cons];by_cases hi:i∈ks
  ·rw[if_neg (by simpa using hi)]
   have:=ih
   simp only[AK2]at this;rw[this];by_cases hx:x∈ks
   ·simp[hx]
   ·have:i≠x:=fun e=>hx (e ▸ hi)
    simp[hx,get,this]
  ·rw[if_pos (by simpa using hi)];simp only[get]
   have:=ih
   simp only[AK2]at this;rw[this];by_cases hx:i=x
   ·subst hx;simp[hi]
   ·simp[hx]
def Vw:List Oper->Option Nat
 |[]=>none
 |[o]=>o.dst
 |_::r=>Vw r
section
variable {S:Bd}{P:Program}
theorem Ps {c:List Prop}(h:∀p∈Aw6 c,p):E1 c:=by
 cases c with
 |nil=>trivial
 |cons p r=>exact h _ (by simp[Aw6])
theorem AU6 (hS:G6 S P){all:List Oper}{regs:D1}{Q:J6}{post:List Oper}{envF:Env}{V:Bool}{d:Nat}(hQ:∀s,S.up s (GM S P all post Q)->GM S P all post Q s)(hV:get envF d=.p (.bb V))
 (hw:GM S P all post Q ⟨envF,regs⟩) :
 ∀(L:List Oper) (c:List Prop) (env:Env) (T:BT) (C:List Prop),bev P all regs L c env=some (T,C)->(∀p∈C,p)->T.ev=V->Vw L=some d ->
  (∀x,x≠d->Qv (get envF x) (get env x) \/ (x∈Ad0 L/\get envF x=.top))->(∀x∈Ad0 L,x≠d->get envF x=.top)->E1 c/\GM S P all (L++post) Q ⟨env,regs⟩:=by
 intro L
 induction L with
 |nil=>intro c env T C h;cases h
 |cons o rest ih=>
  intro c env T C h hC hT hd hl ht;simp only[bev,HC]at h;have key:∀(c:List Prop) (env:Env) (runs:Bool) (T:BT) (C:List Prop),bgo P regs o rest.isEmpty (fun c env=>bev P all regs rest c env) c env runs=some (T,C)->(∀p∈C,p)->T.ev=V ->
   (∀x,x≠d->Qv (get envF x) (get env x) \/ (x∈Ad0 (o::rest)/\get envF x=.top)) ->
   E1 c/\(if runs then wOp S P o (GM S P all (rest++post) Q) Q ⟨env,regs⟩else GM S P all (rest++post) Q (put ⟨env,regs⟩ o.dst Bl)):=by
   intro c env runs T C h hC hT hl;have hlast:rest.isEmpty=false->Vw rest=some d:=by
    intro hr;cases rest with
    |nil=>cases hr
    |cons a r=>simpa[Vw]using hd
   have hds:∀{d'},o.dst=some d' -> Ad0 (o::rest)=d' :: Ad0 rest:=fun ho=>by simp[Ad0,ho]
   have hnext:∀d' (v:AV),o.dst=some d' -> ∀x,x≠d->Qv (get envF x) (get (ins d' v env) x) \/ (x∈Ad0 rest/\get envF x=.top):=by
    intro d' v ho x hx;rw[CJ];by_cases hx2:d' = x
    ·subst hx2;exact .inl (.inl (ht _ (by rw[hds ho];exact Bh1 ..) hx))
    ·rw[if_neg hx2];rcases hl x hx with h|⟨h1,h2⟩
     ·exact .inl h
     ·exact .inl (.inl h2)
   cases runs with
   |true=>
    simp only[bgo,YK,HC,if_true]at h⊢;split at h
    ·rename_i d' hk ho;split at h
     ·rename_i p v regs' ha;have hr:regs' = regs:=Zq hk ha;subst hr;have ha' : aop P env regs' (o.dst.getD 0) o.op=some ⟨p,v,regs'⟩:=by rw[ho];exact ha
      split at h
      ·rename_i hre;split at h
       ·rename_i b hb;cases h;have hcp:=Ps hC;obtain⟨hc,hp⟩:=(CZ _ _).1 hcp;refine⟨hc,Lf (Pr hk) ha' hp ?_⟩;obtain rfl:rest=[]:=List.isEmpty_iff.1 hre;simp only[Vw]at hd;have e:d' = d:=by rw[ho]at hd;exact Bg1 hd
        subst e;refine hQ _ (hS.less _ ⟨envF,regs'⟩ _ (fun x=>?_) (fun _=>by rw[ho];rfl) (by simpa using hw));rw[ho];show Qv (get envF x) (get (ins d' v env) x);rw[CJ];by_cases hx:d' = x
        ·subst hx;rw[if_pos rfl,hV];have hT:b=V:=hT;subst hT;unfold Lu at hb;split at hb
         ·cases hb;exact .inr (.inr ⟨_,rfl,rfl⟩)
         ·cases hb;exact .inr (.inl rfl)
         ·cases hb
        ·rw[if_neg hx];rcases hl x (fun e=>hx e.symm)with h|⟨_,h⟩
         ·exact h
         ·exact .inl h
       ·cases h
      ·rename_i hre;have hn:∀x,x≠d->Qv (get envF x) (get (ins d' v env) x) \/ (x∈Ad0 rest/\get envF x=.top):=hnext d' v ho;obtain⟨hcp,hk2⟩:=ih _ _ _ _ h hC hT (hlast (by simpa using hre)) hn (fun x hx=>ht x (by rw[hds ho];exact Bb2 _ hx));obtain⟨hc,hp⟩:=(CZ _ _).1 hcp;exact⟨hc,Lf (Pr hk) ha' hp (by rw[ho];exact hk2)⟩
     ·cases h
    ·cases h
   |false=>
    simp only[bgo,HC,AZ2,if_false]at h⊢;split at h
    ·rename_i d' hre ho;have hn:∀x,x≠d->Qv (get envF x) (get (ins d' Bl env) x) \/ (x∈Ad0 rest/\get envF x=.top):=hnext d' _ ho;obtain⟨hc,hk2⟩:=ih _ _ _ _ h hC hT (hlast (by simpa using hre)) hn (fun x hx=>ht x (by rw[hds ho];exact Bb2 _ hx));exact⟨hc,by rw[ho];exact hk2⟩
    ·cases h
  simp only[Bc3,GM];cases hg:o.guard with
  |none=>simp only[hg]at h;obtain⟨hc,hk⟩:=key _ _ _ _ _ h hC hT hl;exact⟨hc,hS.refl _ _ (by simpa[hg]using hk)⟩
  |some q=>
   obtain⟨j,want⟩:=q;simp only[hg]at h;split at h
   ·rename_i b hb;obtain⟨hc,hk⟩:=key _ _ _ _ _ h hC hT hl;refine⟨hc,hS.refl _ _ ⟨some b,by rw[hb];rfl,?_⟩⟩;have e:(some b=some want)↔(b==want)=true:=by simp
    by_cases hbw:(b==want)=true
    ·rw[if_pos (e.2 hbw)];simpa[hbw]using hk
    ·rw[if_neg (fun x=>hbw (e.1 x))];simpa[hbw]using hk
   ·rename_i tt hb;obtain⟨hc,hk⟩:=key _ _ _ _ _ h hC hT hl;refine⟨hc,hS.refl _ _ ⟨none,by rw[hb];rfl,?_⟩⟩;rw[if_neg (by simp)];simpa using hk
   ·rename_i b hb;split at h
    ·rename_i t ct f cf h1 h2;cases h;have hc:E1 c:=Ps fun p hp=>hC p (Ba8 _ hp);refine⟨hc,hS.bool _ _ b _ hb ?_⟩;have hl2:∀x,x≠d->Qv (get envF x) (get (ins (DR all j) (.p (.v (.bool b))) env) x) \/ (x∈Ad0 (o::rest)/\get envF x=.top):=by
      intro x hx;rw[CJ];by_cases hx2:DR all j=x
      ·subst hx2;rw[if_pos rfl];rcases hl _ hx with h|h
       ·rw[hb]at h;rcases h with h|h|⟨y,h1,h2⟩
        ·exact .inl (.inl h)
        ·exact .inl (.inr (.inr ⟨b,h,rfl⟩))
        ·cases h2
       ·exact .inr h
      ·rw[if_neg hx2];exact hl x hx
     cases b with
     |true=>
      obtain⟨_,hk⟩:=key _ _ _ _ _ h1 (fun p hp=>hC (true=true->p) (AZ7 _ (Ba8 _ (Bh0.2 ⟨p,hp,rfl⟩))) rfl) hT hl2;refine⟨some true,by show yv (get (ins _ _ _) _)=_;rw[CJ,if_pos rfl];rfl,?_⟩;cases want with
      |true=>simpa using hk
      |false=>simpa using hk
     |false=>
      obtain⟨_,hk⟩:=key _ _ _ _ _ h2 (fun p hp=>hC (false=false->p) (AZ7 _ (AZ7 _ (Bh0.2 ⟨p,hp,rfl⟩))) rfl) hT hl2;refine⟨some false,by show yv (get (ins _ _ _) _)=_;rw[CJ,if_pos rfl];rfl,?_⟩;cases want with
      |true=>simpa using hk
      |false=>simpa using hk
    ·cases h
   ·cases h
end
def AK3 (P:Program)(m:Nat):Cfg->Option (BT×List Prop)
 |.ops all rest K st=>bev P all st.regs (rest.take m) [] st.env
 |_=>none
def AU7 (m:Nat)(b:Bool):Cfg->Cfg
 |.ops all rest K st=>match Vw (rest.take m)with
  |some d=>mkO (ins d (.p (.bb b)) (AK2 (Ad0 (rest.take m)) st.env)) st.regs fun env regs=>.ops all (rest.drop m) K ⟨env,regs⟩
  |none=>.ops all rest K st
 |g=>g
def AU8 (m:Nat):Cfg->Bool
 |.ops all rest K st=>(Vw (rest.take m)).isSome
 |_=>false
def AU9:List Prop->Prop
 |[]=>True
 |p::r=>r.foldl And p
theorem Aw7 {l:List Prop}(h:AU9 l):∀p∈l,p:=by
 have:∀(r:List Prop) (p:Prop),r.foldl And p->p/\∀q∈r,q:=by
  intro r
  induction r with
  |nil=>intro p h;exact⟨h,fun q hq=>by cases hq⟩
  |cons a r ih=>intro p h;obtain⟨⟨h1,h2⟩,h3⟩:=ih _ h;exact⟨h1,fun q hq=>by rcases Bc6.1 hq with rfl|hq;exact h2;exact h3 q hq⟩
 cases l with
 |nil=>intro p hp;cases hp
 |cons a r=>obtain⟨h1,h2⟩:=this _ _ h;exact fun q hq=>by rcases Bc6.1 hq with rfl|hq;exact h1;exact h2 q hq
section
variable {S:Bd}{P:Program}{F:J6}{g:Cfg}{pr pc:Prop}
theorem kB (hS:G6 S P)(hF:∀s,S.up s (F .normal)->F .normal s)(hc:pr)(hcc:pc)(m:Nat)(E:BE)(hk:KG S P F (AU7 m E.den (stp P g)))
 (hp:pr=E1 (cnd P g):=by kernel_rfl) (hT:(AK3 P m (stp P g)).map (·.1)=some E.top:=by kernel_rfl) (hC:(AK3 P m (stp P g)).map (fun x=>AU9 x.2)=some pc:=by kernel_rfl) (hD:AU8 m (stp P g)=true:=by kernel_rfl):KG S P F g:=by
 refine⟨Fm hS hc ?_ hp⟩;have hk:=hk.out;generalize stp P g=g' at hk hT hC hD;unfold AK3 at hT hC;split at hT
 ·rename_i all rest K st;simp only[AU8,Ba2]at hD;obtain⟨d,hd⟩:=hD;simp only[AU7,hd,FL]at hk;cases hb:bev P all st.regs (rest.take m) [] st.env with
  |none=>rw[hb]at hT;cases hT
  |some q=>
   obtain⟨T,C⟩:=q;simp only[hb]at hT hC;simp only[AZ6,AY6]at hT hC;subst hT
   have:=(AU6 hS (Q:=kp S P K F) (post:=rest.drop m) (envF:=ins d (.p (.bb E.den)) (AK2 (Ad0 (rest.take m)) st.env)) (V:=E.den) (d:=d) ?_ (by rw[CJ,if_pos rfl]) hk (rest.take m) [] st.env E.top C hb
    (Aw7 (hC ▸ hcc)) E.top_ev hd (fun x hx=>?_) (fun x hx hxd=>?_)).2
   ·rwa [Bj1]at this
   ·intro s h;cases hr:rest.drop m with
    |nil=>rw[hr]at h;exact Au9 hS hF K s h
    |cons o r=>rw[hr]at h;exact hS.trans _ _ h
   ·rw[CJ,if_neg (fun e=>hx e.symm),XV];split
    ·exact .inl (.inl rfl)
    ·exact .inl (.inr (.inl rfl))
   ·rw[CJ,if_neg (fun e=>hxd e.symm),XV,if_pos hx]
 ·cases hT
end
end Go.AM
namespace Go.AM
def famC (op:YJ):Cfg->List Prop
 |.ops _ _ _ st=>match AN op st with
  |some (c,_)=>c
  |none=>[False]
 |_=>[False]
def famG (op:YJ):Cfg->Cfg
 |.ops all rest K st=>match AN op st with
  |some (_,st)=>mkO st.env st.regs fun env regs=>.ops all rest K ⟨env,regs⟩
  |none=>.ops all rest K st
 |g=>g
section
variable {S:Bd}{P:Program}{F:J6}{g:Cfg}{pr pc:Prop}
theorem XW (hS:G6 S P)(hc:pr)(d:Nat)(op:YJ)(hcc:pc)(hk:KG S P F (famG op (KM P d g)))(hp:pr=E1 (AX5 P d g):=by kernel_rfl)(ho:JB (KM P d g)=true:=by kernel_rfl)
 (hpc:pc=E1 (famC op (KM P d g)):=by kernel_rfl):KG S P F g:=by
 refine⟨(Jo (u:=some d) (F:=F) hS 400 [] g (by subst hp;exact hc)).2 ?_⟩;have hk:=hk.out;show G S P F (KM P d g);generalize KM P d g=g' at ho hpc hk;unfold JB at ho;split at ho
 ·rename_i all o rest K st;simp only[famC]at hpc;simp only[famG]at hk;cases he:AN op st with
  |none=>rw[he]at hpc;subst hpc;exact hcc.elim
  |some q=>obtain⟨c,st'⟩:=q;simp only[he,FL]at hk hpc;subst hpc;exact YL hS (hS.fam op _ _ c _ he hcc hk)
 ·cases ho
end
end Go.AM
namespace Go.AM
theorem Te {P:Program}{f:FuncId}{vw:Bool}{args:List PV}{e:TypeId}{k n:Nat}{g:Nat->List PV}(hent:∀as w,(callFunc f as).run P w=.ok (.enter f as) w)(hk:∀i,i<n->(g i).length=k)
 (h:∀(w:World) (Pi:Nat->Nat->Prop) (vs:Array Value),(∀b off,Pi b off->b<w.heap.size)->vs.size=args.length->(∀i,i<args.length->RepP w Pi (vs.getD i undef) (args.getD i default)) ->
  Calls P f vs w fun x w'=>∃v,x=.returned v/\RowKit.Below w.heap.size w w' /\ ((v=.slice none 0 0/\n=0) \/ ∃b cap c,v=.slice (some ⟨b,0,none⟩) n cap/\w.heap.size<=b/\w'.heap[b]? = some (.cells c e (0,0))/\n<=cap/\c.size=cap*k/\cap<=maxLen /\
   ∀i j,i<n->j<k->RepP w Pi (c.getD (i*k+j) undef) ((g i).getD j default)/\(c.getD (i*k+j) undef).oneCell' = true)):FunO (GQ P) f (args.map .p) [] (.vec 0) [.vec e k n g vw] []:=by
 intro 𝒢 C w vs rho hG hs hsz;have hno0:∀j,A2 (objRegs []) j=none:=fun j=>by simp[objRegs,objRegs.go,A2]
 have h0:=h w (Prv C.X (A2 (objRegs [])) rho) vs (fun b off hp=>by
  rcases hp with hp|⟨j,o,hj,_⟩
  ·exact hs.hp.bound b off hp
  ·simp[hno0]at hj) (by simpa using hsz) (fun i hi=>by
  have:=hs.env i
  rw[AZ]at this;have e:(args.map AV.p).getD i .top=.p (args.getD i default):=by simp[hi]
  rw[e]at this;exact this.toP)
 refine⟨_,_,hent _ _,callsIn_wide.2 (h0.mono ?_)⟩;rintro x w' ⟨v,rfl,hb,hv⟩;have hR:∀j o,A2 (objRegs [Obj.vec e k n g vw]) j=some o->j=0/\o=.vec e k n g vw:=fun j o hj=>by
  simp only[objRegs,objRegs.go,A2]at hj;split at hj
  ·rename_i hj0;cases hj;exact⟨hj0.symm,rfl⟩
  ·cases hj
 have hR0:A2 (objRegs [Obj.vec e k n g vw]) 0=some (.vec e k n g vw):=rfl
 let rho' : Nat->Value:=fun j=>if j=0 then v else rho j
 have hr0:rho' 0=v:=rfl;have hblk:∀b,F4 v (.vec e k n g vw) b->w.heap.size<=b/\b<w'.heap.size:=by
  intro b hbv;rcases hv with⟨rfl,_⟩ | ⟨b',cap,c,rfl,h1,h2,_⟩
  ·cases hbv
  ·cases hbv;exact⟨h1,(AZ3.1 h2).1⟩
 have hprv:∀b o,Prv C.X (A2 (objRegs [Obj.vec e k n g vw])) rho' b o->C.X b o \/ w.heap.size<=b:=by
  rintro b o (hX|⟨j,o',hj,hbo,_⟩)
  ·exact .inl hX
  ·obtain⟨rfl,rfl⟩:=hR j o' hj;exact .inr (hblk b hbo).1
 have hkeep:Keeps w (Prv C.X (A2 (objRegs [])) rho) w' (Prv C.X (A2 (objRegs [Obj.vec e k n g vw])) rho'):=fun b o u hp hc=>by
  have hlt:=Bf9 w ⟨b,o,none⟩ hc;refine⟨by rw[<- hc];exact Bc7 (hb.block b hlt),fun hpp=>?_⟩;rcases hprv b o hpp with hX|hge
  ·exact hp (.inl hX)
  ·have:b<w.heap.size:=hlt
   omega
 refine⟨C,.ret (.vec 0),[.vec e k n g vw],[],rho',hG,⟨rfl,rfl,rfl⟩,?_,⟨v,rfl,?_⟩,fun i hi=>by simp at hi⟩
 ·refine⟨⟨fun j o hj=>?_,fun i j oi oj b hi hj _ _=>by rw[(hR i oi hi).1,(hR j oj hj).1],fun j o b off hj hbo hX=>?_,fun b off hp=>Ba6 (hs.hp.bound b off hp) hb.size⟩,hs.ext.trans ⟨hb.os,hb.output⟩,Bd3 hs.size hb.size,fun b hlt hE=>?_,hs.keep.trans hkeep,fun b hbo=>?_,fun j r b hj=>by cases (hR j _ hj).2⟩
  ·obtain⟨rfl,rfl⟩:=hR j o hj;rw[hr0];rcases hv with hn|⟨b,cap,c,rfl,h1,h2,h3,h4,h5,h6⟩
   ·exact .inl hn
   ·exact .inr ⟨b,cap,c,rfl,h2,h3,h4,h5,hk,fun i j hi hj=>⟨(h6 i j hi hj).1.keeps hkeep,(h6 i j hi hj).2⟩⟩
  ·obtain⟨rfl,rfl⟩:=hR j o hj;have h1:=(hblk b hbo).1;have h2:=hs.hp.bound b off hX;omega
  ·rw[hb.block b (Ba6 hlt hs.size)];exact hs.same b hlt hE
  ·obtain⟨j,o,hj,hbo⟩:=hbo;obtain⟨rfl,rfl⟩:=hR j o hj;exact .inr (Bd3 hs.size (hblk b hbo).1)
 ·rcases hv with⟨rfl,_⟩ | ⟨b,cap,c,rfl,_⟩
  ·exact .vec 0 none 0 0 (by simp[Lv,hR0]) rfl
  ·exact .vec 0 _ n cap (by simp[Lv,hR0]) rfl
end Go.AM
namespace Go.AM
open Go.RowKit Go.ChangeShapes
end Go.AM
namespace Go.AM
section
variable {S:Bd}{P:Program}{F:J6}{K:List It}{st:St}{g:Cfg}{pr:Prop}
def AK4 (p:Option PV)(r:Lt):Prop:=match p with
 |none=>∃a,r=.ret a
 |some x=>r=.panic x
def Md (S:Bd)(f:FuncId)(first caps:List AV)(objs:List Obj)(L:List (List PV))(p:Option PV):Prop:=
 S.F f (first ++ .yf objs.length::caps) (objs++[.yld L true]) fun r objs' ks=>∃b,objs'[objs.length]? = some (.yld [] b)/\ks[objs.length]? = some true/\(b=true->AK4 p r)/\(b=false->∃a,r=.ret a)
def endP:Option PV->Ls
 |none=>.normal
 |some x=>.panic x
theorem Aw8 (hS:G6 S P){g:Operand}{ps:Array Tmp}{asg body:Code}{f:FuncId}{first caps as bs:List AV}{objs:List Obj}(ids ts:List Nat)(gh:Nat)(L:List (List PV)){p:Option PV}{X:Type}(s:X->St)(J:List (List PV)->X->Prop)(x0:X)(idl:List (Nat×Nat))
 (hp:DQ st.env g=some (f,first,caps)) (hfn:∃fn,P.funcs[f]? = some fn/\fn.body.isSome=true/\(fn.name == "runtime.NumGoroutine")=false) (hob:J7 ids st.regs ids=some objs) (hny:Eh objs=true) (hd:G2 ids=true) (hr1:CO ids first=some as) (hr2:CO ids caps=some bs) (hol:objs.length=ids.length)
 (hgh:gh<1000) (hng:A2 st.regs gh=none) (hil:ids.length<1000) (hts:G2 ts=true) (hlen:∀ys∈L,ys.length=ps.size)
 (hF:Md S f as bs objs L p) (hle:Le idl ⟨V7 ts (ts.map (get st.env)),O5 ids (ids.map fun _=>false) st.regs⟩ (s x0)) (h0:J L x0) (hk:∀x,(s x).env.map (·.1)=ts) (hn:∀x,A2 (s x).regs gh=none)
 (hround:∀ys rest x,J (ys::rest) x->G S P (Bo S P body gh ts (Au6 s J rest) (kp S P K F)) (.code asg [] ⟨HZ ps.toList ys (s x).env,ins gh (.ghost ((s x).env.map (·.2))) (s x).regs⟩))
 (hend:∀x,J [] x->G S P F (.pop (endP p) K (s x))):G S P F (.code (.rangeFunc g ps asg body) K st):=by
 have hdup:∀{l:List Nat},G2 l=true->l.Nodup:=by
  intro l
  induction l with
  |nil=>intro _;exact Bh4
  |cons a r ih=>intro h;simp only[G2,AY9,Ba9,Bb8,decide_eq_false_iff_not]at h;exact Bd8.2 ⟨h.1,ih h.2⟩
 refine⟨f,first,caps,as,bs,objs,ids,ts,gh,L,Au6 s J,fun b r=>b=true->AK4 p r,hp,hfn,hny,hd,hr1,hr2,hob,hgh,hng,hil,hdup hts,hlen,hS.le idl _ _ _ hle ⟨hk x0,hn x0,x0,rfl,h0⟩,?_,?_,?_⟩
 ·rintro ys rest _ _ _ ⟨x,rfl,hJ⟩;have h:=hround ys rest x hJ;have e:Bo S P body gh ts (Au6 s J rest) (kp S P K F)=fun e s'=>match e with
   |.normal=>S.up s' fun s'=>awp S P body (DS S gh ts (Au6 s J rest) (kp S P K F)) s'
   |_=>False:=by funext e s';cases e<;>rfl
  rw[e]at h;exact h
 ·rintro _ r _ _ ⟨x,rfl,hJ⟩ hf;have h1:=hf rfl;have h2:=hend x hJ;cases p with
  |none=>obtain⟨a,rfl⟩:=h1;exact h2
  |some y=>cases h1;exact h2
 ·rw[<- hol];refine hS.monoF _ _ _ _ _ ?_ hF;rintro r o ks ⟨b,h1,h2,h3,h4⟩;exact⟨b,h1,h2,h3,h4⟩
theorem Aw9 (hS:G6 S P){g:Operand}{ps:Array Tmp}{asg body:Code}{f:FuncId}{first caps as bs:List AV}{objs:List Obj}{R T A:Type}{enc:T->List PV}{L:List T}{p:Option PV}{mb:(A->Option R)->T->A->Option R}{mk:A->Option R}{a0:A}{r:R}
 (ids ts:List Nat) (gh:Nat) (s:A->St) (idl:List (Nat×Nat)) (h:P4 L mb mk a0=some r) (hF:Md S f as bs objs (L.map enc) p)
 (hp:DQ st.env g=some (f,first,caps)) (hfn:∃fn,P.funcs[f]? = some fn/\fn.body.isSome=true/\(fn.name == "runtime.NumGoroutine")=false) (hob:J7 ids st.regs ids=some objs) (hny:Eh objs=true) (hd:G2 ids=true) (hr1:CO ids first=some as) (hr2:CO ids caps=some bs) (hol:objs.length=ids.length)
 (hgh:Nat.blt gh 1000=true) (hng:A2 st.regs gh=none) (hil:Nat.blt ids.length 1000=true) (hts:G2 ts=true) (hlen:∀t:T,(enc t).length=ps.size)
 (hle:Le idl ⟨V7 ts (ts.map (get st.env)),O5 ids (ids.map fun _=>false) st.regs⟩ (s a0)) (hk:∀a,(s a).env.map (·.1)=ts) (hn:∀a,A2 (s a).regs gh=none)
 (hround:∀(t:T) (next:St->Prop) (self:A->Option R) (a:A),(∀(st st1:St) (cs:List AV) (idl:List (Nat×Nat)) (a:A),Le idl st st1->A2 st1.regs gh=some (.ghost cs)->cs.length=ts.length->A2 (del gh st1.regs) gh=none->(⟨V7 ts cs,del gh st1.regs⟩:St)=s a->self a=some r->G S P (DS S gh ts next (kp S P K F)) (.pop .normal [] st)) ->
  mb self t a=some r->G S P (Bo S P body gh ts next (kp S P K F)) (.code asg [] ⟨HZ ps.toList (enc t) (s a).env,ins gh (.ghost ((s a).env.map (·.2))) (s a).regs⟩))
 (hend:∀a,mk a=some r->G S P F (.pop (endP p) K (s a))):G S P F (.code (.rangeFunc g ps asg body) K st):=by
 refine Aw8 hS ids ts gh (L.map enc) s (fun rest a=>∃L',rest=L'.map enc/\P4 L' mb mk a=some r) a0 idl hp hfn hob hny hd hr1 hr2 hol (by simpa[Bh8]using hgh) hng (by simpa[Bh8]using hil) hts (fun ys hy=>?_) hF hle ⟨L,rfl,h⟩ hk hn ?_ ?_
 ·obtain⟨t,_,rfl⟩:=Bh0.1 hy;exact hlen t
 ·rintro ys rest a ⟨L',hL,hx⟩;cases L' with
  |nil=>cases hL
  |cons t L'=>simp only[Bb4,Bg2]at hL;obtain⟨rfl,rfl⟩:=hL;refine hround t _ (P4 L' mb mk) a (fun st st1 cs idl a hle h1 h2 h3 h4 h5=>?_) hx;exact Vo hS st1 a idl hle h1 h2 h3 h4 ⟨L',rfl,h5⟩
 ·rintro a ⟨L',hL,hx⟩;cases L' with
  |nil=>exact hend a hx
  |cons t L'=>cases hL
theorem XX (hS:G6 S P)(hc:pr){f:FuncId}{as bs:List AV}{objs:List Obj}{R T A:Type}{enc:T->List PV}{L:List T}{p:Option PV}{mb:(A->Option R)->T->A->Option R}{mk:A->Option R}{a0:A}{r:R}
 (ids ts:List Nat) (gh:Nat) (s:A->St) {idl:List (Nat×Nat)}(h:P4 L mb mk a0=some r) (hF:Md S f as bs objs (L.map enc) p)
 (hlen:∀t:T,(enc t).length=(GY (stp P g)).size) (hk:∀a,(s a).env.map (·.1)=ts) (hn:∀a,A2 (s a).regs gh=none) (hb0:∀a,(⟨V7 ts ((s a).env.map (·.2)),del gh (ins gh (.ghost ((s a).env.map (·.2))) (s a).regs)⟩:St)=s a)
 (hround:∀(t:T) (next:St->Prop) (self:A->Option R) (a:A),
  (∀(g' : Cfg) (ids:List (Nat×Nat)) (pr:Prop) (a:A),pr->self a=some r->(hp:pr=E1 (cnd P g'):=by kernel_rfl)->(he:stp P g' = .pop .normal [] (stp P g').st:=by kernel_rfl)->(hle:KLe ids (stp P g').st (rst gh (s a)):=by exact kl)->KG S P (DS S gh ts next (kp S P (stp P g).k F)) g') ->
  mb self t a=some r->KG S P (Bo S P (Tb (stp P g)) gh ts next (kp S P (stp P g).k F)) (.code (SZ (stp P g)) [] (Td gh (GY (stp P g)) (enc t) (s a))))
 (hend:∀a,mk a=some r->KG S P F (.pop (endP p) (stp P g).k (s a)))
 (hp:pr=E1 (cnd P g):=by kernel_rfl) (he:SY P ids (stp P g)=some (f,as,bs,objs):=by kernel_rfl) (hgh:Nat.blt gh 1000=true:=by kernel_rfl) (hng:A2 (stp P g).st.regs gh=none:=by kernel_rfl) (hts:G2 ts=true:=by kernel_rfl)
 (hle:KLe idl (Tc ids ts (stp P g)) (s a0):=by exact kl):KG S P F g:=by
 refine⟨Fm hS hc ?_ hp⟩;have hfn:=(GC he).2;replace he:=(GC he).1;generalize stp P g=g1 at hlen hround hend he hng hle;unfold Mb at he;split at he
 ·rename_i op ps asg body K st;split at he
  ·rename_i f' first caps hpo
   split at he
   ·rename_i objs' as' bs' h2 h3 h4;split at he
    ·rename_i hh;simp only[AY6,Bb1]at he;obtain⟨rfl,rfl,rfl,rfl⟩:=he;simp only[AY9,Ba9,beq_iff_eq]at hh;obtain⟨⟨⟨e3,e4⟩,e5⟩,e6⟩:=hh;refine Aw9 hS ids ts gh s idl h hF hpo hfn h2 e3 e4 h3 h4 e5 hgh hng e6 hts hlen hle.out hk hn (fun t next self a hb hm=>?_) (fun a hm=>(hend a hm).out);refine (hround t next self a (fun g' ids' pr a hc hself hp he hle=>⟨Fm hS hc ?_ hp⟩) hm).out;rw[he];have hl:((s a).env.map (·.2)).length=ts.length:=by rw[<- hk a];simp
     refine hb _ (rst gh (s a)) ((s a).env.map fun p=>p.2) ids' a hle.out (FN gh (s a)) hl ?_ (hb0 a) hself
     have:=congrArg St.regs (hb0 a)
     simp only at this;show A2 (del gh (ins gh _ _)) gh=none;rw[this];exact hn a
    ·cases he
   ·cases he
  ·cases he
 ·cases he
theorem Ai8 (hS:G6 S P){f:FuncId}{fn:Func}{first caps:List AV}{objs:List Obj}{L:List (List PV)}{p:Option PV}(hf:P.funcs[f]? = some fn)
 (h:KG S P (Cj S P (objs++[Obj.yld L true]).length fn.results.toList fun r objs' ks=>∃b,objs'[objs.length]? = some (.yld [] b)/\ks[objs.length]? = some true/\(b=true->AK4 p r)/\(b=false->∃a,r=.ret a)) (.code (fn.body.getD .skip) [] { env:=argEnv (first ++ .yf objs.length::caps),regs:=objRegs (objs++[Obj.yld L true]) }))
 (hc:fn.body.isSome=true:=by kernel_rfl) (hn:Nat.ble (first ++ .yf objs.length::caps).length fn.ntmps=true:=by kernel_rfl) (ho:Nat.blt (objs++[Obj.yld L true]).length 1000=true:=by kernel_rfl)
 (hco:Aj fn.ntmps (fn.body.getD .skip)=true:=by kernel_rfl) (hnm:(fn.name == "runtime.NumGoroutine")=false:=by kernel_rfl):Md S f first caps objs L p:=by
 obtain⟨code,hcode⟩:=Ba2.1 hc;rw[hcode,AZ4]at hco h;exact Jy hS hf hcode (Be9 hn) (by simpa[Bh8]using ho) rfl hco hnm h.out
theorem Ax0 (hS:G6 S P){f:FuncId}{fn:Func}{args:List AV}{objs:List Obj}{Q:Lt->List Obj->List Bool->Prop}(hf:P.funcs[f]? = some fn)
 (h:KG S P (Cj S P objs.length fn.results.toList Q) (.code (fn.body.getD .skip) [] { env:=argEnv args,regs:=objRegs objs }))
 (hc:fn.body.isSome=true:=by kernel_rfl) (hn:Nat.ble args.length fn.ntmps=true:=by kernel_rfl) (ho:Nat.blt objs.length 1000=true:=by kernel_rfl)
 (hco:Aj fn.ntmps (fn.body.getD .skip)=true:=by kernel_rfl) (hnm:(fn.name == "runtime.NumGoroutine")=false:=by kernel_rfl):S.F f args objs Q:=by
 obtain⟨code,hcode⟩:=Ba2.1 hc;rw[hcode,AZ4]at hco h;exact Jy hS hf hcode (Be9 hn) (by simpa[Bh8]using ho) rfl hco hnm h.out
def panE:Cfg->Option PV
 |.ops all (o::_) _ st=>match CD all st.env o,o.op with
  |some true,.panic x=>match aev st.env x with
   |.p (.iface t y)=>some (.iface t y)
   |_=>none
  |_,_=>none
 |_=>none
def panC (x:PV):Cfg->Cfg
 |.ops _ _ K st=>.pop (.panic x) K st
 |g=>g
theorem AK5 (hS:G6 S P)(hc:pr){x:PV}(hk:KG S P F (panC x (stp P g)))(hp:pr=E1 (cnd P g):=by kernel_rfl)(he:panE (stp P g)=some x:=by kernel_rfl):KG S P F g:=by
 refine⟨Fm hS hc ?_ hp⟩;have hk:=hk.out;generalize stp P g=g1 at hk he;unfold panE at he;split at he
 ·rename_i all o rest K st;split at he
  ·rename_i y hg ho;split at he
   ·rename_i t z hx;cases he;exact AI4 hS hg ho hx hk
   ·cases he
  ·cases he
 ·cases he
def Ax1:Cfg->Option PV
 |.pop (.panic x) [] _=>some x
 |_=>none
theorem AD6 (hS:G6 S P)(hc:pr){n:Nat}{rs:List ResultVar}{Q:Lt->List Obj->List Bool->Prop}{x:PV}{objs:List Obj}(outs:List Nat)(hQ:Q (.panic x) objs (Fj n outs))(hp:pr=E1 (cnd P g):=by kernel_rfl)
 (he:Ax1 (stp P g)=some x:=by kernel_rfl) (hd:G2 outs=true:=by kernel_rfl) (hr:J7 outs (stp P g).st.regs outs=some objs:=by kernel_rfl):KG S P (Cj S P n rs Q) g:=by
 refine⟨Fm hS hc ?_ hp⟩;generalize stp P g=g1 at he hr;unfold Ax1 at he;split at he
 ·cases he;exact⟨outs,objs,hd,hr,hQ⟩
 ·cases he
theorem AV0 {k:Nat}{g:Nat->List PV}:AV.p (.v (.slice none 0 0))=.p (.sl false k 0 g) \/ ∃x y,AV.p (.v (.slice none 0 0))=.p x/\AV.p (.sl false k 0 g)=.p y/\leP x y:=
 .inr ⟨_,_,rfl,rfl,.inr (.inr (.inl ⟨_,_,rfl,rfl⟩))⟩
theorem AK6 (hS:G6 S P){all rest:List Oper}{o:Oper}{c:Call}{f:Operand}{as:List AV}{regs:D1}{fn:FuncId}{as' args:List AV}{objs objs' : List Obj}{ks:List Bool}{x:PV}(ids:List Nat)
 (hg:CD all st.env o=some true) (ho:o.op=.call c) (hf:c.callee=.value f) (ha:NJ st.regs (c.args.toList.map (aev st.env))=some (as,regs))
 (hw:UT st.env f as=some (fn,as')) (hr:CO ids as' = some args) (hob:J7 ids regs ids=some objs) (hF:S.F fn args objs fun res o k=>res=.panic x/\o=objs' /\ k=ks)
 (hd:G2 ids=true) (hy:Eh objs=true) (hn:CY regs ids ks (o.dst.getD 0) objs'.length=true)
 (hk:G S P F (.pop (.panic x) K { env:=st.env,regs:=Ac7 (O4 (o.dst.getD 0) ids ks objs'.length) (O4 (o.dst.getD 0) ids ks objs'.length) objs' (O5 ids ks regs) })) :
 G S P F (.ops all (o::rest) K st):=by
 refine Ei hS hg ?_;unfold wOp;obtain⟨callee,cargs,types⟩:=c;simp only at hf ha;subst hf;rw[ho];refine .inl ⟨as,regs,_,_,.inl ha,hw,ids,args,objs,hd,hr,hob,hy,hS.monoF _ _ _ _ _ ?_ hF⟩;rintro _ _ _ ⟨rfl,rfl,rfl⟩;exact⟨hn,hk⟩
def AD7 (ids:List Nat)(ks:List Bool)(x:PV)(objs' : List Obj):Cfg->Cfg
 |.ops all (o::rest) K st=>match o.op with
  |.call c=>match NJ st.regs (c.args.toList.map (aev st.env))with
   |some (_,regs)=>mkO st.env (Ac7 (O4 (o.dst.getD 0) ids ks objs'.length) (O4 (o.dst.getD 0) ids ks objs'.length) objs' (O5 ids ks regs)) fun env regs=>.pop (.panic x) K ⟨env,regs⟩
   |none=>.ops all (o::rest) K st
  |_=>.ops all (o::rest) K st
 |g=>g
theorem AK7 (hS:G6 S P)(ids:List Nat)(hc:pr){fn:FuncId}{args:List AV}{objs objs' : List Obj}{x:PV}{ks:List Bool}(hF:S.F fn args objs fun res o k=>res=.panic x/\o=objs' /\ k=ks)
 (hk:KG S P F (AD7 ids ks x objs' (stp P g))) (hp:pr=E1 (cnd P g):=by kernel_rfl) (he:Zm ids (stp P g)=some (fn,args,objs):=by kernel_rfl) (hn:Zn ids ks objs'.length (stp P g)=true:=by kernel_rfl):KG S P F g:=by
 refine⟨Fm hS hc ?_ hp⟩;replace hk:=hk.out;generalize stp P g=g' at he hn hk;unfold Zm at he;split at he
 ·split at he
  ·rename_i hg ho;split at he
   ·rename_i hcl;split at he
    ·rename_i ha;split at he
     ·rename_i hw;split at he
      ·rename_i hr hob;split at he
       ·rename_i hdy;cases he;simp only[AY9]at hdy;simp only[AD7,Zn,ho,ha,FL]at hk hn;exact AK6 hS ids hg ho hcl ha hw hr hob hF hdy.1 hdy.2 hn hk
       ·cases he
      ·cases he
     ·cases he
    ·cases he
   ·cases he
  ·cases he
 ·cases he
def Pt (S:Bd)(R:St->Prop)(X:PV->St->Prop):J6
 |.normal,st=>S.up st R
 |.panic x,st=>X x st
 |_,_=>False
theorem K_upN (hS:G6 S P)(hc:pr){R:St->Prop}{X:PV->St->Prop}(st:St){ids:List (Nat×Nat)}(hR:R st)(hp:pr=E1 (cnd P g):=by kernel_rfl)(he:stp P g=.pop .normal [] (stp P g).st:=by kernel_rfl)
 (hle:KLe ids (stp P g).st st:=by exact kl):KG S P (Pt S R X) g:=by
 refine⟨Fm hS hc ?_ hp⟩;rw[he];exact hS.le ids _ _ R hle.out hR
theorem K_upP (hS:G6 S P)(hc:pr){R:St->Prop}{X:PV->St->Prop}{x:PV}(hX:X x (stp P g).st)(hp:pr=E1 (cnd P g):=by kernel_rfl)(he:Ax1 (stp P g)=some x:=by kernel_rfl):KG S P (Pt S R X) g:=by
 refine⟨Fm hS hc ?_ hp⟩;generalize stp P g=g1 at he hX;unfold Ax1 at he;split at he
 ·cases he;exact hX
 ·cases he
end
end Go.AM
namespace Go.AM
section
variable {S:Bd}{P:Program}{F:J6}{K:List It}{g:Cfg}{pr:Prop}
theorem Vx (hS:G6 S P){all:List Oper}{o:Oper}{k k' : St->Prop}{Q Q' : J6}(hk:∀s,k s->k' s)(hq:∀x s,Q (.panic x) s->Q' (.panic x) s){st:St}(h:Fy S P all o k Q st):Fy S P all o k' Q' st:=by
 have e:∀st,wOp S P o k Q st->wOp S P o k' Q' st:=by
  intro st h;have hcall:∀d ids f args st,US S d ids f args st (GS o.dst k Q)->US S d ids f args st (GS o.dst k' Q'):=by
   rintro d ids f args st ⟨a,ob,h1,h2,h3,h4,h5⟩;refine⟨a,ob,h1,h2,h3,h4,hS.monoF _ _ _ _ _ (fun r o ks ⟨h6,h7⟩=>⟨h6,?_⟩) h5⟩;cases r with
   |ret a=>exact hk _ h7
   |panic x=>exact hq _ _ h7
  unfold wOp at h⊢;split at h
  ·rcases h with⟨as,regs,f',as',h1,h2,ids,h3⟩ | ⟨j,xs,regs,ys,rest,h1,h2,h3,h4,h5,h6⟩
   ·exact .inl ⟨as,regs,f',as',h1,h2,ids,hcall _ _ _ _ _ h3⟩
   ·exact .inr ⟨j,xs,regs,ys,rest,h1,h2,h3,h4,h5,fun b=>hk _ (h6 b)⟩
  ·obtain⟨as,regs,t,y,f',h1,h2,h3,ids,h4⟩:=h;exact⟨as,regs,t,y,f',h1,h2,h3,ids,hcall _ _ _ _ _ h4⟩
  ·obtain⟨t,y,h1,h2⟩:=h;exact⟨t,y,h1,hq _ _ h2⟩
  ·rcases h with⟨out,h1,h2,h3⟩ | ⟨c,x,h1,h2,h3⟩
   ·exact .inl ⟨out,h1,h2,hk _ h3⟩
   ·exact .inr ⟨c,x,h1,h2,hk _ h3⟩
 unfold Fy at h⊢;refine hS.mono _ _ _ (fun t h=>?_) h;split at h
 ·exact e _ h
 ·obtain⟨b,h1,h2⟩:=h;refine⟨b,h1,?_⟩;split
  ·rename_i hb;rw[if_pos hb]at h2;exact e _ h2
  ·rename_i hb;rw[if_neg hb]at h2;exact hk _ h2
def AK8 (all:List Oper)(n:Nat):Bool:=
 Nat.blt n all.length&&(List.range all.length).all fun i=>Nat.blt i n||(List.range i).all fun j=>((AS1 all).getD i []).contains j
def Vy (all:List Oper)(n:Nat):Bool:=(all.take n).all fun o=>match o.guard with
 |some (j,_)=>Nat.blt j n
 |none=>true
theorem Zr (all:List Oper){n:Nat}(hg:Vy all n=true){o:Oper}(ho:o∈all.take n){k:St->Prop}{Q:J6}{s:St}(h:Fy S P (all.take n) o k Q s):Fy S P all o k Q s:=by
 have h1:=Ba0.1 hg o ho;unfold Fy at h⊢;cases hgd:o.guard with
 |none=>simpa only[hgd]using h
 |some q=>
  obtain⟨j,want⟩:=q;simp only[hgd,Bh8]at h1 h⊢;have e:DR (all.take n) j=DR all j:=by unfold DR;rw[Bf7,if_pos h1]
  rw[e]at h;exact h
theorem Tf (hS:G6 S P){all:List Oper}{n:Nat}{Q:J6}{st:St}(hdep:GT all=true)(hB:AK8 all n=true)(hg:Vy all n=true)
 (h:YH S P (all.take n) (fun e s=>match e with | .normal=>GM S P all (all.drop n) Q s | .panic x=>Q (.panic x) s|_=>False) st):YH S P all Q st:=by
 obtain⟨hmix,hdp,Inv,h0,hstep,hend⟩:=h;simp only[AK8,AY9,Bh8,Ba0,Bf0,Ba5,Bb8,decide_eq_true_eq]at hB;obtain⟨hn,hB⟩:=hB
 let down:(Nat->Bool)->Prop:=fun D=>∀i o,D i=true->all[i]? = some o->∀e∈o.after.toList,Da e=true->D e.on=true
 let Inv' : (Nat->Bool)->St->Prop:=fun D s=>down D/\(((∀i,n<=i->D i=false)/\Inv D s) \/ ∃j,n<=j/\j<=all.length/\(∀i,i<all.length->(D i=true↔i<j))/\GM S P all (all.drop j) Q s)
 refine⟨hmix,hdep,Inv',⟨fun i o hi=>(by cases hi),.inl ⟨fun _ _=>rfl,h0⟩⟩,?_,?_⟩
 ·intro D i s o ⟨hD,hc⟩ ho hDi hready;have hin:i<all.length:=(AZ5.1 ho).1;have hanc:=Jx hdep hD i o ho hready;have hdown:down fun j=>if j=i then true else D j:=by
   intro j oj hj hoj e he hbe;show (if e.on=i then true else D e.on)=true;by_cases e1:j=i
   ·subst e1;rw[ho]at hoj;cases hoj;split
    ·rfl
    ·exact hready e he hbe
   ·have hj:(if j=i then true else D j)=true:=hj;rw[if_neg e1]at hj;split
    ·rfl
    ·exact hD j oj hj hoj e he hbe
  have hclose:(∀j,j<i->D j=true)->(∀j,i<j->j<all.length->D j=false)->n<=i->S.up s (GM S P all (all.drop i) Q)->Fy S P all o (Inv' fun j=>if j=i then true else D j) Q s:=by
   intro hlo hhi hni h2;have hd:all.drop i=o::all.drop (i+1):=by rw[Bh3 hin];congr 1;exact (AZ5.1 ho).2
   rw[hd]at h2;have h3:Fy S P all o (GM S P all (all.drop (i+1)) Q) Q s:=hS.trans _ _ h2;refine Jz hS (fun s' hs'=>?_) (fun e s h=>h) h3;refine⟨hdown,.inr ⟨i+1,by omega,hin,fun i' hi'=>?_,hs'⟩⟩;by_cases e:i' = i
   ·simp[e]
   ·simp only[e,if_false];constructor
    ·intro h4;by_cases h5:i<i'
     ·rw[hhi i' h5 hi']at h4;cases h4
     ·omega
    ·intro h4;exact hlo i' (by omega)
  rcases hc with⟨hlo,hI⟩ | ⟨j,hj1,hj2,hDj,hw⟩
  ·by_cases hi:i<n
   ·have ho' : (all.take n)[i]? = some o:=by rw[Bf7,if_pos hi];exact ho
    have h1:=Zr all hg (Ba4 ho') (hstep D i s o hI ho' hDi hready);refine Vx hS (fun s' hs'=>?_) (fun x s' h=>h) h1;refine⟨hdown,.inl ⟨fun i' h'=>?_,hs'⟩⟩
    have:i' ≠ i:=by omega
    show (if i' = i then true else D i')=false;rw[if_neg this];exact hlo i' h'
   ·have hall:∀j,j<i->D j=true:=fun j hj=>hanc j ((hB i hin).resolve_left hi j hj);have e:i=n:=by
     by_cases h4:n<i
     ·have:=hall n h4;rw[hlo n (AZ0 _)]at this;cases this
     ·omega
    subst e;refine hclose hall (fun j hj _=>hlo j (by omega)) (AZ0 _) ?_;exact hend D s hI fun j hj=>hall j (by simp at hj;omega)
  ·have e:i=j:=by
    by_cases h4:i<j
    ·have:=(hDj i hin).2 h4;rw[hDi]at this;cases this
    ·by_cases h5:j<i
     ·have hall:D j=true:=hanc j ((hB i hin).resolve_left (by omega) j h5)
      have:=(hDj j (by omega)).1 hall;omega
     ·omega
   subst e;refine hclose (fun j hj=>(hDj j (by omega)).2 hj) (fun j h1 h2=>?_) hj1 (hS.refl _ _ hw);cases hh:D j with
   |false=>rfl
   |true=>have:=(hDj j h2).1 hh;omega
 ·rintro D s ⟨hD,hc⟩ hall;rcases hc with⟨hlo,hI⟩ | ⟨j,hj1,hj2,hDj,hw⟩
  ·have:=hall n hn;rw[hlo n (AZ0 _)]at this;cases this
  ·have e:j=all.length:=by
    by_cases h4:j<all.length
    ·have:=(hDj j h4).1 (hall j h4);omega
    ·omega
   subst e;rw[List.drop_length]at hw;exact hS.refl _ _ hw
def Lm (n:Nat)(ls:List (Nat×Cls)):Cfg->SC
 |.code (.region _ ops true) _ st=>⟨ops.toList.take n,AX7 ls 0 (ops.toList.take n),ops.toList.take n,st.env,st.regs,[]⟩
 |_=>⟨[],[],[],[],[],[]⟩
def Ai9 (n:Nat)(env:Env)(regs:D1):Cfg->Cfg
 |.code (.region _ ops true) K _=>.ops ops.toList (ops.toList.drop n) K ⟨env,regs⟩
 |g=>g
def Aj0 (n:Nat):Cfg->Bool
 |.code (.region _ ops true) _ _=>GT ops.toList&&AK8 ops.toList n&&Vy ops.toList n
 |_=>false
theorem Ax2 (hS:G6 S P)(hc:pr)(n:Nat)(ls:List (Nat×Cls))(h:DG S P (Lm n ls (stp P g)) fun env regs=>KG S P F (Ai9 n env regs (stp P g)))(hp:pr=E1 (cnd P g):=by kernel_rfl)(hd:Df (stp P g)=true:=by kernel_rfl)(hmix:P.follows .mixedOrders=true:=by kernel_rfl)
 (hok:Kd (Lm n ls (stp P g)).all (Lm n ls (stp P g)).cls=true:=by kernel_rfl) (hb:Aj0 n (stp P g)=true:=by kernel_rfl):KG S P F g:=by
 have e:(fun env regs=>KG S P F (Ai9 n env regs (stp P g)))=fun env regs=>G S P F (Ai9 n env regs (stp P g)):=by funext env regs;exact propext ⟨fun h=>h.out,fun h=>⟨h⟩⟩
 rw[e]at h;refine⟨Fm hS hc ?_ hp⟩;have h:=h.out;generalize stp P g=g' at hd hok h hb;unfold Df at hd;split at hd
 ·rename_i id ops K st;simp only[Aj0,AY9]at hb;show awp S P (.region id ops true) (kp S P K F) st;simp only[awp,if_true];refine Tf hS hb.1.1 hb.1.2 hb.2 ?_;have h2:(ops.toList.take n).toArray.toList=ops.toList.take n:=rfl
  have:=XF hS (F:=fun e s=>match e with | .normal=>GM S P ops.toList (ops.toList.drop n) (kp S P K F) s | .panic x=>kp S P K F (.panic x) s|_=>False) (K:=[]) (id:=id) (ops:=(ops.toList.take n).toArray) (AX7 ls 0 (ops.toList.take n)) hmix hok h
  simpa only[G,awp,if_true,kp,Lm]using this
 ·cases hd
end
end Go.AM
namespace Go.AM
open Go.RowKit Go.ChangeShapes Go.Deep
mutual
inductive LeD:PV->PV->Prop
 |refl (x:PV):LeD x x
 |sl {k n:Nat}{f g:Nat->List PV}(h:∀i,i<n->LeDs (f i) (g i)):LeD (.sl false k n f) (.sl false k n g)
inductive LeDs:List PV->List PV->Prop
 |nil:LeDs [] []
 |cons {x y:PV}{l r:List PV}(h:LeD x y) (h' : LeDs l r):LeDs (x::l) (y::r)
end
theorem LeDs.refl:∀l:List PV,LeDs l l
 |[]=>.nil
 |x::l=>.cons (.refl x) (LeDs.refl l)
theorem LeDs.length {l r:List PV}(h:LeDs l r):l.length=r.length:=by
 induction l generalizing r with
 |nil=>cases h;rfl
 |cons x l ih=>cases h with|cons _ h'=>simp[ih h']
theorem LeDs.get {l r:List PV}(h:LeDs l r):∀i,LeD (l.getD i default) (r.getD i default):=by
 induction l generalizing r with
 |nil=>cases h;exact fun i=>.refl _
 |cons x l ih=>
  cases h with
  |cons h h'=>
   intro i;cases i with
   |zero=>exact h
   |succ i=>simpa using ih h' i
theorem LeDs.append {a b c d:List PV}(h:LeDs a b)(h' : LeDs c d):LeDs (a++c) (b++d):=by
 induction a generalizing b with
 |nil=>cases h;exact h'
 |cons x l ih=>cases h with|cons h1 h2=>exact .cons h1 (ih h2)
theorem RepP.leD {w:World}{Pi:Nat->Nat->Prop}{v:Value}{x:PV}(h:RepP w Pi v x):∀{y:PV},LeD x y->RepP w Pi v y:=by
 induction h with
 |slnil k f=>intro y hy;cases hy with
  |refl=>exact .slnil _ _
  |sl h=>exact .slnil _ _
 |sl nn b off cap k n f c hn hk hc h sp hsp ih=>
  intro y hy;cases hy with
  |refl=>exact .sl nn b off cap k n f c hn hk hc h sp hsp
  |sl h'=>exact .sl false b off cap k n _ c hn (fun i hi=>by rw[<- (h' i hi).length];exact hk i hi) hc (fun i j hi hj=>ih i j hi hj ((h' i hi).get j)) sp hsp
 |v x=>intro y hy;cases hy;exact .v x
 |bb b=>intro y hy;cases hy;exact .bb b
 |str l=>intro y hy;cases hy;exact .str l
 |agg vs cs hs h1 h ih=>intro y hy;cases hy;exact .agg vs cs hs h1 h
 |ptr b off cs c hc h ih=>intro y hy;cases hy;exact .ptr b off cs c hc h
 |iface t x a h ih=>intro y hy;cases hy;exact .iface t x a h
 |fn f x y a b hx hy ha hb iha ihb=>intro y hy;cases hy;exact .fn f x _ a b hx ‹_› ha hb
theorem CRep.leD {W:World}{cs:List Value}{p q:List PV}(h:CRep W cs p)(hl:LeDs p q):CRep W cs q:=
 ⟨by rw[h.1,hl.length],fun i hi=>⟨(h.2 i (by rw[hl.length];exact hi)).1.leD (hl.get i),(h.2 i (by rw[hl.length];exact hi)).2⟩⟩
section
variable {P:Program}{t e:TypeId}{m:Nat}{pvs:List PV}
def Ee (f:Nat->Nat):Nat->Nat
 |0=>0
 |k+1=>Ee f k+f k
theorem AK9 (f:Nat->Nat){k n:Nat}(h:k<=n):Ee f k<=Ee f n:=by
 induction h with
 |refl=>exact AZ0 _
 |step _ ih=>simp only[Ee];omega
theorem Me (f:Nat->Nat){k n:Nat}(h:k<n):f k<=Ee f n:=by
 have:=AK9 f (show k+1<=n from h)
 simp only[Ee]at this;omega
theorem Tg {f g:Nat->Nat}:∀{n:Nat},(∀i,i<n->f i<=g i)->Ee f n<=Ee g n
 |0,_=>AZ0 _
 |n+1,h=>by have h1:=Tg (n:=n) fun i hi=>h i (by omega);have h2:=h n (by omega);simp only[Ee];omega
theorem Pu (f:Nat->Nat):∀n,UP ((List.range n).map f)=Ee f n:=by
 have app:∀a b:List Nat,UP (a++b)=UP a+UP b:=by
  intro a b
  induction a with
  |nil=>simp[UP]
  |cons x r ih=>simp only[Bc3,SO,ih];omega
 intro n
 induction n with
 |zero=>rfl
 |succ n ih=>rw[Bh9,Bk4,app,ih];simp[Ee,UP]
def JC (P:Program)(t:TypeId){T:Type}(c:T->List PV)(W:T->Prop)(sz:T->Nat):Prop:=
 ∀(m:Nat) (pvs:List PV),HJ P m t pvs->∃x:T,LeDs pvs (c x)/\W x/\sz x<=m
theorem T4 {k:IntKind}(ht:P.underlying t=some (.int k)):JC P t (cI k) (fun n=>(Lit.int k n).wf=true) (fun _=>1):=by
 intro m pvs h;cases h with
 |bool ht'=>rw[ht]at ht';cases ht'
 |str ht'=>rw[ht]at ht';cases ht'
 |slice _ ht'=>rw[ht]at ht';cases ht'
 |arr ht'=>rw[ht]at ht';cases ht'
 |struct ht'=>rw[ht]at ht';cases ht'
 |int ht' hw hm=>rw[ht]at ht';cases ht';exact⟨_,LeDs.refl _,hw,hm⟩
theorem Pv (ht:P.underlying t=some .bool):JC P t cB (fun _=>True) (fun _=>1):=by
 intro m pvs h;cases h with
 |int ht'=>rw[ht]at ht';cases ht'
 |str ht'=>rw[ht]at ht';cases ht'
 |slice _ ht'=>rw[ht]at ht';cases ht'
 |arr ht'=>rw[ht]at ht';cases ht'
 |struct ht'=>rw[ht]at ht';cases ht'
 |bool ht' hm=>exact⟨_,LeDs.refl _,trivial,hm⟩
theorem Mf (ht:P.underlying t=some .string):JC P t cS (fun _=>True) (fun l=>l.length+1):=by
 intro m pvs h;cases h with
 |int ht'=>rw[ht]at ht';cases ht'
 |bool ht'=>rw[ht]at ht';cases ht'
 |slice _ ht'=>rw[ht]at ht';cases ht'
 |arr ht'=>rw[ht]at ht';cases ht'
 |struct ht'=>rw[ht]at ht';cases ht'
 |str ht' hm=>exact⟨_,LeDs.refl _,trivial,hm⟩
theorem Q6 {T:Type}[Inhabited T]{c:T->List PV}{W:T->Prop}{sz:T->Nat}{k:Nat}(ht:P.underlying t=some (.slice e))(hk:P.cellsOf e=k)(h:JC P e c W sz) :JC P t (cL k c) (fun s=>∀i,i<s.n->W (s.g i)) (fun s=>Ee (fun i=>sz (s.g i)) s.n+1):=by
 intro m pvs hs;cases hs with
 |int ht'=>rw[ht]at ht';cases ht'
 |bool ht'=>rw[ht]at ht';cases ht'
 |str ht'=>rw[ht]at ht';cases ht'
 |arr ht'=>rw[ht]at ht';cases ht'
 |struct ht'=>rw[ht]at ht';cases ht'
 | @slice _ _ e' n f ms ht' hl hel hm=>
  rw[ht]at ht';cases ht';obtain⟨g,hg⟩:=choose_lt (α:=T) (p:=fun i x=>LeDs (f i) (c x)/\W x/\sz x<=ms i) fun i hi=>h _ _ (hel i hi);refine⟨⟨n,g⟩,?_,fun i hi=>(hg i hi).2.1,?_⟩
  ·subst hk;exact .cons (.sl fun i hi=>(hg i hi).1) .nil
  ·have h1:=Tg (n:=n) fun i hi=>(hg i hi).2.2;rw[Pu]at hm;show Ee (fun i=>sz (g i)) n+1<=m;omega
theorem S6 {fs:Array Field}(ht:P.underlying t=some (.struct fs))(h:HJ P m t pvs):∃m',FI P m' (fs.toList.map (·.type)) pvs/\m' + 1<=m:=by
 cases h with
 |int ht'=>rw[ht]at ht';cases ht'
 |bool ht'=>rw[ht]at ht';cases ht'
 |str ht'=>rw[ht]at ht';cases ht'
 |slice _ ht'=>rw[ht]at ht';cases ht'
 |arr ht'=>rw[ht]at ht';cases ht'
 |struct ht' h hm=>rw[ht]at ht';cases ht';exact⟨_,h,hm⟩
theorem C5 {ts:List TypeId}(h:FI P m (t::ts) pvs):∃a b p q,pvs=p++q/\HJ P a t p/\FI P b ts q/\a+b<=m:=by
 cases h with
 |cons h h' hm=>exact⟨_,_,_,_,rfl,h,h',hm⟩
theorem Ba (h:FI P m [] pvs):pvs=[]:=by cases h;rfl
end
end Go.AM
