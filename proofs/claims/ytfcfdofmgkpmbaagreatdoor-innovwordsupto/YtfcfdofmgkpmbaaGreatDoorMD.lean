/- What a law's walk and its plain proof need, part 4: no condition of its own. -/
import Derived.Test.YtfcfdofmgkpmbaaGreatDoorMC
import Derived.KernelRfl
set_option linter.defProp false
set_option linter.unusedSimpArgs false
set_option linter.unusedVariables false
set_option linter.unusedSectionVars false
namespace Go.AM
def Bd9:=@List.range_succ
def Bf8:=@Nat.le_of_ble_eq_true
def Bg0:=@List.map_append
def Bh8:=@List.mem_map
def Bh9:=@List.mem_singleton
def Bj8:=@Nat.blt_eq
def Bq4:=@List.tail_cons
abbrev Str:=List UInt8
structure Sl (α : Type) where
 n:Nat
 g:Nat -> α
instance {α : Type} [Inhabited α]:Inhabited (Sl α):=⟨⟨0,fun _=>default⟩⟩
namespace Sl
variable {α : Type}
def toList (s:Sl α):List α:=(List.range s.n).map s.g
abbrev nil [Inhabited α]:Sl α:=⟨0,fun _=>default⟩
abbrev rep (n:Nat)(a : α):Sl α:=⟨n,fun _=>a⟩
abbrev sub (s:Sl α)(a b:Nat):Sl α:=⟨b-a,fun i=>s.g (a+i)⟩
abbrev drop (s:Sl α)(a:Nat):Sl α:=⟨s.n-a,fun i=>s.g (a+i)⟩
abbrev take (s:Sl α)(b:Nat):Sl α:=⟨b,s.g⟩
abbrev push (s:Sl α)(a : α):Sl α:=⟨s.n+1,fun i=>if i<s.n then s.g i else a⟩
abbrev app (s t:Sl α):Sl α:=⟨s.n+t.n,fun i=>if i<s.n then s.g i else t.g (i-s.n)⟩
abbrev upd (s:Sl α)(k:Nat)(a : α):Sl α:=⟨s.n,fun i=>if i=k then a else s.g i⟩
abbrev of [Inhabited α](l:List α):Sl α:=⟨l.length,fun i=>l.getD i default⟩
end Sl
abbrev vSl {α : Type}(k:Nat)(c : α -> List PV)(s:Sl α):PV:=.sl false k s.n fun i=>c (s.g i)
abbrev pI (k:IntKind)(n:Int):PV:=.v (.int k n)
abbrev Ao (l:Str)(i:Int):Int:=(((l.getD i.toNat 0).toNat:Nat):Int)
abbrev pN (n:Int):AV:=.p (.v (.int .i64 n))
abbrev pU (n:Int):AV:=.p (.v (.int .u32 n))
abbrev pB (b:Bool):AV:=.p (.bb b)
abbrev G6:PV:=.v (.slice none 0 0)
section
variable {R:Type}
def W6 {A:Type}(N:Nat)(body:(A->Option R)->A->Option R):A->Option R:=match N with
 |0=>fun _=>none
 |N+1=>fun a=>body (W6 N body) a
variable {A B C D E F G H:Type}
def P6 (N:Nat)(body:(A->B->Option R)->A->B->Option R)(a:A)(b:B):Option R:=W6 N (fun c x=>body (fun a b=>c (a,b)) x.1 x.2) (a,b)
def Ai6 (N:Nat)(body:(A->B->C->Option R)->A->B->C->Option R)(a:A)(b:B)(c:C):Option R:=W6 N (fun d x=>body (fun a b c=>d (a,b,c)) x.1 x.2.1 x.2.2) (a,b,c)
def Aq8 (N:Nat)(body:(A->B->C->D->Option R)->A->B->C->D->Option R)(a:A)(b:B)(c:C)(d:D):Option R:=W6 N (fun f x=>body (fun a b c d=>f (a,b,c,d)) x.1 x.2.1 x.2.2.1 x.2.2.2) (a,b,c,d)
theorem BB {N:Nat}{body:(A->Option R)->A->Option R}{a:A}:W6 (N+1) body a=body (W6 N body) a:=rfl
theorem E7 {N:Nat}{body:(A->B->Option R)->A->B->Option R}{a:A}{b:B}:P6 (N+1) body a b=body (P6 N body) a b:=rfl
theorem U1 {N:Nat}{body:(A->B->C->D->Option R)->A->B->C->D->Option R}{a:A}{b:B}{c:C}{d:D}:Aq8 (N+1) body a b c d=body (Aq8 N body) a b c d:=rfl
def lt {K:Type}(k:K)(f:K->Option R):Option R:=f k
end
section
variable {R X Y:Type}{r:R}
theorem itT {b:Bool}{x y:Option R}(hb:b=true)(h:(if b then x else y)=some r):x=some r:=by rwa [if_pos hb]at h
theorem itF {b:Bool}{x y:Option R}(hb:b=false)(h:(if b then x else y)=some r):y=some r:=by rwa [if_neg (by simp[hb])]at h
theorem D5 {p:Prop}[Decidable p]{x:Option R}(h:(if p then x else none)=some r):p/\x=some r:=by
 split at h
 ·exact⟨by assumption,h⟩
 ·cases h
theorem B8 {x:Option X}{f:X->Option R}(h:x.bind f=some r):∃a,x=some a/\f a=some r:=Bi8.1 h
theorem B6 {a b:R}(h:some a=some b):a=b:=Bk6 h
end
section
variable {S:Az}{P:Program}{F:J8}{K:List It}{st:St}
theorem A4 (hS:H5 S P){n:Nat}{rs:List ResultVar}{Q:LK->List Obj->List Bool->Prop}(s:St)(h:S.up s (Cu S P n rs Q .normal)):Cu S P n rs Q .normal s:=hS.trans _ _ h
theorem AT6 (hS:H5 S P){b:Code}{R A:Type}{body:(A->Option R)->A->Option R}{N:Nat}{a0:A}{r:R}(h:W6 N body a0=some r)(s:A->St)(ids:List (Nat×Nat))(hle:Le ids st (s a0))
 (d:∀(X:Type) (s' : X->St) (J:X->Prop) (m:X->Nat) (n:Nat) (c:A->Option R) (a:A),(∀st ids a,Le ids st (s a)->c a=some r->G S P F (.pop .normal (.lp X s' J m n::K) st))->body c a=some r->G S P F (.code b (.lp X s' J m n::K) (s a))) :
 G S P F (.code (.loop b) K st):=by
 refine AD0 hS (X:=Nat×A) (fun x=>s x.2) (fun x=>W6 x.1 body x.2=some r) (fun x=>x.1) (N,a0) ids hle h ?_;rintro⟨n,a⟩ hx;cases n with
 |zero=>cases hx
 |succ n=>exact d _ _ _ _ _ (W6 n body) a (fun st ids a hle h=>Af4 hS (n,a) ids hle h (Nat.lt_succ_self n)) hx
theorem Ai7 (hS:H5 S P){all rest:List Oper}{o:Oper}(t:St)(ids:List (Nat×Nat))(hle:Le ids st t)(h:G S P F (.ops all (o::rest) K t)):G S P F (.ops all (o::rest) K st):=
 Sx hS (hS.le ids _ _ _ hle h)
end
theorem pm:(∀b,(true||b)=true)/\(∀b,(b||true)=true)/\(∀b,(false||b)=b)/\(∀b,(b||false)=b)/\(∀b,(true&&b)=b)/\(∀b,(b&&true)=b)/\(∀b,(false&&b)=false)/\(∀b,(b&&false)=false)/\((!true)=false)/\((!false)=true)/\((false=true)=False)/\((true=true)=True):=by refine⟨?_,?_,?_,?_,?_,?_,?_,?_,?_,?_,?_,?_⟩<;>simp
section
variable {regs:D6}{ids:List (Nat×Nat)}
variable {env r:Env}{t:Nat}{a b:AV}{x y:PV}
theorem eP (b:get env t=a)(h:viewP regs a=some y)(h' : LN regs ids env r):LN regs ids env ((t,.p y)::r):=AD1 b (le_p h) h'
theorem eM {i j:Nat}(a:get env t=.mref i)(h:lk ids j=some i)(h' : LN regs ids env r):LN regs ids env ((t,.mref j)::r):=AD1 a (Af5 h) h'
theorem Er {α : Type}{c : α -> List PV}{n:Nat}{v:Sl α}{f:Nat->List PV}{z cs:List PV}{x : α}(h:∀i,i<n->f i=c (v.g i))(hn:n=v.n)(hx:cs=c x):∀i,i<n+1->R9 n f (D7 z [(0,cs)]) i=c ((v.push x).g i):=by
 subst hn hx;intro i a;show (if i<v.n then f i else D7 z [(0,c x)] (i-v.n))=c (if i<v.n then v.g i else x);split
 ·exact h i ‹_›
 ·obtain rfl:i=v.n:=by omega
  simp[D7]
theorem XK {α : Type}{c : α -> List PV}{n m:Nat}{v w:Sl α}{f g:Nat->List PV}(h:∀i,i<n->f i=c (v.g i))(hn:n=v.n)(h' : ∀i,i<m->g i=c (w.g i))(hm:m=w.n):∀i,i<n+m->R9 n f g i=c ((v.app w).g i):=by
 subst hn hm;intro i a;show (if i<v.n then f i else g (i-v.n))=c (if i<v.n then v.g i else w.g (i-v.n));split
 ·exact h i ‹_›
 ·exact h' _ (by omega)
theorem Ad4 {α : Type}{c : α -> List PV}{n k:Nat}{v:Sl α}{f:Nat->List PV}{e:Nat->List PV}{x : α}(h:∀i,i<n->f i=c (v.g i))(hx:k<n->e k=c x):∀i,i<n->(fun l=>if l=k then e l else f l) i=c ((v.upd k x).g i):=by
 intro i a;show (if i=k then e i else f i)=c (if i=k then x else v.g i);split
 ·subst_vars;exact hx a
 ·exact h i a
theorem same {n:Nat}{f:Nat->List PV}:∀i,i<n->f i=f i:=fun _ _=>rfl
end
end Go.AM
namespace Go.AM
abbrev cI (k:IntKind)(n:Int):List PV:=[.v (.int k n)]
abbrev cB (b:Bool):List PV:=[.bb b]
abbrev cS (s:Str):List PV:=[.str s]
abbrev cL {α : Type}(k:Nat)(c : α -> List PV)(s:Sl α):List PV:=[vSl k c s]
section
variable {S:Az}{P:Program}{F:J8}{K:List It}{st:St}
end
section
variable {regs:D6}{ids:List (Nat×Nat)}
theorem le_yf {i j:Nat}(h:lk ids j=some i):leA regs ids (.yf i) (.yf j):=by unfold leA;exact⟨i,h,rfl⟩
theorem AT7 {l m:List AV}(h:leL regs ids l m):leA regs ids (.tup l) (.tup m):=by unfold leA;exact⟨l,rfl,h⟩
theorem AT8 {l m:List AV}(h:leL regs ids l m):leA regs ids (.agr l) (.agr m):=by unfold leA;exact⟨l,rfl,h⟩
end
end Go.AM
namespace Go.AM
def Li {κ ν : Type}(kP : κ -> PV)(vP : ν -> PV)(es:List (κ × ν)):List (PV×PV):=es.map fun p=>(kP p.1,vP p.2)
def BU {κ ν : Type}(eq : κ -> κ -> Bool)(k : κ):List (κ × ν)->Option ν
 |[]=>none
 |(a,v)::es=>if eq k a then some v else BU eq k es
def NZ {κ ν : Type}(eq : κ -> κ -> Bool)(k : κ)(v : ν):List (κ × ν)->List (κ × ν)
 |[]=>[(k,v)]
 |(a,x)::es=>if eq k a then (k,v)::es else (a,x)::NZ eq k v es
theorem Vs {κ ν : Type}(kP : κ -> PV)(vP : ν -> PV)(es:List (κ × ν)):(Li kP vP es).length=es.length:=by simp[Li]
theorem Dx {κ ν : Type}{kP : κ -> PV}{vP : ν -> PV}{cmp:PV->PV->Option Bool}{eq : κ -> κ -> Bool}(hc:∀a b,cmp (kP a) (kP b)=some (eq a b))(k : κ):∀es:List (κ × ν),find cmp (kP k) (Li kP vP es)=some ((BU eq k es).map vP)
 |[]=>rfl
 |(a,v)::es=>by
  show (match cmp (kP k) (kP a)with|some true=>some (some (vP v))|some false=>find cmp (kP k) (Li kP vP es)|none=>none)=some ((BU eq k ((a,v)::es)).map vP);rw[hc];simp only[BU];cases h:eq k a
  ·simpa using Dx hc k es
  ·rfl
theorem IQ {κ ν : Type}{kP : κ -> PV}{vP : ν -> PV}{cmp:PV->PV->Option Bool}{eq : κ -> κ -> Bool}(hc:∀a b,cmp (kP a) (kP b)=some (eq a b))(k : κ)(x : ν):∀es:List (κ × ν),upd cmp (kP k) (vP x) (Li kP vP es)=some (Li kP vP (NZ eq k x es))
 |[]=>rfl
 |(a,v)::es=>by
  show (match cmp (kP k) (kP a)with|some true=>some ((kP k,vP x)::Li kP vP es)|some false=>(upd cmp (kP k) (vP x) (Li kP vP es)).map ((kP a,vP v) :: ·)|none=>none)=some (Li kP vP (NZ eq k x ((a,v)::es)));rw[hc];simp only[NZ];cases h:eq k a
  ·simp only[IQ hc k x es,Ba2,if_false,AZ9];rfl
  ·rfl
abbrev eqS (a b:Str):Bool:=a==b
def Av1 {X Y:Type}(o:Option X)(a:Y)(f:X->Y):Y:=match o with
 |none=>a
 |some x=>f x
theorem optN {X R:Type}{r:R}{o:Option X}{a:Option R}{f:X->Option R}(b:o=none)(h:Av1 o a f=some r):a=some r:=by subst b;exact h
theorem optS {X R:Type}{r:R}{o:Option X}{x:X}{a:Option R}{f:X->Option R}(b:o=some x)(h:Av1 o a f=some r):f x=some r:=by subst b;exact h
theorem Te {X Y:Type}(a:Y)(f:X->Y):Av1 none a f=a:=rfl
theorem Ai8 {X Y:Type}(x:X)(a:Y)(f:X->Y):Av1 (some x) a f=f x:=rfl
section
variable {R T A B C D:Type}
def iter0 (L:List T)(body:Option R->T->Option R)(k:Option R):Option R:=match L with
 |[]=>k
 |t::L=>body (iter0 L body k) t
def P7 (L:List T)(body:(A->Option R)->T->A->Option R)(k:A->Option R)(a:A):Option R:=match L with
 |[]=>k a
 |t::L=>body (P7 L body k) t a
end
section
variable {S:Az}{P:Program}{F:J8}{K:List It}{st:St}
theorem AJ5 (hS:H5 S P){g:Operand}{ps:Array Tmp}{asg body:Code}{f:FuncId}{first caps as bs:List AV}{objs:List Obj}{R T A:Type}{enc:T->List PV}{L:List T}{mb:(A->Option R)->T->A->Option R}{mk:A->Option R}{a0:A}{r:R}
 (ids ts:List Nat) (gh:Nat) (s:A->St) (idl:List (Nat×Nat)) (h:P7 L mb mk a0=some r) (y:Fp S f as bs objs (L.map enc))
 (hp:En st.env g=some (f,first,caps)) (j:∃fn,P.funcs[f]? = some fn/\fn.body.isSome=true/\(fn.name == "runtime.NumGoroutine")=false) (l:J9 ids st.regs ids=some objs) (m:EE objs=true) (z:H1 ids=true) (n:Dc ids first=some as) (o:Dc ids caps=some bs) (q:objs.length=ids.length)
 (u:Nat.blt gh 1000=true) (v:A2 st.regs gh=none) (w:Nat.blt ids.length 1000=true) (x:H1 ts=true) (d:∀t:T,(enc t).length=ps.size)
 (hle:Le idl ⟨X3 ts (ts.map (get st.env)),O8 ids (ids.map fun _=>false) st.regs⟩ (s a0)) (hk:∀a,(s a).env.map (·.1)=ts) (hn:∀a,A2 (s a).regs gh=none)
 (b:∀(t:T) (next:St->Prop) (c:A->Option R) (a:A),(∀(st st1:St) (cs:List AV) (idl:List (Nat×Nat)) (a:A),Le idl st st1->A2 st1.regs gh=some (.ghost cs)->cs.length=ts.length->A2 (del gh st1.regs) gh=none->(⟨X3 ts cs,del gh st1.regs⟩:St)=s a->c a=some r->G S P (Ep S gh ts next (kp S P K F)) (.pop .normal [] st)) ->
  mb c t a=some r->G S P (Bz S P body gh ts next (kp S P K F)) (.code asg [] ⟨IC ps.toList (enc t) (s a).env,ins gh (.ghost ((s a).env.map (·.2))) (s a).regs⟩))
 (i:∀a,mk a=some r->G S P F (.pop .normal K (s a))):G S P F (.code (.rangeFunc g ps asg body) K st):=by
 refine Ai4 hS ids ts gh (L.map enc) s (fun rest a=>∃L',rest=L'.map enc/\P7 L' mb mk a=some r) a0 idl hp j l m z n o q (by simpa[Bj8]using u) v (by simpa[Bj8]using w) x (fun ys hy=>?_) y hle ⟨L,rfl,h⟩ hk hn ?_ ?_
 ·obtain⟨t,_,rfl⟩:=Bh8.1 hy;exact d t
 ·rintro ys rest a ⟨L',hL,hx⟩;cases L' with
  |nil=>cases hL
  |cons t L'=>simp only[Bc2,Bg5]at hL;obtain⟨rfl,rfl⟩:=hL;refine b t _ (P7 L' mb mk) a (fun st st1 cs idl a hle h1 h2 h3 h4 h5=>?_) hx;exact Vp hS st1 a idl hle h1 h2 h3 h4 ⟨L',rfl,h5⟩
 ·rintro a ⟨L',hL,hx⟩;cases L' with
  |nil=>exact i a hx
  |cons t L'=>cases hL
theorem Av2 (hS:H5 S P){g:Operand}{ps:Array Tmp}{asg body:Code}{f:FuncId}{first caps as bs:List AV}{objs:List Obj}{R T A:Type}{enc:T->List PV}{L:List T}{mb:(A->Option R)->T->A->Option R}{mk:A->Option R}{a0:A}{r0:R}
 (ids ts:List Nat) (gh:Nat) (s:A->R->St) (idl:List (Nat×Nat)) (h:P7 L mb mk a0=some r0) (z:Fp S f as bs objs (L.map enc))
 (hp:En st.env g=some (f,first,caps)) (j:∃fn,P.funcs[f]? = some fn/\fn.body.isSome=true/\(fn.name == "runtime.NumGoroutine")=false) (l:J9 ids st.regs ids=some objs) (m:EE objs=true) (hd:H1 ids=true) (n:Dc ids first=some as) (o:Dc ids caps=some bs) (q:objs.length=ids.length)
 (u:Nat.blt gh 1000=true) (v:A2 st.regs gh=none) (w:Nat.blt ids.length 1000=true) (y:H1 ts=true) (d:∀t:T,(enc t).length=ps.size)
 (hle:Le idl ⟨X3 ts (ts.map (get st.env)),O8 ids (ids.map fun _=>false) st.regs⟩ (s a0 r0)) (hk:∀a r,(s a r).env.map (·.1)=ts) (hn:∀a r,A2 (s a r).regs gh=none)
 (b:∀(t:T) (next:St->Prop) (c:A->Option R) (a:A) (r:R),(∀(st st1:St) (cs:List AV) (idl:List (Nat×Nat)) (a:A) (r:R),Le idl st st1->A2 st1.regs gh=some (.ghost cs)->cs.length=ts.length->A2 (del gh st1.regs) gh=none->(⟨X3 ts cs,del gh st1.regs⟩:St)=s a r->c a=some r->G S P (Ep S gh ts next (kp S P K F)) (.pop .normal [] st)) ->
  mb c t a=some r->G S P (Bz S P body gh ts next (kp S P K F)) (.code asg [] ⟨IC ps.toList (enc t) (s a r).env,ins gh (.ghost ((s a r).env.map (·.2))) (s a r).regs⟩))
 (i:∀a r,mk a=some r->G S P F (.pop .normal K (s a r))):G S P F (.code (.rangeFunc g ps asg body) K st):=by
 refine Ai4 hS ids ts gh (L.map enc) (fun x:A×R=>s x.1 x.2) (fun rest x=>∃L',rest=L'.map enc/\P7 L' mb mk x.1=some x.2) (a0,r0) idl hp j l m hd n o q (by simpa[Bj8]using u) v (by simpa[Bj8]using w) y (fun ys hy=>?_) z hle ⟨L,rfl,h⟩ (fun x=>hk x.1 x.2) (fun x=>hn x.1 x.2) ?_ ?_
 ·obtain⟨t,_,rfl⟩:=Bh8.1 hy;exact d t
 ·rintro ys rest ⟨a,r⟩ ⟨L',hL,hx⟩;cases L' with
  |nil=>cases hL
  |cons t L'=>simp only[Bc2,Bg5]at hL;obtain⟨rfl,rfl⟩:=hL;refine b t _ (P7 L' mb mk) a r (fun st st1 cs idl a r hle h1 h2 h3 h4 h5=>?_) hx;exact Vp hS st1 (a,r) idl hle h1 h2 h3 h4 ⟨L',rfl,h5⟩
 ·rintro⟨a,r⟩ ⟨L',hL,hx⟩;cases L' with
  |nil=>exact i a r hx
  |cons t L'=>cases hL
end
end Go.AM
namespace Go.AM
section
variable {S:Az}{P:Program}{all:List Oper}{k:Env->D6->Prop}
end
end Go.AM
namespace Go.AM
section
variable (P:Program)
def stp (g:Cfg):Cfg:=(run P none 400 [] g).cfg
def cnd (g:Cfg):List Prop:=(run P none 400 [] g).conds
def Gu (d:Nat)(g:Cfg):Cfg:=(run P (some d) 400 [] g).cfg
def AQ0 (d:Nat)(g:Cfg):List Prop:=(run P (some d) 400 [] g).conds
def Cfg.st:Cfg->St
 |.code _ _ s=>s
 |.ops _ _ _ s=>s
 |.pop _ _ s=>s
def Cfg.k:Cfg->List It
 |.code _ K _=>K
 |.ops _ _ K _=>K
 |.pop _ K _=>K
def mkO {R:Type _}(env:Env)(regs:D6)(κ : Env->D6->R):R:=fE env fun env=>fR regs fun regs=>κ env regs
theorem EN {R:Type _}(env:Env)(regs:D6)(κ : Env->D6->R):mkO env regs κ = κ env regs:=by simp only[mkO,fE_eq,AG8]
def AD7 {R:Type _}(d:Option Nat)(a:AV)(env:Env)(regs:D6)(κ : St->R):R:=match d with
 |some d=>mkO (ins d a env) regs fun env regs=>κ ⟨env,regs⟩
 |none=>mkO env regs fun env regs=>κ ⟨env,regs⟩
theorem Ka {R:Type _}(d:Option Nat)(a:AV)(env:Env)(regs:D6)(κ : St->R):AD7 d a env regs κ = κ (put ⟨env,regs⟩ d a):=by cases d<;>simp only[AD7,EN,put]
def Av3:Cfg->Option Bool
 |.code (.cond c _ _) _ st=>match aev st.env c with
  |.p (.bb b)=>some b
  |_=>none
 |_=>none
def AJ6:Cfg->Cfg
 |.code (.cond _ t _) K st=>.code t K st
 |g=>g
def AJ7:Cfg->Cfg
 |.code (.cond _ _ e) K st=>.code e K st
 |g=>g
def XL:Cfg->Option Bool
 |.ops all (o::_) _ st=>match o.guard with
  |some (j,_)=>match AR7 all j with
   |some d=>match get st.env d with
    |.p (.bb b)=>some b
    |_=>none
   |none=>none
  |none=>none
 |_=>none
def Ml (b:Bool):Cfg->Cfg
 |.ops all (o::rest) K st=>match o.guard with
  |some (j,_)=>match AR7 all j with
   |some d=>AD7 (some d) (.p (.v (.bool b))) st.env st.regs fun st=>.ops all (o::rest) K st
   |none=>.ops all (o::rest) K st
  |none=>.ops all (o::rest) K st
 |g=>g
def Zk (ids:List Nat):Cfg->Option (FuncId×List AV×List Obj)
 |.ops all (o::_) _ st=>match CS all st.env o,o.op with
  |some true,.call c=>match c.callee with
   |.value f=>match NW st.regs (c.args.toList.map (aev st.env))with
    |some (as,regs)=>match UU st.env f as with
     |some (fn,as')=>match Dc ids as',J9 ids regs ids with
      |some a,some ob=>if H1 ids&&EE ob then some (fn,a,ob)else none
      |_,_=>none
     |none=>none
    |none=>none
   |_=>none
  |_,_=>none
 |_=>none
def Zl (ids:List Nat)(ks:List Bool)(n:Nat):Cfg->Bool
 |.ops _ (o::_) _ st=>match o.op with
  |.call c=>match NW st.regs (c.args.toList.map (aev st.env))with
   |some (_,regs)=>Dr regs ids ks (o.dst.getD 0) n
   |none=>false
  |_=>false
 |_=>false
def Av4 (ids:List Nat)(ks:List Bool)(r:AV)(objs' : List Obj):Cfg->Cfg
 |.ops all (o::rest) K st=>match o.op with
  |.call c=>match NW st.regs (c.args.toList.map (aev st.env))with
   |some (_,regs)=>AD7 o.dst (unA (O7 (o.dst.getD 0) ids ks objs'.length) r) st.env
    (Ad1 (O7 (o.dst.getD 0) ids ks objs'.length) (O7 (o.dst.getD 0) ids ks objs'.length) objs' (O8 ids ks regs)) fun st=>.ops all rest K st
   |none=>.ops all (o::rest) K st
  |_=>.ops all (o::rest) K st
 |g=>g
structure LookI where
 kt:TypeId
 e:TypeId
 key:PV
 es:List (PV×PV)
def AJ8:Cfg->Option LookI
 |.ops all (o::_) _ st=>match CS all st.env o,o.op with
  |some true,.lookup t m k _=>match IA st.regs (aev st.env k),aev st.env m with
   |some (key,regs),.mref j=>match A2 regs j,tk P t with
    |some (.map es),some (.map kt e)=>if Lf P kt key then some ⟨kt,e,key,es⟩else none
    |_,_=>none
   |_,_=>none
  |_,_=>none
 |_=>none
def AT9 (e:TypeId):Option PV->Option (PV×Bool)
 |some x=>some (x,true)
 |none=>(LI P e).map fun z=>(z,false)
def AJ9 (x:PV)(b:Bool):Cfg->Cfg
 |.ops all (o::rest) K st=>match o.op with
  |.lookup _ _ k ok=>match IA st.regs (aev st.env k)with
   |some (_,regs)=>AD7 o.dst (if ok then .tup [.p x,.bool b]else .p x) st.env regs fun st=>.ops all rest K st
   |none=>.ops all (o::rest) K st
  |_=>.ops all (o::rest) K st
 |g=>g
def updE:Cfg->Option (TypeId×PV×PV×List (PV×PV))
 |.ops all (o::_) _ st=>match CS all st.env o,o.op with
  |some true,.mapUpdate t m k x=>match aev st.env k,aev st.env m,IA st.regs (aev st.env x)with
   |.p key,.mref j,some (y,regs)=>match A2 regs j,tk P t with
    |some (.map es),some (.map kt _)=>if Lf P kt (nP key) then some (kt,nP key,y,es)else none
    |_,_=>none
   |_,_,_=>none
  |_,_=>none
 |_=>none
def updK (es' : List (PV×PV)):Cfg->Cfg
 |.ops all (o::rest) K st=>match o.op with
  |.mapUpdate _ m _ x=>match aev st.env m,IA st.regs (aev st.env x)with
   |.mref j,some (_,regs)=>AD7 o.dst YG st.env (ins j (.map es') regs) fun st=>.ops all rest K st
   |_,_=>.ops all (o::rest) K st
  |_=>.ops all (o::rest) K st
 |g=>g
def IR:Cfg->Bool
 |.code (.loop _) _ _=>true
 |_=>false
def Tf:Cfg->Code
 |.code (.loop b) _ _=>b
 |_=>.skip
def popSt:Cfg->Option St
 |.pop .normal _ st=>some st
 |_=>none
def Tg (M:It):Nat->List It->List It
 |0,K=>M::K
 |n+1,i::K=>i::Tg M n K
 |_+1,[]=>[M]
def AU0 (n:Nat)(M:St->Prop):Cfg->Cfg
 |.code c K st=>.code c (Tg (.mid M) n K) st
 |.ops all rest K st=>.ops all rest (Tg (.mid M) n K) st
 |.pop e K st=>.pop e (Tg (.mid M) n K) st
def Gv:Cfg->Bool
 |.ops _ (_::_) _ _=>true
 |_=>false
def opsS (st:St):Cfg->Cfg
 |.ops all rest K _=>.ops all rest K st
 |g=>g
def AK0:Cfg->Option St
 |.pop .ret [] st=>some st
 |.pop .normal [] st=>some st
 |_=>none
inductive Leaf where
 |eq (x y:PV)
 |fn (n m:Nat) (f g:Nat->List PV)
 |mp (x y:List (PV×PV))
 |yl (x y:List (List PV)) (b c:Bool)
 |nt (a b:Nat)
 |ob (n:Nat) (f g:Nat->Obj)
inductive LV where
 |eq (x:PV)
 |fn (n:Nat) (f:Nat->List PV)
 |mp (x:List (PV×PV))
 |yl (x:List (List PV)) (b:Bool)
 |nt (a:Nat)
 |ob (f:Nat->Obj)
def Leaf.src:Leaf->LV
 |.eq x _=>.eq x
 |.fn n _ f _=>.fn n f
 |.mp x _=>.mp x
 |.yl x _ b _=>.yl x b
 |.nt a _=>.nt a
 |.ob _ f _=>.ob f
def Leaf.tgt:Leaf->LV
 |.eq _ y=>.eq y
 |.fn _ m _ g=>.fn m g
 |.mp _ y=>.mp y
 |.yl _ y _ c=>.yl y c
 |.nt _ b=>.nt b
 |.ob _ _ g=>.ob g
def Leaf.ok:Leaf->Prop
 |.eq x y=>x=y
 |.fn n m f g=>n=m/\∀i,i<n->f i=g i
 |.mp x y=>x=y
 |.yl x y b c=>x=y/\b=c
 |.nt a b=>a=b
 |.ob n f g=>∀i,i<n->f i=g i
theorem Leaf.ok_of {l:Leaf}(h:l.src=l.tgt):l.ok:=by
 cases l with
 |eq x y=>simp only[Leaf.src,Leaf.tgt,LV.eq.injEq]at h;exact h
 |fn n m f g=>simp only[Leaf.src,Leaf.tgt,LV.fn.injEq]at h;obtain⟨rfl,rfl⟩:=h;exact⟨rfl,fun _ _=>rfl⟩
 |mp x y=>simp only[Leaf.src,Leaf.tgt,LV.mp.injEq]at h;exact h
 |yl x y b c=>simp only[Leaf.src,Leaf.tgt,LV.yl.injEq]at h;exact h
 |nt a b=>simp only[Leaf.src,Leaf.tgt,LV.nt.injEq]at h;exact h
 |ob n f g=>simp only[Leaf.src,Leaf.tgt,LV.ob.injEq]at h;subst h;exact fun _ _=>rfl
def AK1:PV->PV->Leaf
 |.v (.bool b),.bb c=>.eq (.bb b) (.bb c)
 |.v (.slice none 0 0),.sl false _ n f=>.fn 0 n f f
 |.sl nn k n f,.sl false l m g=>if k=l then .fn n m f g else .eq (.sl nn k n f) (.sl false l m g)
 |x,y=>.eq x y
mutual
def IS (regs:D6)(ids:List (Nat×Nat))(a b:AV):Option (List Leaf):=
 match b with
 |.top=>some []
 |.p y=>match viewP regs a with
  |some x=>some [AK1 x y]
  |none=>none
 |.reg j off=>match a with | .reg i off'=>if lk ids j=some i/\off=off' then some []else none|_=>none
 |.vec j=>match a with
  |.vec i=>if lk ids j=some i then some []else none
  |.p (.v (.slice none 0 0))=>if lk ids j=none then some []else none
  |_=>none
 |.vecp j n=>match a with | .vecp i m=>if lk ids j=some i/\n=m then some []else none|_=>none
 |.elt j k n off=>match a with | .elt i k' n' off'=>if lk ids j=some i/\k=k' /\ n=n' /\ off=off' then some []else none|_=>none
 |.mref j=>match a with | .mref i=>if lk ids j=some i then some []else none|_=>none
 |.yf j=>match a with | .yf i=>if lk ids j=some i then some []else none|_=>none
 |.clo f x y=>match a with
  |.clo f' x' y'=>match Oi regs ids x' x,Oi regs ids y' y with|some l,some m=>some (.nt f' f::l++m)|_,_=>none
  |_=>none
 |.tup l=>match a with | .tup l'=>Oi regs ids l' l|_=>none
 |.agr l=>match a with | .agr l'=>Oi regs ids l' l|_=>none
def Oi (regs:D6)(ids:List (Nat×Nat))(a b:List AV):Option (List Leaf):=
 match b with
 |[]=>match a with | []=>some [] | _=>none
 |y::s=>match a with
  |x::r=>match IS regs ids x y,Oi regs ids r s with|some l,some m=>some (l++m)|_,_=>none
  |[]=>none
end
def Av5 (regs:D6)(ids:List (Nat×Nat))(env:Env):Env->Option (List Leaf)
 |[]=>some []
 |(t,b)::r=>match IS regs ids (get env t) b,Av5 regs ids env r with|some l,some m=>some (l++m)|_,_=>none
def Oj (regs:D6)(ids:List (Nat×Nat))(o p:Obj):Option (List Leaf):=
 match p with
 |.cells cs=>match o with | .cells cs'=>Oi regs ids cs' cs|_=>none
 |.vec e k n f vw=>match o with
  |.vec e' k' m g vw'=>if e=e' /\ k=k' /\ (vw' = true->vw=true)then some [.fn m n g f]else none
  |_=>none
 |.map es=>match o with | .map es'=>some [.mp es' es] | _=>none
 |.arr n f=>match o with | .arr m g=>some [.fn m n (fun i=>[g i]) (fun i=>[f i])] | _=>none
 |.ghost cs=>match o with | .ghost cs'=>Oi regs ids cs' cs|_=>none
 |.yld r b=>match o with | .yld r' b'=>some [.yl r' r b' b] | _=>none
 |.fam e n jr x=>match o with
  |.fam e' m jr' x'=>if e=e' /\ lk ids jr=some jr' then (match x,x' with
   |none,none=>some [.nt m n]
   |some (i,a),some (i',a')=>match nov a' a,IS regs ids a' a with
    |true,some l=>some (.nt m n :: .nt i' i::l)
    |_,_=>none
   |_,_=>none)else none
  |_=>none
 |.rows n g=>match o with | .rows m g'=>some [.nt m n,.ob n g' g] | _=>none
 |.dead=>some []
def Av6 (regs:D6)(ids:List (Nat×Nat)):D6->Option (List Leaf)
 |[]=>some []
 |(j,p)::r=>match (match lk ids j with
  |some i=>match A2 regs i with
   |some o=>Oj regs ids o p
   |none=>none
  |none=>match p with
   |.vec _ _ n f _=>some [.fn 0 n f f]
   |_=>none:Option (List Leaf)),Av6 regs ids r with
  |some l,some m=>some (l++m)
  |_,_=>none
def leK (ids:List (Nat×Nat))(s t:St):Option (List Leaf):=
 if (wf t&&H1 (ids.map (·.2))&&YH ids&&Pd ids t.regs&&Kw ids (Ar3 s.env t.env++IE ids s.regs t.regs) t.regs) then
  match Av5 s.regs ids s.env t.env,Av6 s.regs ids t.regs with
  |some l,some m=>some (l++m)
  |_,_=>none
 else none
theorem Av7 {x y:PV}(h:(AK1 x y).ok):leP x y:=by
 unfold AK1 at h;split at h
 ·simp only[Leaf.ok,PV.bb.injEq]at h;subst h;exact .inr (.inr (.inr (.inl ⟨_,rfl,rfl⟩)))
 ·obtain⟨rfl,_⟩:=h;exact .inr (.inr (.inl ⟨_,_,rfl,rfl⟩))
 ·split at h
  ·rename_i hk;subst hk;obtain⟨rfl,h⟩:=h;exact .inr (.inl ⟨_,_,_,_,_,rfl,rfl,h⟩)
  ·exact .inl h
 ·exact .inl h
theorem Mm {l m:List Leaf}(h:∀x∈l++m,x.ok):(∀x∈l,x.ok)/\∀x∈m,x.ok:=
 ⟨fun x hx=>h x (Bb7 _ hx),fun x hx=>h x (Ba5 _ hx)⟩
mutual
theorem QV {regs:D6}{ids:List (Nat×Nat)}{a:AV}(b:AV){L:List Leaf}(h:IS regs ids a b=some L)(hL:∀x∈L,x.ok):leA regs ids a b:=by
 cases b with
 |top=>unfold leA;trivial
 |p y=>
  unfold IS at h;split at h
  ·rename_i x hx;cases h;unfold leA;exact⟨x,hx,Av7 (hL _ (by simp))⟩
  ·cases h
 |reg j off=>
  unfold IS at h;split at h
  ·split at h
   ·rename_i c;obtain⟨h1,rfl⟩:=c;exact AS0 h1
   ·cases h
  ·cases h
 |vec j=>
  unfold IS at h;split at h
  ·split at h
   ·rename_i h1;exact AR9 h1
   ·cases h
  ·split at h
   ·rename_i h1;exact AH2 h1
   ·cases h
  ·cases h
 |vecp j n=>
  unfold IS at h;split at h
  ·split at h
   ·rename_i c;obtain⟨h1,rfl⟩:=c;unfold leA;exact⟨_,h1,rfl⟩
   ·cases h
  ·cases h
 |elt j k n off=>
  unfold IS at h;split at h
  ·split at h
   ·rename_i c;obtain⟨h1,rfl,rfl,rfl⟩:=c;unfold leA;exact⟨_,h1,rfl⟩
   ·cases h
  ·cases h
 |mref j=>
  unfold IS at h;split at h
  ·split at h
   ·rename_i h1;exact Af5 h1
   ·cases h
  ·cases h
 |yf j=>
  unfold IS at h;split at h
  ·split at h
   ·rename_i h1;exact le_yf h1
   ·cases h
  ·cases h
 |clo f x y=>
  unfold IS at h;split at h
  ·split at h
   ·rename_i l m h1 g;cases h;have d:=hL _ (Bg9 ..);simp only[Leaf.ok]at d;subst d;obtain⟨i,o⟩:=Mm fun x hx=>hL x (Bb6 _ hx);exact AS1 (Fr x h1 i) (Fr y g o)
   ·cases h
  ·cases h
 |tup l=>
  unfold IS at h;split at h
  ·exact AT7 (Fr l h hL)
  ·cases h
 |agr l=>
  unfold IS at h;split at h
  ·exact AT8 (Fr l h hL)
  ·cases h
theorem Fr {regs:D6}{ids:List (Nat×Nat)}{a:List AV}(b:List AV){L:List Leaf}(h:Oi regs ids a b=some L)(hL:∀x∈L,x.ok):leL regs ids a b:=by
 cases b with
 |nil=>
  unfold Oi at h;split at h
  ·exact AH3
  ·cases h
 |cons y s=>
  unfold Oi at h;split at h
  ·split at h
   ·rename_i l m h1 c;cases h;obtain⟨d,f⟩:=Mm hL;exact Ar6 (QV y h1 d) (Fr s c f)
   ·cases h
  ·cases h
end
theorem XM {regs:D6}{ids:List (Nat×Nat)}{env:Env}:∀(t:Env) {L:List Leaf},Av5 regs ids env t=some L->(∀x∈L,x.ok)->LN regs ids env t
 |[],_,_,_=>trivial
 |(t,b)::r,L,h,hL=>by
  simp only[Av5]at h;split at h
  ·rename_i l m h1 a;cases h;obtain⟨c,d⟩:=Mm hL;exact⟨QV b h1 c,XM r a d⟩
  ·cases h
theorem Av8 {regs:D6}{ids:List (Nat×Nat)}{o p:Obj}{L:List Leaf}(h:Oj regs ids o p=some L)(hL:∀x∈L,x.ok):leO regs ids o p:=by
 cases p with
 |cells cs=>
  simp only[Oj]at h;split at h
  ·exact Ar7 (Fr cs h hL)
  ·cases h
 |vec e k n f vw=>
  simp only[Oj]at h;split at h
  ·split at h
   ·rename_i d;obtain⟨rfl,rfl,j⟩:=d;cases h;obtain⟨rfl,h1⟩:=hL _ (Bh9.2 rfl);exact⟨_,_,rfl,h1,j⟩
   ·cases h
  ·cases h
 |map es=>
  simp only[Oj]at h;split at h
  ·cases h
   have:=hL _ (Bh9.2 rfl)
   simp only[Leaf.ok]at this;subst this;rfl
  ·cases h
 |arr n f=>
  simp only[Oj]at h;split at h
  ·cases h;obtain⟨rfl,h1⟩:=hL _ (Bh9.2 rfl);exact⟨_,rfl,fun i l=>by simpa using h1 i l⟩
  ·cases h
 |ghost cs=>
  simp only[Oj]at h;split at h
  ·exact⟨_,rfl,Fr cs h hL⟩
  ·cases h
 |yld r b=>
  simp only[Oj]at h;split at h
  ·cases h;obtain⟨rfl,rfl⟩:=hL _ (Bh9.2 rfl);rfl
  ·cases h
 |fam e n jr x=>
  simp only[Oj]at h;split at h
  ·split at h
   ·rename_i m;obtain⟨rfl,c⟩:=m;split at h
    ·cases h;have a:=hL _ (Bg9 ..);simp only[Leaf.ok]at a;subst a;exact⟨_,_,rfl,c,rfl⟩
    ·split at h
     ·rename_i hn hl;cases h;have a:=hL _ (Bg9 ..);have h1:=hL _ (Bb6 _ (Bg9 ..));simp only[Leaf.ok]at a h1;subst a h1;exact⟨_,_,rfl,c,_,rfl,hn,QV _ hl fun x hx=>hL x (by simp[hx])⟩
     ·cases h
    ·cases h
   ·cases h
  ·cases h
 |rows n g=>
  simp only[Oj]at h;split at h
  ·cases h;have a:=hL _ (Bg9 ..);simp only[Leaf.ok]at a;subst a;exact⟨_,rfl,hL (.ob _ _ _) (by simp)⟩
  ·cases h
 |dead=>trivial
theorem XN {regs:D6}{ids:List (Nat×Nat)}:∀(t:D6) {L:List Leaf},Av6 regs ids t=some L->(∀x∈L,x.ok)->Ss regs ids t
 |[],_,_,_=>trivial
 |(j,p)::r,L,h,hL=>by
  simp only[Av6]at h;split at h
  ·rename_i l m h1 c;cases h;obtain⟨b,d⟩:=Mm hL;refine⟨?_,XN r c d⟩;split at h1
   ·rename_i i a;split at h1
    ·rename_i o f;exact .inl ⟨i,o,a,f,Av8 h1 b⟩
    ·cases h1
   ·rename_i a;split at h1
    ·cases h1;obtain⟨rfl,_⟩:=b _ (Bh9.2 rfl);exact .inr ⟨a,_,_,_,_,rfl⟩
    ·cases h1
  ·cases h
theorem AD8 {ids:List (Nat×Nat)}{s t:St}{L:List Leaf}(h:leK ids s t=some L)(hL:∀x∈L,x.ok):Le ids s t:=by
 unfold leK at h;split at h
 ·rename_i hw;split at h
  ·rename_i l m h1 a;cases h;obtain⟨b,c⟩:=Mm hL;exact le_mk hw (XM _ h1 b) (XN _ a c)
  ·cases h
 ·cases h
theorem kle {ids:List (Nat×Nat)}{s t:St}(h:(leK ids s t).map (·.map Leaf.src)=(leK ids s t).map (·.map Leaf.tgt):=by kernel_rfl)(h1:(leK ids s t).isSome=true:=by kernel_rfl):Le ids s t:=by
 obtain⟨L,hL⟩:=Bb0.1 h1;rw[hL]at h;simp only[Ba2,AZ3]at h;refine AD8 hL fun x hx=>?_;obtain⟨i,a,rfl⟩:=Bi2.1 hx
 have:=congrArg (·[i]?) h
 simp only[AZ8,AZ5 a,Ba2,AZ3]at this;exact Leaf.ok_of this
def AU1 (is:List Nat)(f:Leaf->LV)(L:List Leaf):List (Option LV):=L.zipIdx.map fun q=>if is.contains q.2 then none else some (f q.1)
theorem kleR {ids:List (Nat×Nat)}{s t:St}(rs:List (Nat×Leaf))(d:∀q∈rs,q.2.ok)(h:(leK ids s t).map (AU1 (rs.map (·.1)) Leaf.src)=(leK ids s t).map (AU1 (rs.map (·.1)) Leaf.tgt):=by kernel_rfl)
 (a:(leK ids s t).map (fun L=>rs.map fun q=>L[q.1]?)=some (rs.map fun q=>some q.2):=by kernel_rfl):Le ids s t:=by
 cases hL:leK ids s t with
 |none=>rw[hL]at a;cases a
 |some L=>
  rw[hL]at h a;simp only[Ba2,AZ3]at h a;refine AD8 hL fun x hx=>?_;obtain⟨i,b,rfl⟩:=Bi2.1 hx;by_cases hm:(rs.map (·.1)).contains i=true
  ·simp only[Bd4,decide_eq_true_eq,Bh8]at hm;obtain⟨q,c,rfl⟩:=hm;obtain⟨k,hk,rfl⟩:=Bi2.1 c
   have:=congrArg (·[k]?) a
   simp only[AZ8,AZ5 hk,Ba2,AZ3,AZ5 b]at this;rw[this];exact d _ c
  ·have:=congrArg (·[i]?) h
   simp only[AU1,AZ8,List.getElem?_zipIdx,AZ5 b,Ba2,Bc7,hm,AZ3]at this;exact Leaf.ok_of (by simpa using this)
end
section
variable {P:Program}
variable {S:Az}{F:J8}{g:Cfg}{pr:Prop}
theorem Gh (hS:H5 S P)(hc:pr)(h:G S P F (stp P g))(hp:pr=E5 (cnd P g):=by kernel_rfl):G S P F g:=
 (Gl (F:=F) hS 400 [] g (by subst hp;exact hc)).2 h
theorem AU2 (hS:H5 S P)(hc:pr){b:Bool}(ht:b=true->G S P F (AJ6 (stp P g)))(a:b=false->G S P F (AJ7 (stp P g)))(hp:pr=E5 (cnd P g):=by kernel_rfl)(hb:Av3 (stp P g)=some b:=by kernel_rfl):G S P F g:=by
 refine Gh hS hc ?_ hp;generalize stp P g=g' at hb ht a;unfold Av3 at hb;split at hb
 ·split at hb
  ·rename_i hc;cases hb;exact AR6 hc ht a
  ·cases hb
 ·cases hb
theorem AK2 (hS:H5 S P)(hc:pr){b:Bool}(ht:b=true->G S P F (Ml true (stp P g)))(a:b=false->G S P F (Ml false (stp P g)))(hp:pr=E5 (cnd P g):=by kernel_rfl)(hb:XL (stp P g)=some b:=by kernel_rfl):G S P F g:=by
 refine Gh hS hc ?_ hp;generalize stp P g=g' at hb ht a;unfold XL at hb;split at hb
 ·split at hb
  ·rename_i d;split at hb
   ·rename_i f;split at hb
    ·rename_i c;cases hb;simp only[Ml,d,f,Ka,put]at ht a;exact AH0 hS d f c ht a
    ·cases hb
   ·cases hb
  ·cases hb
 ·cases hb
theorem AU3 (hS:H5 S P)(ids:List Nat)(hc:pr){fn:FuncId}{args:List AV}{objs objs' : List Obj}{r:AV}{ks:List Bool}(i:FunO S fn args objs r objs' ks)
 (hk:G S P F (Av4 ids ks r objs' (stp P g))) (hp:pr=E5 (cnd P g):=by kernel_rfl) (a:Zk ids (stp P g)=some (fn,args,objs):=by kernel_rfl) (hn:Zl ids ks objs'.length (stp P g)=true:=by kernel_rfl):G S P F g:=by
 refine Gh hS hc ?_ hp;generalize stp P g=g' at a hn hk;unfold Zk at a;split at a
 ·split at a
  ·rename_i j f;split at a
   ·rename_i c;split at a
    ·rename_i ha;split at a
     ·rename_i hw;split at a
      ·rename_i l d;split at a
       ·rename_i b;cases a;simp only[AZ6]at b;simp only[Av4,Zl,f,ha,Ka]at hk hn;exact AH1 hS ids j f c ha hw l d i b.1 b.2 hn hk
       ·cases a
      ·cases a
     ·cases a
    ·cases a
   ·cases a
  ·cases a
 ·cases a
theorem Av9 (hS:H5 S P)(hc:pr){kt e:TypeId}{key:PV}{es:List (PV×PV)}{x:PV}{b:Bool}{fd:Option PV}
 (j:find (Oc P kt) key es=some fd) (c:E5 (Qx P kt))
 (hk:G S P F (AJ9 x b (stp P g))) (hp:pr=E5 (cnd P g):=by kernel_rfl) (a:AJ8 P (stp P g)=some ⟨kt,e,key,es⟩:=by kernel_rfl) (hx:AT9 P e fd=some (x,b):=by kernel_rfl):G S P F g:=by
 refine Gh hS hc ?_ hp;generalize stp P g=g' at a hk;unfold AJ8 at a;split at a
 ·split at a
  ·rename_i l f;split at a
   ·rename_i i hm;split at a
    ·rename_i m ht;split at a
     ·rename_i d;simp only[AZ3,LookI.mk.injEq]at a;obtain⟨rfl,rfl,rfl,rfl⟩:=a;simp only[AJ9,f,i,Ka]at hk;cases fd with
      |some y=>exact XJ (fd:=some y) hS l f i hm m ht d j hx c hk
      |none=>exact XJ (fd:=none) hS l f i hm m ht d j hx c hk
     ·cases a
    ·cases a
   ·cases a
  ·cases a
 ·cases a
theorem Aw0 (hS:H5 S P)(hc:pr){kt:TypeId}{key y:PV}{es es' : List (PV×PV)}
 (j:upd (Oc P kt) key y es=some es') (b:E5 (Qx P kt)) (hk:G S P F (updK es' (stp P g))) (hp:pr=E5 (cnd P g):=by kernel_rfl) (a:updE P (stp P g)=some (kt,key,y,es):=by kernel_rfl):G S P F g:=by
 refine Gh hS hc ?_ hp;generalize stp P g=g' at a hk;unfold updE at a;split at a
 ·split at a
  ·rename_i l d;split at a
   ·rename_i h1 f i;split at a
    ·rename_i m ht;split at a
     ·rename_i c;simp only[AZ3,Bc0]at a;obtain⟨rfl,rfl,rfl,rfl⟩:=a;simp only[updK,d,f,i,Ka]at hk;exact Vr hS l d h1 i f m ht c j b hk
     ·cases a
    ·cases a
   ·cases a
  ·cases a
 ·cases a
theorem AU4 (hS:H5 S P)(hc:pr)(st:St){ids:List (Nat×Nat)}(hk:G S P F (opsS st (stp P g)))(hp:pr=E5 (cnd P g):=by kernel_rfl)(a:Gv (stp P g)=true:=by kernel_rfl)(hle:Le ids (stp P g).st st:=by exact kle):G S P F g:=by
 refine Gh hS hc ?_ hp;generalize stp P g=g' at a hle hk;unfold Gv at a;split at a
 ·exact Ai7 hS st ids hle hk
 ·cases a
end
section
variable {S:Az}{P:Program}{F:J8}{g:Cfg}{pr:Prop}
theorem IT (hS:H5 S P){K1 K2:List It}(h:∀e s,kp S P K1 F e s->kp S P K2 F e s):∀(K:List It) (e:LJ) (s:St),kp S P (K++K1) F e s->kp S P (K++K2) F e s
 |[],e,s,hk=>h e s hk
 |.code c::K,e,s,hk=>by simp only[Bd2,kp]at hk⊢;exact QU hS (fun t=>BA hS c (IT hS h K)) (IT hS h K) e s hk
 |.blk id::K,e,s,hk=>by
  simp only[Bd2,kp]at hk⊢;cases e with
  |exit i=>
   simp only[blk]at hk⊢;split at hk
   ·rename_i a;rw[if_pos a];exact IT hS h K _ _ hk
   ·rename_i a;rw[if_neg a];exact IT hS h K _ _ hk
  |_=>exact IT hS h K _ _ hk
 |.lp X s' J m n::K,e,s,hk=>by
  simp only[Bd2,kp]at hk⊢;cases e with
  |normal=>exact hk
  |_=>exact IT hS h K _ _ hk
 |.mid M::K,e,s,hk=>by simp only[Bd2,kp]at hk⊢;exact QU hS (fun t h=>h) (IT hS h K) e s hk
 |.scp::K,e,s,hk=>by
  simp only[Bd2,kp]at hk⊢;cases e with
  |goto l=>exact hk
  |_=>exact IT hS h K _ _ hk
theorem XO (M:It):∀(n:Nat) (K:List It),n<=K.length->Tg M n K=K.take n++M::K.drop n
 |0,K,_=>by simp[Tg]
 |n+1,i::K,h=>by simp only[Tg,Bi7,List.drop_succ_cons,Bd2,XO M n K (by simpa using h)]
 |n+1,[],h=>by simp at h
theorem AD9 (hS:H5 S P)(a:∀s,S.up s (F .normal)->F .normal s)(n:Nat)(hn:n<=g.k.length){M:St->Prop}(b:∀t,M t->G S P F (.pop .normal (g.k.drop n) t))(h:G S P F (AU0 n M g)):G S P F g:=by
 have hk:∀e s,kp S P (Tg (.mid M) n g.k) F e s->kp S P g.k F e s:=by
  intro e s;rw[XO _ _ _ hn]
  conv=>rhs;rw[<- Bj6 n g.k]
  exact IT hS (AT5 hS a b) _ e s
 cases g with
 |code c K st=>exact BA hS c hk h
 |ops all rest K st=>exact Gt hS hk rest h
 |pop e K st=>exact hk e st h
theorem J_cut (hS:H5 S P)(hc:pr)(b:∀s,S.up s (F .normal)->F .normal s)(n:Nat)(s:St)
 (h1:∀(M:St->Prop),(∀(g' : Cfg) (ids:List (Nat×Nat)) (pr:Prop),pr->(hp:pr=E5 (cnd P g'):=by kernel_rfl)->(a:stp P g' = .pop .normal (.mid M::(stp P g).k.drop n) (stp P g').st:=by kernel_rfl)->(hle:Le ids (stp P g').st s:=by exact kle)->G S P F g')->G S P F (AU0 n M (stp P g)))
 (c:G S P F (.pop .normal ((stp P g).k.drop n) s)) (hp:pr=E5 (cnd P g):=by kernel_rfl) (hn:Nat.ble n (stp P g).k.length=true:=by kernel_rfl):G S P F g:=by
 refine Gh hS hc ?_ hp;refine AD9 hS b n (Bf8 hn) (M:=fun t=>t=s) (fun t ht=>by subst ht;exact c) (h1 _ fun g' ids pr hc hp a hle=>?_);refine Gh hS hc ?_ hp;rw[a];exact hS.le ids _ _ _ hle rfl
theorem J_lt (hS:H5 S P)(hc:pr)(c:∀s,S.up s (F .normal)->F .normal s){R A:Type}{f:(A->Option R)->Option R}{k0:A->Option R}{r:R}(h:lt k0 f=some r)(n:Nat)(s:A->St)
 (h1:∀(M:St->Prop) (k:A->Option R),(∀(g' : Cfg) (ids:List (Nat×Nat)) (pr:Prop) (a:A),pr->k a=some r->(hp:pr=E5 (cnd P g'):=by kernel_rfl)->(b:stp P g' = .pop .normal (.mid M::(stp P g).k.drop n) (stp P g').st:=by kernel_rfl)->(hle:Le ids (stp P g').st (s a):=by exact kle)->G S P F g')->f k=some r->G S P F (AU0 n M (stp P g)))
 (d:∀a,k0 a=some r->G S P F (.pop .normal ((stp P g).k.drop n) (s a))) (hp:pr=E5 (cnd P g):=by kernel_rfl) (hn:Nat.ble n (stp P g).k.length=true:=by kernel_rfl):G S P F g:=by
 refine Gh hS hc ?_ hp;refine AD9 hS c n (Bf8 hn) (M:=fun t=>∃a,t=s a/\k0 a=some r) (fun t ⟨a,ht,hk⟩=>by subst ht;exact d a hk) (h1 _ k0 (fun g' ids pr a hc hk hp b hle=>?_) h);refine Gh hS hc ?_ hp;rw[b];exact hS.le ids _ _ _ hle ⟨a,rfl,hk⟩
theorem Ai9 {g:Cfg}(h:IR g=true):g=.code (.loop (Tf g)) g.k g.st:=by
 unfold IR at h;split at h
 ·rfl
 ·cases h
theorem AU5 (hS:H5 S P)(hc:pr){R A:Type}{body:(A->Option R)->A->Option R}{N:Nat}{a0:A}{r:R}(h:W6 N body a0=some r)(s:A->St){ids:List (Nat×Nat)}
 (i:∀(X:Type) (s' : X->St) (J:X->Prop) (m:X->Nat) (n:Nat) (b:A->Option R) (a:A),
  (∀(g' : Cfg) (ids:List (Nat×Nat)) (pr:Prop) (a:A),pr->b a=some r->(hp:pr=E5 (cnd P g'):=by kernel_rfl)->(f:stp P g' = .pop .normal (.lp X s' J m n::(stp P g).k) (stp P g').st:=by kernel_rfl)->(hle:Le ids (stp P g').st (s a):=by exact kle)->G S P F g') ->
  body b a=some r->G S P F (.code (Tf (stp P g)) (.lp X s' J m n::(stp P g).k) (s a))) (hp:pr=E5 (cnd P g):=by kernel_rfl) (hl:IR (stp P g)=true:=by kernel_rfl) (hle:Le ids (stp P g).st (s a0):=by exact kle):G S P F g:=by
 refine Gh hS hc ?_ hp;rw[Ai9 hl];refine AT6 hS h s ids hle fun X s' J m n b a hb c=>i X s' J m n b a (fun g' ids pr a hc d hp f hle=>?_) c;refine Gh hS hc ?_ hp;rw[f];exact hb _ _ _ hle d
def Vt (P:Program)(st:St)(rs:List ResultVar)(outs:List Nat):Option (AV×List Obj):=match Gk P st rs with
 |some l=>match Sj outs (one l),J9 outs st.regs outs with
  |some a,some o=>if H1 outs then some (a,o)else none
  |_,_=>none
 |none=>none
theorem J_ret (hS:H5 S P)(hc:pr){n:Nat}{rs:List ResultVar}{Q:LK->List Obj->List Bool->Prop}{a:AV}{objs:List Obj}(outs:List Nat)(c:Q (.ret a) objs (FR n outs))(hp:pr=E5 (cnd P g):=by kernel_rfl)(d:(AK0 (stp P g)).bind (fun st=>Vt P st rs outs)=some (a,objs):=by kernel_rfl) :G S P (Cu S P n rs Q) g:=by
 refine Gh hS hc ?_ hp;generalize stp P g=g' at d;obtain⟨st,h1,b⟩:=Bi8.1 d;unfold Vt at b;split at b
 ·rename_i l hl;split at b
  ·rename_i f i;split at b
   ·rename_i j;cases b;unfold AK0 at h1;split at h1
    ·cases h1;exact hS.refl _ _ ⟨l,outs,a,objs,hl,j,f,i,c⟩
    ·cases h1;exact hS.refl _ _ ⟨l,outs,a,objs,hl,j,f,i,c⟩
    ·cases h1
   ·cases b
  ·cases b
 ·cases b
theorem AU6 (hS:H5 S P)(hc:pr){n:Nat}{rs:List ResultVar}{Q:LK->List Obj->List Bool->Prop}{a:AV}{objs:List Obj}(st:St)(outs:List Nat){ids:List (Nat×Nat)}(f:Q (.ret a) objs (FR n outs))(hp:pr=E5 (cnd P g):=by kernel_rfl)(c:(AK0 (stp P g)).isSome=true:=by kernel_rfl)(hle:Le ids (stp P g).st st:=by exact kle)(d:Vt P st rs outs=some (a,objs):=by kernel_rfl) :G S P (Cu S P n rs Q) g:=by
 refine Gh hS hc ?_ hp;generalize stp P g=g' at c hle;have b:=d;unfold Vt at b;split at b
 ·rename_i l hl;split at b
  ·rename_i d i;split at b
   ·rename_i j;cases b;unfold AK0 at c;split at c
    ·exact hS.le ids _ _ _ hle ⟨l,outs,a,objs,hl,j,d,i,f⟩
    ·exact hS.le ids _ _ _ hle ⟨l,outs,a,objs,hl,j,d,i,f⟩
    ·cases c
   ·cases b
  ·cases b
 ·cases b
theorem AK3 (hS:H5 S P){f:FuncId}{fn:Func}{args:List AV}{objs objs' : List Obj}{ks:List Bool}{r:AV}(d:P.funcs[f]? = some fn)
 (h:G S P (Cu S P objs.length fn.results.toList fun res o k=>res=.ret r/\o=objs' /\ k=ks) (.code (fn.body.getD .skip) [] { env:=argEnv args,regs:=objRegs objs }))
 (hc:fn.body.isSome=true:=by kernel_rfl) (hn:Nat.ble args.length fn.ntmps=true:=by kernel_rfl) (g:Nat.blt objs.length 1000=true:=by kernel_rfl)
 (b:AA fn.ntmps (fn.body.getD .skip)=true:=by kernel_rfl) (c:(fn.name == "runtime.NumGoroutine")=false:=by kernel_rfl):FunO S f args objs r objs' ks:=by
 obtain⟨code,a⟩:=Bb0.1 hc;rw[a,Ba1]at b h;exact Af6 hS d a (Bf8 hn) (by simpa[Bj8]using g) rfl b c h
theorem al0:∀q∈([]:List (Nat×Leaf)),q.2.ok:=fun _ h=>by cases h
theorem al1 {i:Nat}{l:Leaf}{rs:List (Nat×Leaf)}(h:l.ok)(t:∀q∈rs,q.2.ok):∀q∈(i,l)::rs,q.2.ok:=fun q a=>by
 rcases Bc8.1 a with rfl|a
 ·exact h
 ·exact t q a
structure SC where
 all:List Oper
 cls:List Cls
 rest:List Oper
 env:Env
 regs:D6
 kn:List Nat
def SG (S:Az)(P:Program)(sc:SC)(k:Env->D6->Prop):Prop:=NX S P sc.all sc.cls sc.rest sc.env sc.regs k
def Gi (P:Program)(sc:SC):SC:=match NY P sc.kn sc.all sc.cls sc.rest [] sc.env sc.regs with
 |⟨_,cls,rest,env,regs⟩=>⟨sc.all,cls,rest,env,regs,sc.kn⟩
def Ad5 (P:Program)(sc:SC):List Prop:=(NY P sc.kn sc.all sc.cls sc.rest [] sc.env sc.regs).conds
def Fs:Cfg->Bool
 |.code (.region _ _ true) _ _=>true
 |_=>false
def Ik:Cfg->SC
 |.code (.region _ ops true) _ st=>⟨ops.toList,ops.toList.map fun o=>AY4 o.op,ops.toList,st.env,st.regs,[]⟩
 |_=>⟨[],[],[],[],[],[]⟩
theorem AK4 (hS:H5 S P)(hc:pr)
 (h:SG S P (Ik (stp P g)) fun env regs=>G S P F (.pop .normal (stp P g).k ⟨env,regs⟩)) (hp:pr=E5 (cnd P g):=by kernel_rfl) (c:Fs (stp P g)=true:=by kernel_rfl) (a:P.follows .mixedOrders=true:=by kernel_rfl) (b:Mi (Ik (stp P g)).all (Ik (stp P g)).cls=true:=by kernel_rfl):G S P F g:=by
 refine Gh hS hc ?_ hp;generalize stp P g=g' at c b h;unfold Fs at c;split at c
 ·exact Au5 hS a rfl b h
 ·cases c
section
variable {sc:SC}{k:Env->D6->Prop}
theorem AU7 (hc:pr)(h:SG S P (Gi P sc) k)(hp:pr=E5 (Ad5 P sc):=by kernel_rfl):SG S P sc k:=by subst hp;unfold Gi at h;unfold Ad5 at hc;unfold SG at *;generalize a:NY P sc.kn sc.all sc.cls sc.rest [] sc.env sc.regs=r at h hc;obtain⟨c,cls,rest,env,regs⟩:=r;exact s_go a hc h
theorem C_end (hc:pr)(h:k (Gi P sc).env (Gi P sc).regs)(hp:pr=E5 (Ad5 P sc):=by kernel_rfl)(a:(Gi P sc).rest.isEmpty=true:=by kernel_rfl):SG S P sc k:=by
 refine AU7 hc ?_ hp;generalize Gi P sc=s at a h;obtain⟨all,cls,rest,env,regs,kn⟩:=s;cases rest with
 |nil=>exact s_end h
 |cons=>simp at a
def AU8 {R:Type _}(d:Option Nat)(a:AV)(env:Env)(regs:D6)(κ : Env->D6->R):R:=match d with
 |some d=>mkO (ins d a env) regs κ
 |none=>mkO env regs κ
theorem Vu {R:Type _}(d:Option Nat)(a:AV)(env:Env)(regs:D6)(κ : Env->D6->R):AU8 d a env regs κ = κ (Pu d a env) regs:=by cases d<;>simp only[AU8,EN,Pu]
theorem AE0:∀{env:Env}{i d:Nat}{b:AV},Ar2 ((i,b)::env)=true->get env d ≠ .top->d<i
 |[],_,_,_,_,h=>absurd rfl h
 |(j,c)::r,i,d,b,hd,h=>by
  simp only[Ar2,AZ6,decide_eq_true_eq]at hd;by_cases e:j=d
  ·subst e;exact hd.1
  ·simp only[get,e,if_false]at h;exact Nat.lt_trans (AE0 hd.2 h) hd.1
theorem QW:∀{env:Env}{d:Nat}{a:AV},Ar2 env=true->get env d=a->a ≠ .top->ins d a env=env
 |[],_,_,_,h,hn=>absurd h.symm hn
 |(i,b)::r,d,a,hd,h,hn=>by
  by_cases e:i=d
  ·subst e;simp only[get,if_true]at h;subst h;simp[ins]
  ·simp only[get,e,if_false]at h;have c:=AE0 hd (by rw[h];exact hn);have f:Ar2 r=true:=by
    cases r with
    |nil=>rfl
    |cons p r=>simp only[Ar2,AZ6]at hd;exact hd.2
   simp only[ins,show ¬i<d by omega,e,if_false,QW f h hn]
def QX (sc:SC):Option Bool:=match sc.rest with
 |o::_=>match o.guard with
  |some (j,_)=>match AR7 sc.all j with
   |some d=>match get sc.env d with
    |.p (.bb b)=>if Ar2 sc.env then some b else none
    |_=>none
   |none=>none
  |none=>none
 |[]=>none
def Mn (v:Bool)(sc:SC):SC:=match sc.rest with
 |o::_=>match o.guard with
  |some (j,_)=>match AR7 sc.all j with
   |some d=>mkO (ins d (.p (.bb v)) sc.env) sc.regs fun env regs=>⟨sc.all,sc.cls,sc.rest,env,regs,j::sc.kn⟩
   |none=>sc
  |none=>sc
 |[]=>sc
theorem AK5 (hc:pr){b:Bool}(ht:b=true->SG S P (Mn true (Gi P sc)) k)(f:b=false->SG S P (Mn false (Gi P sc)) k)(hp:pr=E5 (Ad5 P sc))(hb:QX (Gi P sc)=some b):SG S P sc k:=by
 refine AU7 hc ?_ hp;generalize Gi P sc=s at hb ht f;obtain⟨all,cls,rest,env,regs,kn⟩:=s;cases rest with
 |nil=>simp[QX]at hb
 |cons o rest=>
  simp only[QX]at hb;split at hb
  ·rename_i j w g;split at hb
   ·rename_i d i;split at hb
    ·rename_i b' a;split at hb
     ·rename_i c;simp only[AZ3]at hb;subst hb;simp only[Mn,g,i,EN]at ht f;cases b' with
      |true=>have:=ht rfl;rwa [QW c a (by simp)]at this
      |false=>have:=f rfl;rwa [QW c a (by simp)]at this
     ·cases hb
    ·cases hb
   ·cases hb
  ·cases hb
def XP (ids:List Nat)(sc:SC):Option (FuncId×List AV×List Obj):=match sc.rest with
 |o::_=>match Ed sc.all sc.env o,o.op with
  |some true,.call c=>match c.callee with
   |.value f=>match NW sc.regs (c.args.toList.map (aev sc.env))with
    |some (as,regs)=>match UU sc.env f as with
     |some (fn,as')=>match Dc ids as',J9 ids regs ids with
      |some a,some ob=>if H1 ids&&EE ob then some (fn,a,ob)else none
      |_,_=>none
     |none=>none
    |none=>none
   |_=>none
  |_,_=>none
 |[]=>none
def Th (ids:List Nat)(ks:List Bool)(n:Nat)(sc:SC):Bool:=match sc.cls,sc.rest with
 |.w::_,o::_=>match o.op with
  |.call c=>match NW sc.regs (c.args.toList.map (aev sc.env))with
   |some (_,regs)=>Dr regs ids ks (o.dst.getD 0) n
   |none=>false
  |_=>false
 |_,_=>false
def Aj0 (ids:List Nat)(ks:List Bool)(r:AV)(objs' : List Obj)(sc:SC):SC:=match sc.rest with
 |o::rest=>match o.op with
  |.call c=>match NW sc.regs (c.args.toList.map (aev sc.env))with
   |some (_,regs)=>AU8 o.dst (unA (O7 (o.dst.getD 0) ids ks objs'.length) r) sc.env
    (Ad1 (O7 (o.dst.getD 0) ids ks objs'.length) (O7 (o.dst.getD 0) ids ks objs'.length) objs' (O8 ids ks regs)) fun env regs=>⟨sc.all,sc.cls.tail,rest,env,regs,sc.kn⟩
   |none=>sc
  |_=>sc
 |[]=>sc
theorem AU9 (ids:List Nat)(hc:pr){fn:FuncId}{args:List AV}{objs objs' : List Obj}{r:AV}{ks:List Bool}(i:FunO S fn args objs r objs' ks)
 (hk:SG S P (Aj0 ids ks r objs' (Gi P sc)) k) (hp:pr=E5 (Ad5 P sc):=by kernel_rfl) (a:XP ids (Gi P sc)=some (fn,args,objs):=by kernel_rfl) (hn:Th ids ks objs'.length (Gi P sc)=true:=by kernel_rfl):SG S P sc k:=by
 refine AU7 hc ?_ hp;generalize Gi P sc=s at a hn hk;obtain⟨all,cls,rest,env,regs,kn⟩:=s;cases rest with
 |nil=>simp[XP]at a
 |cons o rest=>
  simp only[XP]at a;split at a
  ·rename_i c j d;split at a
   ·rename_i f;split at a
    ·rename_i ha;split at a
     ·rename_i hw;split at a
      ·rename_i l g;split at a
       ·rename_i b;cases a;simp only[AZ6]at b;cases cls with
        |nil=>simp[Th]at hn
        |cons cl cls=>
         cases cl with
         |w=>simp only[Th,d,ha]at hn;simp only[Aj0,d,ha,Vu,Bq4]at hk;exact AJ1 ids j d f ha hw l g i b.1 b.2 hn hk
         |_=>simp[Th]at hn
       ·cases a
      ·cases a
     ·cases a
    ·cases a
   ·cases a
  ·cases a
def XQ (sc:SC):Bool:=match sc.cls,sc.rest with
 |_::_,o::_=>match o.op with
  |.call c=>(c.args.toList.map (aev sc.env)).all Ah9
  |_=>false
 |_,_=>false
def XR (sc:SC):Option (FuncId×List AV):=match sc.rest with
 |o::_=>match Ed sc.all sc.env o,o.op with
  |some true,.call c=>match c.callee with
   |.value f=>match UU sc.env f (c.args.toList.map (aev sc.env))with
    |some (fn,as')=>match Dc [] as' with
     |some a=>some (fn,a)
     |none=>none
    |none=>none
   |_=>none
  |_,_=>none
 |[]=>none
def Aj1 (r:AV)(sc:SC):SC:=match sc.rest with
 |o::rest=>AU8 o.dst (unA [] r) sc.env sc.regs fun env regs=>⟨sc.all,sc.cls.tail,rest,env,regs,sc.kn⟩
 |[]=>sc
theorem AV0 (hc:pr){fn:FuncId}{args:List AV}{r:AV}(f:FunO S fn args [] r [] [])
 (hk:SG S P (Aj1 r (Gi P sc)) k) (hp:pr=E5 (Ad5 P sc):=by kernel_rfl) (a:XR (Gi P sc)=some (fn,args):=by kernel_rfl) (hn:XQ (Gi P sc)=true:=by kernel_rfl):SG S P sc k:=by
 refine AU7 hc ?_ hp;generalize Gi P sc=s at a hn hk;obtain⟨all,cls,rest,env,regs,kn⟩:=s;cases rest with
 |nil=>simp[XR]at a
 |cons o rest=>
  cases cls with
  |nil=>simp[XQ]at hn
  |cons cl cls=>
   simp only[XR]at a;split at a
   ·rename_i c g d;split at a
    ·rename_i b;split at a
     ·rename_i hw;split at a
      ·rename_i i;cases a;simp only[XQ,d]at hn;simp only[Aj1,Vu,Bq4]at hk;exact AT2 g d b hn hw i f hk
      ·cases a
     ·cases a
    ·cases a
   ·cases a
def Ft (P:Program)(sc:SC):Option (List Prop×PV):=match sc.cls,sc.rest with
 |_::_,o::_=>match Ed sc.all sc.env o with
  |some true=>Sq P sc.env o.op
  |_=>none
 |_,_=>none
def Vv (x:PV)(sc:SC):SC:=match sc.rest with
 |o::rest=>AU8 o.dst (.p x) sc.env sc.regs fun env regs=>⟨sc.all,sc.cls.tail,rest,env,regs,sc.kn⟩
 |[]=>sc
theorem AK6 (hc:pr){x:PV}(hk:SG S P (Vv x (Gi P sc)) k)(hp:pr=E5 (Ad5 P sc):=by kernel_rfl)(a:(Ft P (Gi P sc)).map (·.2)=some x:=by kernel_rfl)(b:((Ft P (Gi P sc)).map fun q=>E5 q.1)=some (true=true):=by kernel_rfl):SG S P sc k:=by
 refine AU7 hc ?_ hp;generalize Gi P sc=s at a b hk;obtain⟨all,cls,rest,env,regs,kn⟩:=s;cases rest with
 |nil=>cases cls<;>simp[Ft]at a
 |cons o rest=>
  cases cls with
  |nil=>simp[Ft]at a
  |cons cl cls=>
   cases d:Ed all env o with
   |none=>simp[Ft,d]at a
   |some bb=>
    cases bb with
    |false=>simp[Ft,d]at a
    |true=>
     simp only[Ft,d]at a b;cases ha:Sq P env o.op with
     |none=>rw[ha]at a;cases a
     |some q=>obtain⟨c,y⟩:=q;rw[ha]at a b;simp only[Ba2,AZ3]at a b;subst a;simp only[Vv,Vu,Bq4]at hk;exact Au4 d ha (by rw[b];trivial) hk
end
end
structure KG (S:Az) (P:Program) (F:J8) (g:Cfg):Prop where
 out:G S P F g
structure DG (S:Az) (P:Program) (sc:SC) (k:Env->D6->Prop):Prop where
 out:SG S P sc k
structure KLe (ids:List (Nat×Nat)) (s t:St):Prop where
 out:Le ids s t
section
variable {S:Az}{P:Program}{F:J8}{g:Cfg}{pr:Prop}
theorem kl {ids:List (Nat×Nat)}{s t:St}(h:(leK ids s t).map (·.map Leaf.src)=(leK ids s t).map (·.map Leaf.tgt):=by kernel_rfl)(h1:(leK ids s t).isSome=true:=by kernel_rfl):KLe ids s t:=⟨kle h h1⟩
theorem klR {ids:List (Nat×Nat)}{s t:St}(rs:List (Nat×Leaf))(a:∀q∈rs,q.2.ok)(h:(leK ids s t).map (AU1 (rs.map (·.1)) Leaf.src)=(leK ids s t).map (AU1 (rs.map (·.1)) Leaf.tgt):=by kernel_rfl)
 (b:(leK ids s t).map (fun L=>rs.map fun q=>L[q.1]?)=some (rs.map fun q=>some q.2):=by kernel_rfl):KLe ids s t:=⟨kleR rs a h b⟩
theorem D3 (hS:H5 S P)(hc:pr){b:Bool}(ht:b=true->KG S P F (AJ6 (stp P g)))(a:b=false->KG S P F (AJ7 (stp P g)))(hp:pr=E5 (cnd P g):=by kernel_rfl)(hb:Av3 (stp P g)=some b:=by kernel_rfl):KG S P F g:=
 ⟨AU2 hS hc (fun h=>(ht h).out) (fun h=>(a h).out) hp hb⟩
theorem Gw (hS:H5 S P)(hc:pr){b:Bool}(ht:b=true->KG S P F (Ml true (stp P g)))(a:b=false->KG S P F (Ml false (stp P g)))(hp:pr=E5 (cnd P g):=by kernel_rfl)(hb:XL (stp P g)=some b:=by kernel_rfl):KG S P F g:=
 ⟨AK2 hS hc (fun h=>(ht h).out) (fun h=>(a h).out) hp hb⟩
theorem B9 (hS:H5 S P)(ids:List Nat)(hc:pr){fn:FuncId}{args:List AV}{objs objs' : List Obj}{r:AV}{ks:List Bool}(a:FunO S fn args objs r objs' ks)(hk:KG S P F (Av4 ids ks r objs' (stp P g)))
 (hp:pr=E5 (cnd P g):=by kernel_rfl) (b:Zk ids (stp P g)=some (fn,args,objs):=by kernel_rfl) (hn:Zl ids ks objs'.length (stp P g)=true:=by kernel_rfl):KG S P F g:=⟨AU3 hS ids hc a hk.out hp b hn⟩
theorem Hj (hS:H5 S P)(hc:pr){kt e:TypeId}{key:PV}{es:List (PV×PV)}{x:PV}{b:Bool}{fd:Option PV}(c:find (Oc P kt) key es=some fd)(a:E5 (Qx P kt))(hk:KG S P F (AJ9 x b (stp P g)))
 (hp:pr=E5 (cnd P g):=by kernel_rfl) (d:AJ8 P (stp P g)=some ⟨kt,e,key,es⟩:=by kernel_rfl) (hx:AT9 P e fd=some (x,b):=by kernel_rfl):KG S P F g:=⟨Av9 hS hc c a hk.out hp d hx⟩
theorem LC (hS:H5 S P)(hc:pr){kt:TypeId}{key y:PV}{es es' : List (PV×PV)}(b:upd (Oc P kt) key y es=some es')(a:E5 (Qx P kt))(hk:KG S P F (updK es' (stp P g)))
 (hp:pr=E5 (cnd P g):=by kernel_rfl) (c:updE P (stp P g)=some (kt,key,y,es):=by kernel_rfl):KG S P F g:=⟨Aw0 hS hc b a hk.out hp c⟩
theorem Ee (hS:H5 S P)(hc:pr)(st:St){ids:List (Nat×Nat)}(hk:KG S P F (opsS st (stp P g)))(hp:pr=E5 (cnd P g):=by kernel_rfl)(a:Gv (stp P g)=true:=by kernel_rfl)(hle:KLe ids (stp P g).st st:=by exact kl):KG S P F g:=
 ⟨AU4 hS hc st hk.out hp a hle.out⟩
theorem Ti (hS:H5 S P)(hc:pr)(b:∀s,S.up s (F .normal)->F .normal s)(n:Nat)(s:St)
 (h1:∀(M:St->Prop),(∀(g' : Cfg) (ids:List (Nat×Nat)) (pr:Prop),pr->(hp:pr=E5 (cnd P g'):=by kernel_rfl)->(a:stp P g' = .pop .normal (.mid M::(stp P g).k.drop n) (stp P g').st:=by kernel_rfl)->(hle:KLe ids (stp P g').st s:=by exact kl)->KG S P F g')->KG S P F (AU0 n M (stp P g)))
 (c:KG S P F (.pop .normal ((stp P g).k.drop n) s)) (hp:pr=E5 (cnd P g):=by kernel_rfl) (hn:Nat.ble n (stp P g).k.length=true:=by kernel_rfl):KG S P F g:=
 ⟨J_cut hS hc b n s (fun M hb=>(h1 M fun g' ids pr hc hp a hle=>⟨hb g' ids pr hc hp a hle.out⟩).out) c.out hp hn⟩
theorem Hu (hS:H5 S P)(hc:pr)(c:∀s,S.up s (F .normal)->F .normal s){R A:Type}{f:(A->Option R)->Option R}{k0:A->Option R}{r:R}(h:lt k0 f=some r)(n:Nat)(s:A->St)
 (h1:∀(M:St->Prop) (k:A->Option R),(∀(g' : Cfg) (ids:List (Nat×Nat)) (pr:Prop) (a:A),pr->k a=some r->(hp:pr=E5 (cnd P g'):=by kernel_rfl)->(b:stp P g' = .pop .normal (.mid M::(stp P g).k.drop n) (stp P g').st:=by kernel_rfl)->(hle:KLe ids (stp P g').st (s a):=by exact kl)->KG S P F g')->f k=some r->KG S P F (AU0 n M (stp P g)))
 (d:∀a,k0 a=some r->KG S P F (.pop .normal ((stp P g).k.drop n) (s a))) (hp:pr=E5 (cnd P g):=by kernel_rfl) (hn:Nat.ble n (stp P g).k.length=true:=by kernel_rfl):KG S P F g:=
 ⟨J_lt hS hc c h n s (fun M k hb i=>(h1 M k (fun g' ids pr a hc hk hp b hle=>⟨hb g' ids pr a hc hk hp b hle.out⟩) i).out) (fun a hk=>(d a hk).out) hp hn⟩
theorem J0 (hS:H5 S P)(hc:pr){R A:Type}{body:(A->Option R)->A->Option R}{N:Nat}{a0:A}{r:R}(h:W6 N body a0=some r)(s:A->St){ids:List (Nat×Nat)}
 (i:∀(X:Type) (s' : X->St) (J:X->Prop) (m:X->Nat) (n:Nat) (b:A->Option R) (a:A),
  (∀(g' : Cfg) (ids:List (Nat×Nat)) (pr:Prop) (a:A),pr->b a=some r->(hp:pr=E5 (cnd P g'):=by kernel_rfl)->(f:stp P g' = .pop .normal (.lp X s' J m n::(stp P g).k) (stp P g').st:=by kernel_rfl)->(hle:KLe ids (stp P g').st (s a):=by exact kl)->KG S P F g') ->
  body b a=some r->KG S P F (.code (Tf (stp P g)) (.lp X s' J m n::(stp P g).k) (s a))) (hp:pr=E5 (cnd P g):=by kernel_rfl) (hl:IR (stp P g)=true:=by kernel_rfl) (hle:KLe ids (stp P g).st (s a0):=by exact kl):KG S P F g:=
 ⟨AU5 hS hc h s (fun X s' J m n b a hb c=>(i X s' J m n b a (fun g' ids pr a hc d hp f hle=>⟨hb g' ids pr a hc d hp f hle.out⟩) c).out) hp hl hle.out⟩
theorem F5 (hS:H5 S P)(hc:pr){R A B:Type}{body:(A->B->Option R)->A->B->Option R}{N:Nat}{a0:A}{b0:B}{r:R}(h:P6 N body a0 b0=some r)(s:A->B->St){ids:List (Nat×Nat)}
 (d:∀(X:Type) (s' : X->St) (J:X->Prop) (m:X->Nat) (n:Nat) (c:A->B->Option R) (a:A) (b:B),
  (∀(g' : Cfg) (ids:List (Nat×Nat)) (pr:Prop) (a:A) (b:B),pr->c a b=some r->(hp:pr=E5 (cnd P g'):=by kernel_rfl)->(o:stp P g' = .pop .normal (.lp X s' J m n::(stp P g).k) (stp P g').st:=by kernel_rfl)->(hle:KLe ids (stp P g').st (s a b):=by exact kl)->KG S P F g') ->
  body c a b=some r->KG S P F (.code (Tf (stp P g)) (.lp X s' J m n::(stp P g).k) (s a b))) (hp:pr=E5 (cnd P g):=by kernel_rfl) (hl:IR (stp P g)=true:=by kernel_rfl) (hle:KLe ids (stp P g).st (s a0 b0):=by exact kl):KG S P F g:=
 J0 hS hc h (fun x=>s x.1 x.2) (fun X s' J m n c a hb=>d X s' J m n (fun a b=>c (a,b)) a.1 a.2 fun g' ids pr a b h1 f i j l=>hb g' ids pr (a,b) h1 f i j l) hp hl hle
theorem IU (hS:H5 S P)(hc:pr){R A B C:Type}{body:(A->B->C->Option R)->A->B->C->Option R}{N:Nat}{a0:A}{b0:B}{c0:C}{r:R}(h:Ai6 N body a0 b0 c0=some r)(s:A->B->C->St){ids:List (Nat×Nat)}
 (f:∀(X:Type) (s' : X->St) (J:X->Prop) (m:X->Nat) (n:Nat) (d:A->B->C->Option R) (a:A) (b:B) (c:C),
  (∀(g' : Cfg) (ids:List (Nat×Nat)) (pr:Prop) (a:A) (b:B) (c:C),pr->d a b c=some r->(hp:pr=E5 (cnd P g'):=by kernel_rfl)->(q:stp P g' = .pop .normal (.lp X s' J m n::(stp P g).k) (stp P g').st:=by kernel_rfl)->(hle:KLe ids (stp P g').st (s a b c):=by exact kl)->KG S P F g') ->
  body d a b c=some r->KG S P F (.code (Tf (stp P g)) (.lp X s' J m n::(stp P g).k) (s a b c))) (hp:pr=E5 (cnd P g):=by kernel_rfl) (hl:IR (stp P g)=true:=by kernel_rfl) (hle:KLe ids (stp P g).st (s a0 b0 c0):=by exact kl):KG S P F g:=
 J0 hS hc h (fun x=>s x.1 x.2.1 x.2.2) (fun X s' J m n d a hb=>f X s' J m n (fun a b c=>d (a,b,c)) a.1 a.2.1 a.2.2 fun g' ids pr a b c h1 i j l o=>hb g' ids pr (a,b,c) h1 i j l o) hp hl hle
theorem Aj2 (hS:H5 S P)(hc:pr){R A B C D:Type}{body:(A->B->C->D->Option R)->A->B->C->D->Option R}{N:Nat}{a0:A}{b0:B}{c0:C}{d0:D}{r:R}(h:Aq8 N body a0 b0 c0 d0=some r)(s:A->B->C->D->St){ids:List (Nat×Nat)}
 (i:∀(X:Type) (s' : X->St) (J:X->Prop) (m:X->Nat) (n:Nat) (f:A->B->C->D->Option R) (a:A) (b:B) (c:C) (d:D),
  (∀(g' : Cfg) (ids:List (Nat×Nat)) (pr:Prop) (a:A) (b:B) (c:C) (d:D),pr->f a b c d=some r->(hp:pr=E5 (cnd P g'):=by kernel_rfl)->(t:stp P g' = .pop .normal (.lp X s' J m n::(stp P g).k) (stp P g').st:=by kernel_rfl)->(hle:KLe ids (stp P g').st (s a b c d):=by exact kl)->KG S P F g') ->
  body f a b c d=some r->KG S P F (.code (Tf (stp P g)) (.lp X s' J m n::(stp P g).k) (s a b c d))) (hp:pr=E5 (cnd P g):=by kernel_rfl) (hl:IR (stp P g)=true:=by kernel_rfl) (hle:KLe ids (stp P g).st (s a0 b0 c0 d0):=by exact kl):KG S P F g:=
 J0 hS hc h (fun x=>s x.1 x.2.1 x.2.2.1 x.2.2.2) (fun X s' J m n f a hb=>i X s' J m n (fun a b c d=>f (a,b,c,d)) a.1 a.2.1 a.2.2.1 a.2.2.2 fun g' ids pr a b c d h1 j l o q=>hb g' ids pr (a,b,c,d) h1 j l o q) hp hl hle
theorem Zm (hS:H5 S P)(hc:pr){n:Nat}{rs:List ResultVar}{Q:LK->List Obj->List Bool->Prop}{a:AV}{objs:List Obj}(outs:List Nat)(b:Q (.ret a) objs (FR n outs))(hp:pr=E5 (cnd P g):=by kernel_rfl)
 (c:(AK0 (stp P g)).bind (fun st=>Vt P st rs outs)=some (a,objs):=by kernel_rfl):KG S P (Cu S P n rs Q) g:=⟨J_ret hS hc outs b hp c⟩
theorem A5 (hS:H5 S P)(hc:pr){n:Nat}{rs:List ResultVar}{Q:LK->List Obj->List Bool->Prop}{a:AV}{objs:List Obj}(st:St)(outs:List Nat){ids:List (Nat×Nat)}(b:Q (.ret a) objs (FR n outs))(hp:pr=E5 (cnd P g):=by kernel_rfl)
 (c:(AK0 (stp P g)).isSome=true:=by kernel_rfl) (hle:KLe ids (stp P g).st st:=by exact kl) (d:Vt P st rs outs=some (a,objs):=by kernel_rfl):KG S P (Cu S P n rs Q) g:=⟨AU6 hS hc st outs b hp c hle.out d⟩
theorem A1 (hS:H5 S P){f:FuncId}{fn:Func}{args:List AV}{objs objs' : List Obj}{ks:List Bool}{r:AV}(c:P.funcs[f]? = some fn)
 (h:KG S P (Cu S P objs.length fn.results.toList fun res o k=>res=.ret r/\o=objs' /\ k=ks) (.code (fn.body.getD .skip) [] { env:=argEnv args,regs:=objRegs objs }))
 (hc:fn.body.isSome=true:=by kernel_rfl) (hn:Nat.ble args.length fn.ntmps=true:=by kernel_rfl) (d:Nat.blt objs.length 1000=true:=by kernel_rfl)
 (a:AA fn.ntmps (fn.body.getD .skip)=true:=by kernel_rfl) (b:(fn.name == "runtime.NumGoroutine")=false:=by kernel_rfl):FunO S f args objs r objs' ks:=AK3 hS c h.out hc hn d a b
theorem Il (hS:H5 S P)(hc:pr)(h:DG S P (Ik (stp P g)) fun env regs=>KG S P F (.pop .normal (stp P g).k ⟨env,regs⟩))(hp:pr=E5 (cnd P g):=by kernel_rfl)(c:Fs (stp P g)=true:=by kernel_rfl)(a:P.follows .mixedOrders=true:=by kernel_rfl)
 (b:Mi (Ik (stp P g)).all (Ik (stp P g)).cls=true:=by kernel_rfl):KG S P F g:=by
 have e:(fun env regs=>KG S P F (.pop .normal (stp P g).k ⟨env,regs⟩))=fun env regs=>G S P F (.pop .normal (stp P g).k ⟨env,regs⟩):=by funext env regs;exact propext ⟨fun h=>h.out,fun h=>⟨h⟩⟩
 rw[e]at h;exact⟨AK4 hS hc h.out hp c a b⟩
section
variable {sc:SC}{k:Env->D6->Prop}
theorem I4 (hc:pr)(h:k (Gi P sc).env (Gi P sc).regs)(hp:pr=E5 (Ad5 P sc):=by kernel_rfl)(a:(Gi P sc).rest.isEmpty=true:=by kernel_rfl):DG S P sc k:=⟨C_end hc h hp a⟩
theorem Vw (hc:pr){b:Bool}(ht:b=true->DG S P (Mn true (Gi P sc)) k)(a:b=false->DG S P (Mn false (Gi P sc)) k)(hp:pr=E5 (Ad5 P sc):=by kernel_rfl)(hb:QX (Gi P sc)=some b:=by kernel_rfl):DG S P sc k:=
 ⟨AK5 hc (fun h=>(ht h).out) (fun h=>(a h).out) hp hb⟩
theorem Mo (ids:List Nat)(hc:pr){fn:FuncId}{args:List AV}{objs objs' : List Obj}{r:AV}{ks:List Bool}(a:FunO S fn args objs r objs' ks)(hk:DG S P (Aj0 ids ks r objs' (Gi P sc)) k)
 (hp:pr=E5 (Ad5 P sc):=by kernel_rfl) (b:XP ids (Gi P sc)=some (fn,args,objs):=by kernel_rfl) (hn:Th ids ks objs'.length (Gi P sc)=true:=by kernel_rfl):DG S P sc k:=⟨AU9 ids hc a hk.out hp b hn⟩
theorem S6 (hc:pr){fn:FuncId}{args:List AV}{r:AV}(a:FunO S fn args [] r [] [])(hk:DG S P (Aj1 r (Gi P sc)) k)(hp:pr=E5 (Ad5 P sc):=by kernel_rfl)(b:XR (Gi P sc)=some (fn,args):=by kernel_rfl)(hn:XQ (Gi P sc)=true:=by kernel_rfl):DG S P sc k:=
 ⟨AV0 hc a hk.out hp b hn⟩
theorem Dy (hc:pr){x:PV}(hk:DG S P (Vv x (Gi P sc)) k)(hp:pr=E5 (Ad5 P sc):=by kernel_rfl)(b:(Ft P (Gi P sc)).map (·.2)=some x:=by kernel_rfl)(a:((Ft P (Gi P sc)).map fun q=>E5 q.1)=some (true=true):=by kernel_rfl):DG S P sc k:=⟨AK6 hc hk.out hp b a⟩
end
end
end Go.AM
namespace Go.AM
section
variable {S:Az}{P:Program}{F:J8}{g:Cfg}{pr:Prop}
def yldE:Cfg->Option (List PV×List (List PV))
 |.ops all (o::_) _ st=>match CS all st.env o,o.op with
  |some true,.call c=>match c.callee with
   |.value f=>match aev st.env f,JP st.regs (c.args.toList.map (aev st.env))with
    |.yf j,some (xs,regs)=>match A2 regs j with
     |some (.yld (ys::rest) true)=>if Fl j regs=true/\xs.length=ys.length then some (xs,ys::rest)else none
     |_=>none
    |_,_=>none
   |_=>none
  |_,_=>none
 |_=>none
def AV1 (b:Bool)(rest:List (List PV)):Cfg->Cfg
 |.ops all (o::ops) K st=>match o.op with
  |.call c=>match c.callee with
   |.value f=>match aev st.env f,JP st.regs (c.args.toList.map (aev st.env))with
    |.yf j,some (_,regs)=>AD7 o.dst (.p (.bb b)) st.env (ins j (.yld rest b) regs) fun st=>.ops all ops K st
    |_,_=>.ops all (o::ops) K st
   |_=>.ops all (o::ops) K st
  |_=>.ops all (o::ops) K st
 |g=>g
theorem Tj:∀l:List PV,AG6 l l
 |[]=>trivial
 |x::l=>⟨.inl rfl,Tj l⟩
theorem AK7 (hS:H5 S P)(hc:pr){ys:List PV}{rest:List (List PV)}(ht:G S P F (AV1 true rest (stp P g)))(d:G S P F (AV1 false [] (stp P g)))(hp:pr=E5 (cnd P g))(a:yldE (stp P g)=some (ys,ys::rest)):G S P F g:=by
 refine Gh hS hc ?_ hp;generalize stp P g=g' at a ht d;unfold yldE at a;split at a
 ·split at a
  ·rename_i l i;split at a
   ·rename_i c;split at a
    ·rename_i hy j;split at a
     ·rename_i m;split at a
      ·rename_i f;simp only[AZ3,Bc0,Bg5]at a;obtain⟨rfl,rfl,rfl⟩:=a;simp only[AV1,i,c,hy,j,Ka]at ht d;refine AJ2 hS l i c hy j m f.1 (Tj _) fun b=>?_;cases b
       ·exact d
       ·exact ht
      ·cases a
     ·cases a
    ·cases a
   ·cases a
  ·cases a
 ·cases a
theorem Dz (hS:H5 S P)(hc:pr){ys:List PV}{rest:List (List PV)}(ht:KG S P F (AV1 true rest (stp P g)))(a:KG S P F (AV1 false [] (stp P g)))(hp:pr=E5 (cnd P g):=by kernel_rfl)(b:yldE (stp P g)=some (ys,ys::rest):=by kernel_rfl):KG S P F g:=
 ⟨AK7 hS hc ht.out a.out hp b⟩
def Ap {T:Type}(x:T)(o:Option (List T)):Option (List T):=o.map (x :: ·)
theorem Mp {T:Type}{x:T}{o:Option (List T)}{L:List T}(h:Ap x o=some L):∃L',L=x::L' /\ o=some L':=by simp only[Ap,Bb3]at h;obtain⟨l,h1,a⟩:=h;exact⟨l,a.symm,h1⟩
theorem Gx (hS:H5 S P)(hc:pr){R A:Type}{body:(A->Option R)->A->Option R}{N:Nat}{a0:A}{r0:R}(h:W6 N body a0=some r0)(s:A->R->St){ids:List (Nat×Nat)}
 (f:∀(X:Type) (s' : X->St) (J:X->Prop) (m:X->Nat) (n:Nat) (b:A->Option R) (a:A) (r:R),
  (∀(g' : Cfg) (ids:List (Nat×Nat)) (pr:Prop) (a:A) (r:R),pr->b a=some r->(hp:pr=E5 (cnd P g'):=by kernel_rfl)->(d:stp P g' = .pop .normal (.lp X s' J m n::(stp P g).k) (stp P g').st:=by kernel_rfl)->(hle:KLe ids (stp P g').st (s a r):=by exact kl)->KG S P F g') ->
  body b a=some r->KG S P F (.code (Tf (stp P g)) (.lp X s' J m n::(stp P g).k) (s a r))) (hp:pr=E5 (cnd P g):=by kernel_rfl) (hl:IR (stp P g)=true:=by kernel_rfl) (hle:KLe ids (stp P g).st (s a0 r0):=by exact kl):KG S P F g:=by
 refine⟨Gh hS hc ?_ hp⟩;rw[Ai9 hl];refine AD0 hS (X:=Nat×A×R) (fun x=>s x.2.1 x.2.2) (fun x=>W6 x.1 body x.2.1=some x.2.2) (fun x=>x.1) (N,a0,r0) ids hle.out h ?_;rintro⟨n,a,r⟩ hx;cases n with
 |zero=>cases hx
 |succ n=>exact (f _ _ _ _ _ (W6 n body) a r (fun g' ids pr a r hc c hp d hle=>⟨Gh hS hc (by rw[d];exact Af4 hS (n,a,r) ids hle.out c (Nat.lt_succ_self n)) hp⟩) hx).out
theorem QY (hS:H5 S P)(hc:pr){R A B:Type}{body:(A->B->Option R)->A->B->Option R}{N:Nat}{a0:A}{b0:B}{r0:R}(h:P6 N body a0 b0=some r0)(s:A->B->R->St){ids:List (Nat×Nat)}
 (d:∀(X:Type) (s' : X->St) (J:X->Prop) (m:X->Nat) (n:Nat) (c:A->B->Option R) (a:A) (b:B) (r:R),
  (∀(g' : Cfg) (ids:List (Nat×Nat)) (pr:Prop) (a:A) (b:B) (r:R),pr->c a b=some r->(hp:pr=E5 (cnd P g'):=by kernel_rfl)->(o:stp P g' = .pop .normal (.lp X s' J m n::(stp P g).k) (stp P g').st:=by kernel_rfl)->(hle:KLe ids (stp P g').st (s a b r):=by exact kl)->KG S P F g') ->
  body c a b=some r->KG S P F (.code (Tf (stp P g)) (.lp X s' J m n::(stp P g).k) (s a b r))) (hp:pr=E5 (cnd P g):=by kernel_rfl) (hl:IR (stp P g)=true:=by kernel_rfl) (hle:KLe ids (stp P g).st (s a0 b0 r0):=by exact kl):KG S P F g:=
 Gx hS hc h (fun x r=>s x.1 x.2 r) (fun X s' J m n c a r hb=>d X s' J m n (fun a b=>c (a,b)) a.1 a.2 r fun g' ids pr a b r h1 f i j l=>hb g' ids pr (a,b) r h1 f i j l) hp hl hle
theorem Fu (hS:H5 S P){f:FuncId}{fn:Func}{first caps:List AV}{objs:List Obj}{L:List (List PV)}(i:P.funcs[f]? = some fn)
 (h:KG S P (Cu S P (objs++[Obj.yld L true]).length fn.results.toList fun r objs' ks=>∃b,objs'[objs.length]? = some (.yld [] b)/\ks[objs.length]? = some true/\∃a,r=.ret a) (.code (fn.body.getD .skip) [] { env:=argEnv (first ++ .yf objs.length::caps),regs:=objRegs (objs++[Obj.yld L true]) }))
 (hc:fn.body.isSome=true:=by kernel_rfl) (hn:Nat.ble (first ++ .yf objs.length::caps).length fn.ntmps=true:=by kernel_rfl) (j:Nat.blt (objs++[Obj.yld L true]).length 1000=true:=by kernel_rfl)
 (d:AA fn.ntmps (fn.body.getD .skip)=true:=by kernel_rfl) (g:(fn.name == "runtime.NumGoroutine")=false:=by kernel_rfl):Fp S f first caps objs L:=by
 obtain⟨code,c⟩:=Bb0.1 hc;rw[c,Ba1]at d h;exact JZ hS i c (Bf8 hn) (by simpa[Bj8]using j) rfl d g h.out
def Tk (P:Program)(ids:List Nat):Cfg->Option (FuncId×List AV×List AV×List Obj)
 |.code (.rangeFunc op _ _ _) _ st=>match En st.env op with
  |some (f,first,caps)=>match P.funcs[f]?,J9 ids st.regs ids,Dc ids first,Dc ids caps with
   |some fn,some objs,some as,some bs=>if (fn.body.isSome && !(fn.name == "runtime.NumGoroutine")&&EE objs&&H1 ids&&(objs.length==ids.length)&&Nat.blt ids.length 1000) then some (f,as,bs,objs)else none
   |_,_,_,_=>none
  |none=>none
 |_=>none
def HF:Cfg->Array Tmp
 |.code (.rangeFunc _ ps _ _) _ _=>ps
 |_=>#[]
def Tl:Cfg->Code
 |.code (.rangeFunc _ _ a _) _ _=>a
 |_=>.skip
def Tm:Cfg->Code
 |.code (.rangeFunc _ _ _ b) _ _=>b
 |_=>.skip
def Tn (ids ts:List Nat)(g:Cfg):St:=⟨X3 ts (ts.map (get g.st.env)),O8 ids (ids.map fun _=>false) g.st.regs⟩
def rst (gh:Nat)(t:St):St:=⟨[],ins gh (.ghost (t.env.map (·.2))) t.regs⟩
def To (gh:Nat)(ps:Array Tmp)(ys:List PV)(t:St):St:=⟨IC ps.toList ys t.env,ins gh (.ghost (t.env.map (·.2))) t.regs⟩
def exitE:Cfg->LJ
 |.pop e _ _=>e
 |_=>.normal
def AE1:Cfg->Bool
 |.pop .ret [] _=>true
 |.pop (.exit _) [] _=>true
 |_=>false
theorem Aj3 (regs:D6)(d:Nat)(x:Obj):A2 (ins d x regs) d=some x:=by
 induction regs with
 |nil=>simp[ins,A2]
 |cons p r ih=>
  obtain⟨i,b⟩:=p;simp only[ins];split
  ·simp[A2]
  split
  ·simp[A2]
  ·rename_i h1 a;simp only[A2,a,if_false,ih]
theorem Gy (gh:Nat)(t:St):A2 (rst gh t).regs gh=some (.ghost (t.env.map fun p=>p.2)):=by unfold rst;exact Aj3 _ _ _
def Mq (ids:List Nat):Cfg->Option (FuncId×List AV×List AV×List Obj)
 |.code (.rangeFunc op _ _ _) _ st=>match En st.env op with
  |some (f,first,caps)=>match J9 ids st.regs ids,Dc ids first,Dc ids caps with
   |some objs,some as,some bs=>if (EE objs&&H1 ids&&(objs.length==ids.length)&&Nat.blt ids.length 1000) then some (f,as,bs,objs)else none
   |_,_,_=>none
  |none=>none
 |_=>none
theorem Hk {ids:List Nat}{g:Cfg}{q:FuncId×List AV×List AV×List Obj}(h:Tk P ids g=some q):Mq ids g=some q/\∃fn,P.funcs[q.1]? = some fn/\fn.body.isSome=true/\(fn.name == "runtime.NumGoroutine")=false:=by
 unfold Tk at h;split at h
 ·split at h
  ·rename_i a;split at h
   ·rename_i fn objs' as' bs' h1 c d f;split at h
    ·rename_i b;cases h;simp only[AZ6,Bb8,beq_iff_eq]at b;obtain⟨⟨⟨⟨⟨e1,e2⟩,e3⟩,e4⟩,e5⟩,e6⟩:=b;refine⟨?_,fn,h1,e1,by simpa using e2⟩;simp only[Mq,a,c,d,f,e3,e4,e5,e6,beq_self_eq_true,Bm5,if_true]
    ·cases h
   ·cases h
  ·cases h
 ·cases h
theorem QZ (hS:H5 S P)(hc:pr){f:FuncId}{as bs:List AV}{objs:List Obj}{R T A:Type}{enc:T->List PV}{L:List T}{mb:(A->Option R)->T->A->Option R}{mk:A->Option R}{a0:A}{r:R}(o:∃fn,P.funcs[f]? = some fn/\fn.body.isSome=true/\(fn.name == "runtime.NumGoroutine")=false)
 (ids ts:List Nat) (gh:Nat) (s:A->St) {idl:List (Nat×Nat)}(h:P7 L mb mk a0=some r) (x:Fp S f as bs objs (L.map enc))
 (i:∀t:T,(enc t).length=(HF (stp P g)).size) (hk:∀a,(s a).env.map (·.1)=ts) (hn:∀a,A2 (s a).regs gh=none) (m:∀a,(⟨X3 ts ((s a).env.map (·.2)),del gh (ins gh (.ghost ((s a).env.map (·.2))) (s a).regs)⟩:St)=s a)
 (c:∀(t:T) (next:St->Prop) (d:A->Option R) (a:A),
  (∀(g' : Cfg) (ids:List (Nat×Nat)) (pr:Prop) (a:A),pr->d a=some r->(hp:pr=E5 (cnd P g'):=by kernel_rfl)->(b:stp P g' = .pop .normal [] (stp P g').st:=by kernel_rfl)->(hle:KLe ids (stp P g').st (rst gh (s a)):=by exact kl)->KG S P (Ep S gh ts next (kp S P (stp P g).k F)) g') ->
  mb d t a=some r->KG S P (Bz S P (Tm (stp P g)) gh ts next (kp S P (stp P g).k F)) (.code (Tl (stp P g)) [] (To gh (HF (stp P g)) (enc t) (s a))))
 (j:∀a,mk a=some r->KG S P F (.pop .normal (stp P g).k (s a)))
 (hp:pr=E5 (cnd P g):=by kernel_rfl) (b:Mq ids (stp P g)=some (f,as,bs,objs):=by kernel_rfl) (q:Nat.blt gh 1000=true:=by kernel_rfl) (n:A2 (stp P g).st.regs gh=none:=by kernel_rfl) (u:H1 ts=true:=by kernel_rfl)
 (hle:KLe idl (Tn ids ts (stp P g)) (s a0):=by exact kl):KG S P F g:=by
 refine⟨Gh hS hc ?_ hp⟩;generalize stp P g=g1 at i c j b n hle;unfold Mq at b;split at b
 ·rename_i op ps asg body K st;split at b
  ·rename_i f' first caps v
   split at b
   ·rename_i objs' as' bs' y z h4;split at b
    ·rename_i w;simp only[AZ3,Bc0]at b;obtain⟨rfl,rfl,rfl,rfl⟩:=b;simp only[AZ6,Bb8,beq_iff_eq]at w;obtain⟨⟨⟨e3,e4⟩,e5⟩,e6⟩:=w;refine AJ5 hS ids ts gh s idl h x v o y e3 e4 z h4 e5 q n e6 u i hle.out hk hn (fun t next d a hb hm=>?_) (fun a hm=>(j a hm).out);refine (c t next d a (fun g' ids' pr a hc l hp b hle=>⟨Gh hS hc ?_ hp⟩) hm).out;rw[b];have hl:((s a).env.map (·.2)).length=ts.length:=by rw[<- hk a];simp
     refine hb _ (rst gh (s a)) ((s a).env.map fun p=>p.2) ids' a hle.out (Gy gh (s a)) hl ?_ (m a) l
     have:=congrArg St.regs (m a)
     simp only at this;show A2 (del gh (ins gh _ _)) gh=none;rw[this];exact hn a
    ·cases b
   ·cases b
  ·cases b
 ·cases b
theorem Fv (hS:H5 S P)(hc:pr){f:FuncId}{as bs:List AV}{objs:List Obj}{R T A:Type}{enc:T->List PV}{L:List T}{mb:(A->Option R)->T->A->Option R}{mk:A->Option R}{a0:A}{r:R}
 (ids ts:List Nat) (gh:Nat) (s:A->St) {idl:List (Nat×Nat)}(h:P7 L mb mk a0=some r) (q:Fp S f as bs objs (L.map enc))
 (d:∀t:T,(enc t).length=(HF (stp P g)).size) (hk:∀a,(s a).env.map (·.1)=ts) (hn:∀a,A2 (s a).regs gh=none) (j:∀a,(⟨X3 ts ((s a).env.map (·.2)),del gh (ins gh (.ghost ((s a).env.map (·.2))) (s a).regs)⟩:St)=s a)
 (b:∀(t:T) (next:St->Prop) (c:A->Option R) (a:A),
  (∀(g' : Cfg) (ids:List (Nat×Nat)) (pr:Prop) (a:A),pr->c a=some r->(hp:pr=E5 (cnd P g'):=by kernel_rfl)->(l:stp P g' = .pop .normal [] (stp P g').st:=by kernel_rfl)->(hle:KLe ids (stp P g').st (rst gh (s a)):=by exact kl)->KG S P (Ep S gh ts next (kp S P (stp P g).k F)) g') ->
  mb c t a=some r->KG S P (Bz S P (Tm (stp P g)) gh ts next (kp S P (stp P g).k F)) (.code (Tl (stp P g)) [] (To gh (HF (stp P g)) (enc t) (s a))))
 (i:∀a,mk a=some r->KG S P F (.pop .normal (stp P g).k (s a)))
 (hp:pr=E5 (cnd P g):=by kernel_rfl) (l:Tk P ids (stp P g)=some (f,as,bs,objs):=by kernel_rfl) (m:Nat.blt gh 1000=true:=by kernel_rfl) (n:A2 (stp P g).st.regs gh=none:=by kernel_rfl) (o:H1 ts=true:=by kernel_rfl)
 (hle:KLe idl (Tn ids ts (stp P g)) (s a0):=by exact kl):KG S P F g:=
 QZ hS hc (Hk l).2 ids ts gh s h q d hk hn j b i hp (Hk l).1 m n o hle
theorem Aj4 (hS:H5 S P)(hc:pr){f:FuncId}{as bs:List AV}{objs:List Obj}{R T A:Type}{enc:T->List PV}{L:List T}{mb:(A->Option R)->T->A->Option R}{mk:A->Option R}{a0:A}{r0:R}(o:∃fn,P.funcs[f]? = some fn/\fn.body.isSome=true/\(fn.name == "runtime.NumGoroutine")=false)
 (ids ts:List Nat) (gh:Nat) (s:A->R->St) {idl:List (Nat×Nat)}(h:P7 L mb mk a0=some r0) (x:Fp S f as bs objs (L.map enc))
 (i:∀t:T,(enc t).length=(HF (stp P g)).size) (hk:∀a r,(s a r).env.map (·.1)=ts) (hn:∀a r,A2 (s a r).regs gh=none) (m:∀a r,(⟨X3 ts ((s a r).env.map (·.2)),del gh (ins gh (.ghost ((s a r).env.map (·.2))) (s a r).regs)⟩:St)=s a r)
 (c:∀(t:T) (next:St->Prop) (d:A->Option R) (a:A) (r:R),
  (∀(g' : Cfg) (ids:List (Nat×Nat)) (pr:Prop) (a:A) (r:R),pr->d a=some r->(hp:pr=E5 (cnd P g'):=by kernel_rfl)->(b:stp P g' = .pop .normal [] (stp P g').st:=by kernel_rfl)->(hle:KLe ids (stp P g').st (rst gh (s a r)):=by exact kl)->KG S P (Ep S gh ts next (kp S P (stp P g).k F)) g') ->
  mb d t a=some r->KG S P (Bz S P (Tm (stp P g)) gh ts next (kp S P (stp P g).k F)) (.code (Tl (stp P g)) [] (To gh (HF (stp P g)) (enc t) (s a r))))
 (j:∀a r,mk a=some r->KG S P F (.pop .normal (stp P g).k (s a r)))
 (hp:pr=E5 (cnd P g):=by kernel_rfl) (b:Mq ids (stp P g)=some (f,as,bs,objs):=by kernel_rfl) (q:Nat.blt gh 1000=true:=by kernel_rfl) (n:A2 (stp P g).st.regs gh=none:=by kernel_rfl) (u:H1 ts=true:=by kernel_rfl)
 (hle:KLe idl (Tn ids ts (stp P g)) (s a0 r0):=by exact kl):KG S P F g:=by
 refine⟨Gh hS hc ?_ hp⟩;generalize stp P g=g1 at i c j b n hle;unfold Mq at b;split at b
 ·rename_i op ps asg body K st;split at b
  ·rename_i f' first caps v
   split at b
   ·rename_i objs' as' bs' y z h4;split at b
    ·rename_i w;simp only[AZ3,Bc0]at b;obtain⟨rfl,rfl,rfl,rfl⟩:=b;simp only[AZ6,Bb8,beq_iff_eq]at w;obtain⟨⟨⟨e3,e4⟩,e5⟩,e6⟩:=w;refine Av2 hS ids ts gh s idl h x v o y e3 e4 z h4 e5 q n e6 u i hle.out hk hn (fun t next d a r hb hm=>?_) (fun a r hm=>(j a r hm).out);refine (c t next d a r (fun g' ids' pr a r hc l hp b hle=>⟨Gh hS hc ?_ hp⟩) hm).out;rw[b];have hl:((s a r).env.map (·.2)).length=ts.length:=by rw[<- hk a r];simp
     refine hb _ (rst gh (s a r)) ((s a r).env.map fun p=>p.2) ids' a r hle.out (Gy gh (s a r)) hl ?_ (m a r) l
     have:=congrArg St.regs (m a r)
     simp only at this;show A2 (del gh (ins gh _ _)) gh=none;rw[this];exact hn a r
    ·cases b
   ·cases b
  ·cases b
 ·cases b
theorem Aw1 (hS:H5 S P)(hc:pr){f:FuncId}{as bs:List AV}{objs:List Obj}{R T A:Type}{enc:T->List PV}{L:List T}{mb:(A->Option R)->T->A->Option R}{mk:A->Option R}{a0:A}{r0:R}
 (ids ts:List Nat) (gh:Nat) (s:A->R->St) {idl:List (Nat×Nat)}(h:P7 L mb mk a0=some r0) (q:Fp S f as bs objs (L.map enc))
 (d:∀t:T,(enc t).length=(HF (stp P g)).size) (hk:∀a r,(s a r).env.map (·.1)=ts) (hn:∀a r,A2 (s a r).regs gh=none) (j:∀a r,(⟨X3 ts ((s a r).env.map (·.2)),del gh (ins gh (.ghost ((s a r).env.map (·.2))) (s a r).regs)⟩:St)=s a r)
 (b:∀(t:T) (next:St->Prop) (c:A->Option R) (a:A) (r:R),
  (∀(g' : Cfg) (ids:List (Nat×Nat)) (pr:Prop) (a:A) (r:R),pr->c a=some r->(hp:pr=E5 (cnd P g'):=by kernel_rfl)->(l:stp P g' = .pop .normal [] (stp P g').st:=by kernel_rfl)->(hle:KLe ids (stp P g').st (rst gh (s a r)):=by exact kl)->KG S P (Ep S gh ts next (kp S P (stp P g).k F)) g') ->
  mb c t a=some r->KG S P (Bz S P (Tm (stp P g)) gh ts next (kp S P (stp P g).k F)) (.code (Tl (stp P g)) [] (To gh (HF (stp P g)) (enc t) (s a r))))
 (i:∀a r,mk a=some r->KG S P F (.pop .normal (stp P g).k (s a r)))
 (hp:pr=E5 (cnd P g):=by kernel_rfl) (l:Tk P ids (stp P g)=some (f,as,bs,objs):=by kernel_rfl) (m:Nat.blt gh 1000=true:=by kernel_rfl) (n:A2 (stp P g).st.regs gh=none:=by kernel_rfl) (o:H1 ts=true:=by kernel_rfl)
 (hle:KLe idl (Tn ids ts (stp P g)) (s a0 r0):=by exact kl):KG S P F g:=
 Aj4 hS hc (Hk l).2 ids ts gh s h q d hk hn j b i hp (Hk l).1 m n o hle
def AY6 (t:Nat)(a:AV):Cfg->Cfg
 |.ops all rest K st=>mkO (ins t a st.env) st.regs fun env regs=>.ops all rest K ⟨env,regs⟩
 |g=>g
theorem AK8 (hS:H5 S P)(hc:pr)(t:Nat){k n:Nat}{f:Nat->List PV}(b:n=0->KG S P F (AY6 t (.p (.v (.slice none 0 0))) (stp P g)))(h1:KG S P F (AY6 t (.p (.sl true k n f)) (stp P g)))
 (hp:pr=E5 (cnd P g):=by kernel_rfl) (a:Gv (stp P g)=true:=by kernel_rfl) (c:get (stp P g).st.env t=.p (.sl false k n f):=by kernel_rfl):KG S P F g:=by
 refine⟨Gh hS hc ?_ hp⟩;generalize stp P g=g1 at b h1 a c;unfold Gv at a;split at a
 ·refine AR8 hS t c (fun h=>?_) ?_
  ·have:=(b h).out
   simpa only[AY6,EN]using this
  ·have:=h1.out
   simpa only[AY6,EN]using this
 ·cases a
def frzC (j:Nat)(ps:List PV):Cfg->Cfg
 |.code c K st=>mkO (Ad2 j ps st.env) (ins j .dead st.regs) fun env regs=>.code c K ⟨env,regs⟩
 |g=>g
theorem Aj5 (hS:H5 S P)(hc:pr)(j:Nat)(ps:List PV)(hk:KG S P F (frzC j ps (stp P g)))(hp:pr=E5 (cnd P g):=by kernel_rfl)(c:Fs (stp P g)=true:=by kernel_rfl)(b:P.follows .mixedOrders=true:=by kernel_rfl)
 (a:Kv (Ik (stp P g)).all=true:=by kernel_rfl) (f:A2 (stp P g).st.regs j=some (.cells (ps.map .p)):=by kernel_rfl):KG S P F g:=by
 refine⟨Gh hS hc ?_ hp⟩;generalize stp P g=g1 at hk c a f;unfold Fs at c;split at c
 ·rename_i id ops K st;have hk:=hk.out;simp only[frzC,EN]at hk;show awp S P (.region id ops true) (kp S P K F) st;simp only[awp,if_true];have d : Ar1 S P ops.toList (kp S P K F) ⟨Ad2 j ps st.env,ins j .dead st.regs⟩:=by
   have:awp S P (.region id ops true) (kp S P K F) ⟨Ad2 j ps st.env,ins j .dead st.regs⟩:=hk
   simpa only[awp,if_true]using this
  exact Au9 hS b a (hS.frz st j ps _ f d)
 ·cases c
def clsN (js:List Nat):Nat->List Oper->List Cls
 |_,[]=>[]
 |i,o::r=>(if js.contains i then .n else if js.contains (i+1000)then .w else AY4 o.op)::clsN js (i+1) r
def Ra (js:List Nat):Cfg->SC
 |.code (.region _ ops true) _ st=>⟨ops.toList,clsN js 0 ops.toList,ops.toList,st.env,st.regs,[]⟩
 |_=>⟨[],[],[],[],[],[]⟩
theorem D9 (hS:H5 S P)(hc:pr)(js:List Nat)(h:DG S P (Ra js (stp P g)) fun env regs=>KG S P F (.pop .normal (stp P g).k ⟨env,regs⟩))(hp:pr=E5 (cnd P g):=by kernel_rfl)(c:Fs (stp P g)=true:=by kernel_rfl)(a:P.follows .mixedOrders=true:=by kernel_rfl)
 (b:Mi (Ra js (stp P g)).all (Ra js (stp P g)).cls=true:=by kernel_rfl):KG S P F g:=by
 have e:(fun env regs=>KG S P F (.pop .normal (stp P g).k ⟨env,regs⟩))=fun env regs=>G S P F (.pop .normal (stp P g).k ⟨env,regs⟩):=by funext env regs;exact propext ⟨fun h=>h.out,fun h=>⟨h⟩⟩
 rw[e]at h;refine⟨Gh hS hc ?_ hp⟩;have h:=h.out;generalize stp P g=g' at c b h;unfold Fs at c;split at c
 ·exact Ai1 hS _ a b h
 ·cases c
def clsL (ls:List (Nat×Cls)):Nat->List Oper->List Cls
 |_,[]=>[]
 |i,o::r=>(match ls.find? (fun q=>q.1==i)with|some q=>q.2|none=>AY4 o.op)::clsL ls (i+1) r
def Rb (ls:List (Nat×Cls)):Cfg->SC
 |.code (.region _ ops true) _ st=>⟨ops.toList,clsL ls 0 ops.toList,ops.toList,st.env,st.regs,[]⟩
 |_=>⟨[],[],[],[],[],[]⟩
theorem Z7 (hS:H5 S P)(hc:pr)(ls:List (Nat×Cls))(h:DG S P (Rb ls (stp P g)) fun env regs=>KG S P F (.pop .normal (stp P g).k ⟨env,regs⟩))(hp:pr=E5 (cnd P g):=by kernel_rfl)(c:Fs (stp P g)=true:=by kernel_rfl)(a:P.follows .mixedOrders=true:=by kernel_rfl)
 (b:Mi (Rb ls (stp P g)).all (Rb ls (stp P g)).cls=true:=by kernel_rfl):KG S P F g:=by
 have e:(fun env regs=>KG S P F (.pop .normal (stp P g).k ⟨env,regs⟩))=fun env regs=>G S P F (.pop .normal (stp P g).k ⟨env,regs⟩):=by funext env regs;exact propext ⟨fun h=>h.out,fun h=>⟨h⟩⟩
 rw[e]at h;refine⟨Gh hS hc ?_ hp⟩;have h:=h.out;generalize stp P g=g' at c b h;unfold Fs at c;split at c
 ·exact Ai1 hS _ a b h
 ·cases c
theorem IV (hS:H5 S P)(hc:pr){body:Code}{gh:Nat}{ts:List Nat}{next:St->Prop}{Q:J8}(h:KG S P (Ep S gh ts next Q) (.code body [] (stp P g).st))(hp:pr=E5 (cnd P g):=by kernel_rfl)(a:stp P g=.pop .normal [] (stp P g).st:=by kernel_rfl):KG S P (Bz S P body gh ts next Q) g:=by refine⟨Gh hS hc ?_ hp⟩;rw[a];exact G_asg hS h.out
theorem Rc (hS:H5 S P)(hc:pr){K:List It}{gh:Nat}{ts:List Nat}{next:St->Prop}(t:St){ids:List (Nat×Nat)}(hk:KG S P F (.pop (exitE (stp P g)) K t))(hp:pr=E5 (cnd P g):=by kernel_rfl)(a:AE1 (stp P g)=true:=by kernel_rfl)
 (hle:KLe ids (stp P g).st (rst gh t):=by exact kl) (h1:t.env.map (·.1)=ts:=by kernel_rfl) (d:A2 t.regs gh=none:=by kernel_rfl) (b:(⟨X3 ts (t.env.map (·.2)),del gh (ins gh (.ghost (t.env.map (·.2))) t.regs)⟩:St)=t:=by kernel_rfl):KG S P (Ep S gh ts next (kp S P K F)) g:=by
 refine⟨Gh hS hc ?_ hp⟩;generalize stp P g=g1 at hk a hle;have hl:(t.env.map (·.2)).length=ts.length:=by rw[<- h1];simp
 have c:A2 (del gh (ins gh (.ghost (t.env.map (·.2))) t.regs)) gh=none:=by
  have:=congrArg St.regs b
  simp only at this;rw[this];exact d
 unfold AE1 at a;split at a
 ·exact XG hS trivial (rst gh t) ids hle.out (Gy gh t) hl c (by rw[show (⟨X3 ts (t.env.map (·.2)),del gh (rst gh t).regs⟩:St)=t from b];exact hk.out)
 ·exact XG hS trivial (rst gh t) ids hle.out (Gy gh t) hl c (by rw[show (⟨X3 ts (t.env.map (·.2)),del gh (rst gh t).regs⟩:St)=t from b];exact hk.out)
 ·cases a
end
end Go.AM
namespace Go.AM
section
variable {S:Az}{P:Program}{F:J8}{g:Cfg}{pr:Prop}
def AV2 (j:Nat)(ps:List PV):Cfg->Cfg
 |.ops all rest K st=>mkO (Ad2 j ps st.env) (ins j .dead st.regs) fun env regs=>.ops all rest K ⟨env,regs⟩
 |g=>g
end
section
variable {S:Az}{P:Program}{F:J8}{g:Cfg}{pr:Prop}
theorem I5 (hS:H5 S P)(hc:pr)(d:Nat)(st:St){ids:List (Nat×Nat)}(hk:KG S P F (opsS st (Gu P d g)))(hp:pr=E5 (AQ0 P d g):=by kernel_rfl)(a:Gv (Gu P d g)=true:=by kernel_rfl)(hle:KLe ids (Gu P d g).st st:=by exact kl):KG S P F g:=by
 refine⟨(Gl (u:=some d) (F:=F) hS 400 [] g (by subst hp;exact hc)).2 ?_⟩;have hk:=hk.out;have hle:=hle.out;show G S P F (Gu P d g);generalize Gu P d g=g' at a hle hk;unfold Gv at a;split at a
 ·exact Ai7 hS st ids hle hk
 ·cases a
end
end Go.AM
namespace Go.AM
section
variable {S:Az}{P:Program}{F:J8}{g:Cfg}{pr:Prop}
def AV3 (S:Az)(P:Program)(pv:PV)(m:String)(as:List AV)(r:AV):Prop:=∃t y fn,pv=.iface t y/\Sr P t m=some fn/\Af3 S fn (.p (nP y)::as) r
def invE:Cfg->Option (PV×String×List AV)
 |.ops all (o::_) _ st=>match CS all st.env o,o.op with
  |some true,.call c=>match c.callee with
   |.invoke rv m=>match NW st.regs (c.args.toList.map (aev st.env)),aev st.env rv with
    |some (as,_),.p pv=>match Dc [] as with
     |some as'=>some (pv,m,as')
     |none=>none
    |_,_=>none
   |_=>none
  |_,_=>none
 |_=>none
def invK (r:AV):Cfg->Cfg
 |.ops all (o::rest) K st=>match o.op with
  |.call c=>match NW st.regs (c.args.toList.map (aev st.env))with
   |some (_,regs)=>AD7 o.dst (unA [] r) st.env regs fun st=>.ops all rest K st
   |none=>.ops all (o::rest) K st
  |_=>.ops all (o::rest) K st
 |g=>g
theorem LD (hS:H5 S P)(hc:pr){pv:PV}{m:String}{as:List AV}{r:AV}(b:AV3 S P pv m as r)(hk:KG S P F (invK r (stp P g)))
 (hp:pr=E5 (cnd P g):=by kernel_rfl) (a:invE (stp P g)=some (pv,m,as):=by kernel_rfl):KG S P F g:=by
 obtain⟨t,y,fn,rfl,hm,b⟩:=b;refine⟨Gh hS hc ?_ hp⟩;have hk:=hk.out;generalize stp P g=g' at a hk;unfold invE at a;split at a
 ·split at a
  ·rename_i i f;split at a
   ·rename_i c;split at a
    ·rename_i ha d;split at a
     ·rename_i j;cases a;simp only[invK,f,ha,Ka]at hk;refine Au6 hS i f c ha d hm (args:=.p (nP y)::_) ?_ b hk;simp only[Dc,Sj,j]
     ·cases a
    ·cases a
   ·cases a
  ·cases a
 ·cases a
theorem G0 (hS:H5 S P)(hc:pr)(d j:Nat)(ps:List PV)(hk:KG S P F (AV2 j ps (Gu P d g)))(hp:pr=E5 (AQ0 P d g):=by kernel_rfl)(a:Gv (Gu P d g)=true:=by kernel_rfl)
 (b:A2 (Gu P d g).st.regs j=some (.cells (ps.map .p)):=by kernel_rfl):KG S P F g:=by
 refine⟨(Gl (u:=some d) (F:=F) hS 400 [] g (by subst hp;exact hc)).2 ?_⟩;have hk:=hk.out;show G S P F (Gu P d g);generalize Gu P d g=g' at a b hk;unfold Gv at a;split at a
 ·simp only[AV2,EN]at hk;exact Sx hS (hS.frz _ j ps _ b hk)
 ·cases a
def Aw2 (j j' : Nat):AV->AV
 |.vecp i m=>if i=j then .vec j' else .vecp i m
 |a=>a
def Aw3 (j j' : Nat):List AV->List AV
 |[]=>[]
 |a::r=>Aw2 j j' a::Aw3 j j' r
def Aw4 (j j' : Nat):Env->Env
 |[]=>[]
 |(t,a)::r=>(t,Aw2 j j' a)::Aw4 j j' r
def Zn (j j' : Nat):D6->D6
 |[]=>[]
 |(t,.cells cs)::r=>(t,.cells (Aw3 j j' cs))::Zn j j' r
 |(t,o)::r=>(t,o)::Zn j j' r
def msA (j:Nat)(r:List Nat):AV->List Nat
 |.vecp i m=>if i=j then m::r else r
 |_=>r
def msL (j:Nat):List AV->List Nat
 |[]=>[]
 |a::r=>msA j (msL j r) a
def msE (j:Nat):Env->List Nat
 |[]=>[]
 |(_,a)::r=>msA j (msE j r) a
def msR (j:Nat):D6->List Nat
 |[]=>[]
 |(_,.cells cs)::r=>msL j cs++msR j r
 |_::r=>msR j r
theorem Aj6 {j:Nat}{r:List Nat}{a:AV}:∀x∈r,x∈msA j r a:=by
 intro x hx;unfold msA;split
 ·split
  ·exact Bb6 _ hx
  ·exact hx
 ·exact hx
theorem XS {j n j' : Nat}{r:List Nat}{a:AV}(h:∀m∈msA j r a,m=n):Ar4 j n j' a=Aw2 j j' a:=by
 cases a with
 |vecp i m=>
  simp only[Ar4,Aw2];by_cases e:i=j
  ·have:m=n:=h m (by simp[msA,e])
   simp[e,this]
  ·simp[e]
 |_=>rfl
theorem XT {j n j' : Nat}:∀{l:List AV},(∀m∈msL j l,m=n)->AC6 j n j' l=Aw3 j j' l
 |[],_=>rfl
 |a::r,h=>by simp only[AC6,Aw3,XS (r:=msL j r) h,XT fun m hm=>h m (Aj6 m hm)]
theorem XU {j n j' : Nat}:∀{l:Env},(∀m∈msE j l,m=n)->AC5 j n j' l=Aw4 j j' l
 |[],_=>rfl
 |(t,a)::r,h=>by simp only[AC5,Aw4,XS (r:=msE j r) h,XU fun m hm=>h m (Aj6 m hm)]
theorem Rd {j n j' : Nat}:∀{l:D6},(∀m∈msR j l,m=n)->Xm j n j' l=Zn j j' l
 |[],_=>rfl
 |(t,o)::r,h=>by
  cases o with
  |cells cs=>simp only[Xm,Zn,AP7,XT fun m hm=>h m (Bb7 _ hm),Rd fun m hm=>h m (Ba5 _ hm)]
  |_=>simp only[Xm,Zn,AP7,Rd (l:=r) h]
def truC (j j' : Nat)(e:TypeId)(k n:Nat)(f:Nat->List PV):Cfg->Cfg
 |.ops all rest K st=>mkO (Aw4 j j' st.env) (ins j' (.vec e k n f false) (ins j .dead (Zn j j' st.regs))) fun env regs=>.ops all rest K ⟨env,regs⟩
 |g=>g
theorem AV4 (hS:H5 S P)(hc:pr)(d j n j' : Nat){e:TypeId}{k N:Nat}{f:Nat->List PV}(hn:n<=N)(hk:KG S P F (truC j j' e k n f (Gu P d g)))(hp:pr=E5 (AQ0 P d g):=by kernel_rfl)(b:Gv (Gu P d g)=true:=by kernel_rfl)
 (c:A2 (Gu P d g).st.regs j=some (.vec e k N f false):=by kernel_rfl) (i:A2 (Gu P d g).st.regs j' = none:=by kernel_rfl) (h1:Nat.ble 1000 j' = true:=by kernel_rfl)
 (hm:(msE j (Gu P d g).st.env++msR j (Gu P d g).st.regs)=List.replicate (msE j (Gu P d g).st.env++msR j (Gu P d g).st.regs).length n:=by kernel_rfl):KG S P F g:=by
 refine⟨(Gl (u:=some d) (F:=F) hS 400 [] g (by subst hp;exact hc)).2 ?_⟩;have hk:=hk.out;show G S P F (Gu P d g);generalize Gu P d g=g' at b c i hk hm;unfold Gv at b;split at b
 ·rename_i st;have a:∀m∈msE j st.env++msR j st.regs,m=n:=fun m h=>by rw[show msE j st.env++msR j st.regs=_ from hm]at h;exact (List.mem_replicate.1 h).2
  simp only[truC,EN]at hk;refine Sx hS (hS.trunc _ j j' n N k e f _ c hn i (Bf8 h1) ?_);rw[XU fun m h=>a m (Bb7 _ h),Rd fun m h=>a m (Ba5 _ h)];exact hk
 ·cases b
end
abbrev cA {α : Type}(n:Nat)(c : α -> PV)(f:Nat -> α):List PV:=Bv n (fun i=>c (f i))
theorem F4 (n:Nat)(f:Nat->PV):(Bv n f).length=n:=by simp[Bv]
theorem E6 (n:Nat)(f:Nat->PV):∀i,i<n->[(Bv n f).getD i default]=[f i]:=by intro i a;simp[Bv,AZ0,a]
theorem BC {n:Nat}{z:PV}{ps:List PV}(h:ps=List.replicate n z):∀i,i<n->[ps.getD i default]=[z]:=by intro i a;subst h;simp[AZ0,a]
theorem Zo {n:Nat}{f g:Nat->PV}(h:∀i,i<n->[f i]=[g i]):Bv n f=Bv n g:=by unfold Bv;exact Bc1 fun i a=>by have:=h i (Bf4.1 a);injection this
abbrev KH {α : Type}(f:Nat -> α)(k:Nat)(x : α):Nat -> α:=fun i=>if i=k then x else f i
theorem AE2 {α : Type}{c : α -> PV}{n k:Nat}{v:Nat -> α}{f:Nat->PV}{e:PV}{x : α}(h:∀i,i<n->[f i]=[c (v i)])(hx:e=c x):∀i,i<n->[if i=k then e else f i]=[c (if i=k then x else v i)]:=by
 intro i a;by_cases h1:i=k
 ·rw[if_pos h1,if_pos h1,hx]
 ·rw[if_neg h1,if_neg h1];exact h i a
theorem app1H {α : Type}{c : α -> List PV}{n:Nat}{v:Sl α}{f g:Nat->List PV}{z : α}(h:∀i,i<n->f i=c (v.g i))(hn:n=v.n):∀i,i<n+1->i≠v.n->R9 n f g i=c ((v.push z).g i):=by
 subst hn;intro i b a;have hl:i<v.n:=by omega
 show (if i<v.n then f i else g (i-v.n))=c (if i<v.n then v.g i else z);rw[if_pos hl,if_pos hl];exact h i hl
theorem setH {α : Type}{c : α -> List PV}{n k:Nat}{v:Sl α}{f e:Nat->List PV}{x : α}(h:∀i,i<n->i≠k->f i=c (v.g i))(hx:k<n->e k=c x):∀i,i<n->(fun l=>if l=k then e l else f l) i=c ((v.upd k x).g i):=by
 intro i a;show (if i=k then e i else f i)=c (if i=k then x else v.g i);split
 ·subst_vars;exact hx a
 ·exact h i a ‹_›
end Go.AM
namespace Go.AM
section
variable {S:Az}{P:Program}{F:J8}{g:Cfg}{R X:Type}{A B:Option R}{r:R}{b:Bool}
theorem kI (hS:H5 S P)(h:(if b then A else B)=some r)(ht:A=some r->KG S P F (AJ6 (stp P g)))(a:B=some r->KG S P F (AJ7 (stp P g)))
 (hp:True=E5 (cnd P g):=by kernel_rfl) (hb:Av3 (stp P g)=some b:=by kernel_rfl):KG S P F g:=
 D3 hS trivial (fun c=>ht (itT c h)) (fun c=>a (itF c h)) hp hb
theorem kG (hS:H5 S P)(h:(if b then A else B)=some r)(ht:A=some r->KG S P F (Ml true (stp P g)))(a:B=some r->KG S P F (Ml false (stp P g)))
 (hp:True=E5 (cnd P g):=by kernel_rfl) (hb:XL (stp P g)=some b:=by kernel_rfl):KG S P F g:=
 Gw hS trivial (fun c=>ht (itT c h)) (fun c=>a (itF c h)) hp hb
theorem kR (hS:H5 S P){n:Nat}{rs:List ResultVar}{Q:LK->List Obj->List Bool->Prop}{a:AV}{objs:List Obj}(b:Q (.ret a) objs (FR n []):=by exact⟨rfl,rfl,rfl⟩)
 (hp:True=E5 (cnd P g):=by kernel_rfl) (c:(AK0 (stp P g)).bind (fun st=>Vt P st rs [])=some (a,objs):=by kernel_rfl):KG S P (Cu S P n rs Q) g:=
 Zm hS trivial [] b hp c
theorem kC (hS:H5 S P){x:Option X}{f:X->Option R}(h:x.bind f=some r){fn:FuncId}{args:List AV}{objs:List Obj}{objs' : X->List Obj}{rr:X->AV}{ks:List Bool}
 (a:∀{y},x=some y->FunO S fn args objs (rr y) (objs' y) ks) (hk:∀y,f y=some r->KG S P F (Av4 [] ks (rr y) (objs' y) (stp P g)))
 (hp:True=E5 (cnd P g):=by kernel_rfl) (b:Zk [] (stp P g)=some (fn,args,objs):=by kernel_rfl) (hn:∀y,Zl [] ks (objs' y).length (stp P g)=true:=by intro y;kernel_rfl):KG S P F g:=by
 obtain⟨y,e,h⟩:=B8 h;exact B9 hS [] trivial (a e) (hk y h) hp b (hn y)
end
end Go.AM
namespace Go.AM
inductive BT where
 |l (b:Bool)
 |n (b:Bool) (t f:BT)
def BT.ev:BT->Bool
 |.l b=>b
 |.n b t f=>if b then t.ev else f.ev
inductive BE where
 |a (b:Bool)
 |n (x y:BE)
 |o (x y:BE)
def BE.den:BE->Bool
 |.a b=>b
 |.n x y=>x.den&&y.den
 |.o x y=>x.den||y.den
def BE.tr:BE->BT->BT->BT
 |.a b,t,f=>.n b t f
 |.n x y,t,f=>x.tr (y.tr t f) f
 |.o x y,t,f=>x.tr t (y.tr t f)
def BE.top:BE->BT
 |.a b=>.l b
 |.n x y=>x.tr y.top (.l false)
 |.o x y=>x.tr (.l true) y.top
theorem BE.tr_ev:∀(e:BE) (t f:BT),(e.tr t f).ev=if e.den then t.ev else f.ev
 |.a b,t,f=>rfl
 |.n x y,t,f=>by simp only[tr,den,x.tr_ev,y.tr_ev];by_cases h:x.den=true<;>simp[h]
 |.o x y,t,f=>by simp only[tr,den,x.tr_ev,y.tr_ev];by_cases h:x.den=true<;>simp[h]
theorem BE.top_ev:∀e:BE,e.top.ev=e.den
 |.a b=>rfl
 |.n x y=>by simp only[top,den,x.tr_ev,y.top_ev,BT.ev];by_cases h:x.den=true<;>simp[h]
 |.o x y=>by simp only[top,den,x.tr_ev,y.top_ev,BT.ev];by_cases h:x.den=true<;>simp[h]
def keeps:Op->Bool
 |.move _ | .assign _ | .pick .. | .load .. | .nilCheck _ | .binOp .. | .unOp .. | .convert .. | .fieldAddr .. | .field .. | .indexAddr .. | .index .. | .extract ..=>true
 |.call { callee:=.builtin .len,.. } | .call { callee:=.builtin .min,.. } | .call { callee:=.builtin .max,.. }=>true
 |_=>false
theorem Zp {P:Program}{env:Env}{regs:D6}{d:Nat}{o:Op}{out:Out}(hk:keeps o=true)(h:aop P env regs d o=some out):out.regs=regs:=by unfold keeps at hk;split at hk<;>first|(cases hk;done)|(simp only[aop]at h;(repeat' split at h)<;>first|(cases h;rfl)|cases h)
theorem PB {o:Op}(hk:keeps o=true):AC7 o=true:=by unfold keeps at hk;split at hk<;>first|cases hk;done|rfl
def Aw5:List Prop->List Prop
 |[]=>[]
 |c=>[E5 c]
def bgo (P:Program)(regs:D6)(o:Oper)(last:Bool)(rec:List Prop->Env->Option (BT×List Prop))(c:List Prop)(env:Env)(runs:Bool):Option (BT×List Prop):=match runs with
 |true=>match keeps o.op,o.dst with
  |true,some d=>match aop P env regs d o.op with
   |some ⟨p,v,_⟩=>match last with
    |true=>match LL v with
     |some b=>some (.l b,Aw5 (p++c))
     |none=>none
    |false=>fA v fun v=>Af1 d v env fun env=>rec (p++c) env
   |none=>none
  |_,_=>none
 |false=>match last,o.dst with
  |false,some d=>Af1 d Bw env fun env=>rec c env
  |_,_=>none
def bev (P:Program)(all:List Oper)(regs:D6):List Oper->List Prop->Env->Option (BT×List Prop)
 |[],_,_=>none
 |o::rest,c,env=>
  match o.guard with
  |none=>bgo P regs o rest.isEmpty (fun c env=>bev P all regs rest c env) c env true
  |some (j,want)=>match get env (Gg all j)with
   |.p (.v (.bool b))=>bgo P regs o rest.isEmpty (fun c env=>bev P all regs rest c env) c env (b==want)
   |.p (.v (.tuple _))=>bgo P regs o rest.isEmpty (fun c env=>bev P all regs rest c env) c env false
   |.p (.bb b)=>match Af1 (Gg all j) (.p (.v (.bool true))) env fun env=>bgo P regs o rest.isEmpty (fun c env=>bev P all regs rest c env) [] env want,
    Af1 (Gg all j) (.p (.v (.bool false))) env fun env=>bgo P regs o rest.isEmpty (fun c env=>bev P all regs rest c env) [] env !want with
    |some (t,ct),some (f,cf)=>some (.n b t f,Aw5 c++(ct.map (fun p=>b=true->p)++cf.map (fun p=>b=false->p)))
    |_,_=>none
   |_=>none
def Ad6 (l:List Oper):List Nat:=l.filterMap (·.dst)
def AK9 (ks:List Nat)(env:Env):Env:=env.filter fun q=>!ks.contains q.1
theorem XV (ks:List Nat)(env:Env)(x:Nat):get (AK9 ks env) x=if x∈ks then .top else get env x:=by
 induction env with
 |nil=>simp[AK9,get]
 |cons q r ih=>
  obtain⟨i,a⟩:=q;simp only[AK9,List.filter_cons];by_cases b:i∈ks
  ·rw[if_neg (by simpa using b)]
   have:=ih
   simp only[AK9]at this;rw[this];by_cases hx:x∈ks
   ·simp[hx]
   ·have:i≠x:=fun e=>hx (e ▸ b)
    simp[hx,get,this]
  ·rw[if_pos (by simpa using b)];simp only[get]
   have:=ih
   simp only[AK9]at this;rw[this];by_cases hx:i=x
   ·subst hx;simp[b]
   ·simp[hx]
def Vx:List Oper->Option Nat
 |[]=>none
 |[o]=>o.dst
 |_::r=>Vx r
section
variable {S:Az}{P:Program}
theorem PC {c:List Prop}(h:∀p∈Aw5 c,p):E5 c:=by
 cases c with
 |nil=>trivial
 |cons p r=>exact h _ (by simp[Aw5])
theorem AV5 (hS:H5 S P){all:List Oper}{regs:D6}{Q:J8}{post:List Oper}{envF:Env}{V:Bool}{d:Nat}(hQ:∀s,S.up s (JN S P all post Q)->JN S P all post Q s)(hV:get envF d=.p (.bb V))
 (hw:JN S P all post Q ⟨envF,regs⟩) :
 ∀(L:List Oper) (c:List Prop) (env:Env) (T:BT) (C:List Prop),bev P all regs L c env=some (T,C)->(∀p∈C,p)->T.ev=V->Vx L=some d ->
  (∀x,x≠d->QA (get envF x) (get env x) \/ (x∈Ad6 L/\get envF x=.top))->(∀x∈Ad6 L,x≠d->get envF x=.top)->E5 c/\JN S P all (L++post) Q ⟨env,regs⟩:=by
 intro L
 induction L with
 |nil=>intro c env T C h;cases h
 |cons o rest ih=>
  intro c env T C h w i hd hl ht;simp only[bev,Ib]at h;have key:∀(c:List Prop) (env:Env) (runs:Bool) (T:BT) (C:List Prop),bgo P regs o rest.isEmpty (fun c env=>bev P all regs rest c env) c env runs=some (T,C)->(∀p∈C,p)->T.ev=V ->
   (∀x,x≠d->QA (get envF x) (get env x) \/ (x∈Ad6 (o::rest)/\get envF x=.top)) ->
   E5 c/\(if runs then wOp S P o (JN S P all (rest++post) Q) Q ⟨env,regs⟩else JN S P all (rest++post) Q (put ⟨env,regs⟩ o.dst Bw)):=by
   intro c env runs T C h w i hl;have l:rest.isEmpty=false->Vx rest=some d:=by
    intro hr;cases rest with
    |nil=>cases hr
    |cons a r=>simpa[Vx]using hd
   have a0:∀{d'},o.dst=some d' -> Ad6 (o::rest)=d' :: Ad6 rest:=fun g=>by simp[Ad6,g]
   have m:∀d' (v:AV),o.dst=some d' -> ∀x,x≠d->QA (get envF x) (get (ins d' v env) x) \/ (x∈Ad6 rest/\get envF x=.top):=by
    intro d' v g x hx;rw[CY];by_cases n:d' = x
    ·subst n;exact .inl (.inl (ht _ (by rw[a0 g];exact Bg9 ..) hx))
    ·rw[if_neg n];rcases hl x hx with h|⟨h1,h2⟩
     ·exact .inl h
     ·exact .inl (.inl h2)
   cases runs with
   |true=>
    simp only[bgo,YJ,Ib,if_true]at h⊢;split at h
    ·rename_i d' hk g;split at h
     ·rename_i p v regs' ha;have hr:regs' = regs:=Zp hk ha;subst hr;have ha' : aop P env regs' (o.dst.getD 0) o.op=some ⟨p,v,regs'⟩:=by rw[g];exact ha
      split at h
      ·rename_i u;split at h
       ·rename_i b hb;cases h;have a1:=PC w;obtain⟨hc,hp⟩:=(Ds _ _).1 a1;refine⟨hc,Lz (PB hk) ha' hp ?_⟩;obtain rfl:rest=[]:=List.isEmpty_iff.1 u;simp only[Vx]at hd;have e:d' = d:=by rw[g]at hd;exact Bk6 hd
        subst e;refine hQ _ (hS.less _ ⟨envF,regs'⟩ _ (fun x=>?_) (fun _=>by rw[g];rfl) (by simpa using hw));rw[g];show QA (get envF x) (get (ins d' v env) x);rw[CY];by_cases hx:d' = x
        ·subst hx;rw[if_pos rfl,hV];have i:b=V:=i;subst i;unfold LL at hb;split at hb
         ·cases hb;exact .inr (.inr ⟨_,rfl,rfl⟩)
         ·cases hb;exact .inr (.inl rfl)
         ·cases hb
        ·rw[if_neg hx];rcases hl x (fun e=>hx e.symm)with h|⟨_,h⟩
         ·exact h
         ·exact .inl h
       ·cases h
      ·rename_i u;have hn:∀x,x≠d->QA (get envF x) (get (ins d' v env) x) \/ (x∈Ad6 rest/\get envF x=.top):=m d' v g;obtain⟨a1,a2⟩:=ih _ _ _ _ h w i (l (by simpa using u)) hn (fun x hx=>ht x (by rw[a0 g];exact Bb6 _ hx));obtain⟨hc,hp⟩:=(Ds _ _).1 a1;exact⟨hc,Lz (PB hk) ha' hp (by rw[g];exact a2)⟩
     ·cases h
    ·cases h
   |false=>
    simp only[bgo,Ib,AZ9,if_false]at h⊢;split at h
    ·rename_i d' u g;have hn:∀x,x≠d->QA (get envF x) (get (ins d' Bw env) x) \/ (x∈Ad6 rest/\get envF x=.top):=m d' _ g;obtain⟨hc,a2⟩:=ih _ _ _ _ h w i (l (by simpa using u)) hn (fun x hx=>ht x (by rw[a0 g];exact Bb6 _ hx));exact⟨hc,by rw[g];exact a2⟩
    ·cases h
  simp only[Bd2,JN];cases hg:o.guard with
  |none=>simp only[hg]at h;obtain⟨hc,hk⟩:=key _ _ _ _ _ h w i hl;exact⟨hc,hS.refl _ _ (by simpa[hg]using hk)⟩
  |some q=>
   obtain⟨j,want⟩:=q;simp only[hg]at h;split at h
   ·rename_i b hb;obtain⟨hc,hk⟩:=key _ _ _ _ _ h w i hl;refine⟨hc,hS.refl _ _ ⟨some b,by rw[hb];rfl,?_⟩⟩;have e:(some b=some want)↔(b==want)=true:=by simp
    by_cases z:(b==want)=true
    ·rw[if_pos (e.2 z)];simpa[z]using hk
    ·rw[if_neg (fun x=>z (e.1 x))];simpa[z]using hk
   ·rename_i tt hb;obtain⟨hc,hk⟩:=key _ _ _ _ _ h w i hl;refine⟨hc,hS.refl _ _ ⟨none,by rw[hb];rfl,?_⟩⟩;rw[if_neg (by simp)];simpa using hk
   ·rename_i b hb;split at h
    ·rename_i t ct f cf h1 h2;cases h;have hc:E5 c:=PC fun p hp=>w p (Bb7 _ hp);refine⟨hc,hS.bool _ _ b _ hb ?_⟩;have hl2:∀x,x≠d->QA (get envF x) (get (ins (Gg all j) (.p (.v (.bool b))) env) x) \/ (x∈Ad6 (o::rest)/\get envF x=.top):=by
      intro x hx;rw[CY];by_cases n:Gg all j=x
      ·subst n;rw[if_pos rfl];rcases hl _ hx with h|h
       ·rw[hb]at h;rcases h with h|h|⟨y,h1,h2⟩
        ·exact .inl (.inl h)
        ·exact .inl (.inr (.inr ⟨b,h,rfl⟩))
        ·cases h2
       ·exact .inr h
      ·rw[if_neg n];exact hl x hx
     cases b with
     |true=>
      obtain⟨_,hk⟩:=key _ _ _ _ _ h1 (fun p hp=>w (true=true->p) (Ba5 _ (Bb7 _ (Bh8.2 ⟨p,hp,rfl⟩))) rfl) i hl2;refine⟨some true,by show yv (get (ins _ _ _) _)=_;rw[CY,if_pos rfl];rfl,?_⟩;cases want with
      |true=>simpa using hk
      |false=>simpa using hk
     |false=>
      obtain⟨_,hk⟩:=key _ _ _ _ _ h2 (fun p hp=>w (false=false->p) (Ba5 _ (Ba5 _ (Bh8.2 ⟨p,hp,rfl⟩))) rfl) i hl2;refine⟨some false,by show yv (get (ins _ _ _) _)=_;rw[CY,if_pos rfl];rfl,?_⟩;cases want with
      |true=>simpa using hk
      |false=>simpa using hk
    ·cases h
   ·cases h
end
def AL0 (P:Program)(m:Nat):Cfg->Option (BT×List Prop)
 |.ops all rest K st=>bev P all st.regs (rest.take m) [] st.env
 |_=>none
def AV6 (m:Nat)(b:Bool):Cfg->Cfg
 |.ops all rest K st=>match Vx (rest.take m)with
  |some d=>mkO (ins d (.p (.bb b)) (AK9 (Ad6 (rest.take m)) st.env)) st.regs fun env regs=>.ops all (rest.drop m) K ⟨env,regs⟩
  |none=>.ops all rest K st
 |g=>g
def AV7 (m:Nat):Cfg->Bool
 |.ops all rest K st=>(Vx (rest.take m)).isSome
 |_=>false
def AV8:List Prop->Prop
 |[]=>True
 |p::r=>r.foldl And p
theorem Aw6 {l:List Prop}(h:AV8 l):∀p∈l,p:=by
 have:∀(r:List Prop) (p:Prop),r.foldl And p->p/\∀q∈r,q:=by
  intro r
  induction r with
  |nil=>intro p h;exact⟨h,fun q b=>by cases b⟩
  |cons a r ih=>intro p h;obtain⟨⟨h1,c⟩,d⟩:=ih _ h;exact⟨h1,fun q b=>by rcases Bc8.1 b with rfl|b;exact c;exact d q b⟩
 cases l with
 |nil=>intro p hp;cases hp
 |cons a r=>obtain⟨h1,c⟩:=this _ _ h;exact fun q b=>by rcases Bc8.1 b with rfl|b;exact h1;exact c q b
section
variable {S:Az}{P:Program}{F:J8}{g:Cfg}{pr pc:Prop}
theorem kB (hS:H5 S P)(n:∀s,S.up s (F .normal)->F .normal s)(hc:pr)(c:pc)(m:Nat)(E:BE)(hk:KG S P F (AV6 m E.den (stp P g)))
 (hp:pr=E5 (cnd P g):=by kernel_rfl) (a:(AL0 P m (stp P g)).map (·.1)=some E.top:=by kernel_rfl) (b:(AL0 P m (stp P g)).map (fun x=>AV8 x.2)=some pc:=by kernel_rfl) (f:AV7 m (stp P g)=true:=by kernel_rfl):KG S P F g:=by
 refine⟨Gh hS hc ?_ hp⟩;have hk:=hk.out;generalize stp P g=g' at hk a b f;unfold AL0 at a b;split at a
 ·rename_i all rest K st;simp only[AV7,Bb0]at f;obtain⟨d,j⟩:=f;simp only[AV6,j,EN]at hk;cases hb:bev P all st.regs (rest.take m) [] st.env with
  |none=>rw[hb]at a;cases a
  |some q=>
   obtain⟨T,C⟩:=q;simp only[hb]at a b;simp only[Ba2,AZ3]at a b;subst a
   have:=(AV5 hS (Q:=kp S P K F) (post:=rest.drop m) (envF:=ins d (.p (.bb E.den)) (AK9 (Ad6 (rest.take m)) st.env)) (V:=E.den) (d:=d) ?_ (by rw[CY,if_pos rfl]) hk (rest.take m) [] st.env E.top C hb
    (Aw6 (b ▸ c)) E.top_ev j (fun x hx=>?_) (fun x hx i=>?_)).2
   ·rwa [Bj6]at this
   ·intro s h;cases l:rest.drop m with
    |nil=>rw[l]at h;exact Av0 hS n K s h
    |cons o r=>rw[l]at h;exact hS.trans _ _ h
   ·rw[CY,if_neg (fun e=>hx e.symm),XV];split
    ·exact .inl (.inl rfl)
    ·exact .inl (.inr (.inl rfl))
   ·rw[CY,if_neg (fun e=>i e.symm),XV,if_pos hx]
 ·cases a
end
end Go.AM
namespace Go.AM
def famC (op:YI):Cfg->List Prop
 |.ops _ _ _ st=>match AZ op st with
  |some (c,_)=>c
  |none=>[False]
 |_=>[False]
def famG (op:YI):Cfg->Cfg
 |.ops all rest K st=>match AZ op st with
  |some (_,st)=>mkO st.env st.regs fun env regs=>.ops all rest K ⟨env,regs⟩
  |none=>.ops all rest K st
 |g=>g
section
variable {S:Az}{P:Program}{F:J8}{g:Cfg}{pr pc:Prop}
theorem XW (hS:H5 S P)(hc:pr)(d:Nat)(op:YI)(b:pc)(hk:KG S P F (famG op (Gu P d g)))(hp:pr=E5 (AQ0 P d g):=by kernel_rfl)(f:Gv (Gu P d g)=true:=by kernel_rfl)
 (a:pc=E5 (famC op (Gu P d g)):=by kernel_rfl):KG S P F g:=by
 refine⟨(Gl (u:=some d) (F:=F) hS 400 [] g (by subst hp;exact hc)).2 ?_⟩;have hk:=hk.out;show G S P F (Gu P d g);generalize Gu P d g=g' at f a hk;unfold Gv at f;split at f
 ·rename_i all o rest K st;simp only[famC]at a;simp only[famG]at hk;cases i:AZ op st with
  |none=>rw[i]at a;subst a;exact b.elim
  |some q=>obtain⟨c,st'⟩:=q;simp only[i,EN]at hk a;subst a;exact Sx hS (hS.fam op _ _ c _ i b hk)
 ·cases f
end
def AV9 (j n:Nat)(f:Nat->PV):Cfg->Cfg
 |.ops all rest K st=>mkO (Ad2 j (Bv n f) st.env) (ins j .dead st.regs) fun env regs=>.ops all rest K ⟨env,regs⟩
 |g=>g
theorem AW0 {S:Az}{P:Program}{F:J8}{g:Cfg}{pr:Prop}(hS:H5 S P)(hc:pr)(d j n:Nat)(f:Nat->PV)(hk:KG S P F (AV9 j n f (Gu P d g)))(hp:pr=E5 (AQ0 P d g):=by kernel_rfl)
 (a:Gv (Gu P d g)=true:=by kernel_rfl) (b:A2 (Gu P d g).st.regs j=some (.arr n f):=by kernel_rfl):KG S P F g:=by
 refine⟨(Gl (u:=some d) (F:=F) hS 400 [] g (by subst hp;exact hc)).2 ?_⟩;have hk:=hk.out;show G S P F (Gu P d g);generalize Gu P d g=g1 at hk a b;unfold Gv at a;split at a
 ·rename_i all o rest K st;simp only[AV9,EN]at hk;have c:S.up ⟨Ad2 j (Bv n f) st.env,ins j .dead (ins j (.cells (Ae7 n f)) st.regs)⟩ (fun t=>G S P F (.ops all (o::rest) K t)):=
   hS.eqv _ ⟨_,ins j .dead st.regs⟩ _ (fun _=>rfl) (fun i=>by simp only[Gr];split<;>rfl) hk
  refine Sx hS (hS.trans _ _ (hS.ofArr _ j n f _ b (hS.trans _ _ (hS.frz ⟨st.env,_⟩ j (Bv n f) _ ?_ c))));show A2 (ins j _ _) j=_;rw[Gr,if_pos rfl,Ae7,Bv,Bg7];rfl
 ·cases a
def AW1 (j k n:Nat)(e:TypeId)(g:Nat->List PV)(vw:Bool):Cfg->Cfg
 |.ops all rest K st=>mkO st.env (ins j (.vec e k n g vw) st.regs) fun env regs=>.ops all rest K ⟨env,regs⟩
 |g=>g
theorem AL1 {S:Az}{P:Program}{F:J8}{g:Cfg}{pr:Prop}(hS:H5 S P)(hc:pr)(d j:Nat){k n:Nat}{e:TypeId}{vw:Bool}(f q:Nat->List PV)(c:∀i,i<n->leC (f i) (q i))(hk:KG S P F (AW1 j k n e q vw (Gu P d g)))
 (hp:pr=E5 (AQ0 P d g):=by kernel_rfl) (a:Gv (Gu P d g)=true:=by kernel_rfl) (b:A2 (Gu P d g).st.regs j=some (.vec e k n f vw):=by kernel_rfl):KG S P F g:=by
 refine⟨(Gl (u:=some d) (F:=F) hS 400 [] g (by subst hp;exact hc)).2 ?_⟩;have hk:=hk.out;show G S P F (Gu P d g);generalize Gu P d g=g1 at hk a b;unfold Gv at a;split at a
 ·simp only[AW1,EN]at hk;exact Sx hS (hS.vecq _ j n k e f q vw _ b c hk)
 ·cases a
theorem leCn {k:Nat}{g:Nat->List PV}:leC [.v (.slice none 0 0)] [.sl false k 0 g]:=⟨rfl,fun j=>by
 cases j with
 |zero=>exact .inr (.inr (.inl ⟨_,_,rfl,rfl⟩))
 |succ j=>exact .inl rfl⟩
theorem leCr (l:List PV):leC l l:=⟨rfl,fun _=>.inl rfl⟩
theorem arrG {n:Nat}(f:Nat->PV){i:Nat}(a:i<n):[(Bv n f).getD i default]=[f i]:=E6 n f i a
end Go.AM
namespace Go.AM
theorem Tp {P:Program}{f:FuncId}{vw:Bool}{args:List PV}{e:TypeId}{k n:Nat}{g:Nat->List PV}(t:∀as w,(callFunc f as).run P w=.ok (.enter f as) w)(hk:∀i,i<n->(g i).length=k)
 (h:∀(w:World) (Pi:Nat->Nat->Prop) (vs:Array Value),(∀b off,Pi b off->b<w.heap.size)->vs.size=args.length->(∀i,i<args.length->RepP w Pi (vs.getD i undef) (args.getD i default)) ->
  Calls P f vs w fun x w'=>∃v,x=.returned v/\RowKit.Below w.heap.size w w' /\ ((v=.slice none 0 0/\n=0) \/ ∃b cap c,v=.slice (some ⟨b,0,none⟩) n cap/\w.heap.size<=b/\w'.heap[b]? = some (.cells c e (0,0))/\n<=cap/\c.size=cap*k/\cap<=maxLen /\
   ∀i j,i<n->j<k->RepP w Pi (c.getD (i*k+j) undef) ((g i).getD j default)/\(c.getD (i*k+j) undef).oneCell' = true)):FunO (Hs P) f (args.map .p) [] (.vec 0) [.vec e k n g vw] []:=by
 intro 𝒢 C w vs rho hG hs hsz;have y:∀j,A2 (objRegs []) j=none:=fun j=>by simp[objRegs,objRegs.go,A2]
 have h0:=h w (Prv C.X (A2 (objRegs [])) rho) vs (fun b off hp=>by
  rcases hp with hp|⟨j,o,a,_⟩
  ·exact hs.hp.bound b off hp
  ·simp[y]at a) (by simpa using hsz) (fun i s=>by
  have:=hs.env i
  rw[Bn]at this;have e:(args.map AV.p).getD i .top=.p (args.getD i default):=by simp[s]
  rw[e]at this;exact this.toP)
 refine⟨_,_,t _ _,callsIn_wide.2 (h0.mono ?_)⟩;rintro x w' ⟨v,rfl,hb,hv⟩;have hR:∀j o,A2 (objRegs [Obj.vec e k n g vw]) j=some o->j=0/\o=.vec e k n g vw:=fun j o a=>by
  simp only[objRegs,objRegs.go,A2]at a;split at a
  ·rename_i hj0;cases a;exact⟨hj0.symm,rfl⟩
  ·cases a
 have z:A2 (objRegs [Obj.vec e k n g vw]) 0=some (.vec e k n g vw):=rfl
 let rho' : Nat->Value:=fun j=>if j=0 then v else rho j
 have hr0:rho' 0=v:=rfl;have l:∀b,F7 v (.vec e k n g vw) b->w.heap.size<=b/\b<w'.heap.size:=by
  intro b a0;rcases hv with⟨rfl,_⟩ | ⟨b',cap,c,rfl,h1,h2,_⟩
  ·cases a0
  ·cases a0;exact⟨h1,(Ba0.1 h2).1⟩
 have a1:∀b o,Prv C.X (A2 (objRegs [Obj.vec e k n g vw])) rho' b o->C.X b o \/ w.heap.size<=b:=by
  rintro b o (hX|⟨j,o',a,d,_⟩)
  ·exact .inl hX
  ·obtain⟨rfl,rfl⟩:=hR j o' a;exact .inr (l b d).1
 have m:Keeps w (Prv C.X (A2 (objRegs [])) rho) w' (Prv C.X (A2 (objRegs [Obj.vec e k n g vw])) rho'):=fun b o u hp hc=>by
  have q:=Bf9 w ⟨b,o,none⟩ hc;refine⟨by rw[<- hc];exact Bd3 (hb.block b q),fun hpp=>?_⟩;rcases a1 b o hpp with hX|hge
  ·exact hp (.inl hX)
  ·have:b<w.heap.size:=q
   omega
 refine⟨C,.ret (.vec 0),[.vec e k n g vw],[],rho',hG,⟨rfl,rfl,rfl⟩,?_,⟨v,rfl,?_⟩,fun i s=>by simp at s⟩
 ·refine⟨⟨fun j o a=>?_,fun i j oi oj b s a _ _=>by rw[(hR i oi s).1,(hR j oj a).1],fun j o b off a d hX=>?_,fun b off hp=>Bb2 (hs.hp.bound b off hp) hb.size⟩,hs.ext.trans ⟨hb.os,hb.output⟩,Be1 hs.size hb.size,fun b q hE=>?_,hs.keep.trans m,fun b d=>?_,fun j r b a=>by cases (hR j _ a).2⟩
  ·obtain⟨rfl,rfl⟩:=hR j o a;rw[hr0];rcases hv with hn|⟨b,cap,c,rfl,h1,h2,h3,h4,h5,h6⟩
   ·exact .inl hn
   ·exact .inr ⟨b,cap,c,rfl,h2,h3,h4,h5,hk,fun i j s a=>⟨(h6 i j s a).1.keeps m,(h6 i j s a).2⟩⟩
  ·obtain⟨rfl,rfl⟩:=hR j o a;have h1:=(l b d).1;have h2:=hs.hp.bound b off hX;omega
  ·rw[hb.block b (Bb2 q hs.size)];exact hs.same b q hE
  ·obtain⟨j,o,a,d⟩:=d;obtain⟨rfl,rfl⟩:=hR j o a;exact .inr (Be1 hs.size (l b d).1)
 ·rcases hv with⟨rfl,_⟩ | ⟨b,cap,c,rfl,_⟩
  ·exact .vec 0 none 0 0 (by simp[Lv,z]) rfl
  ·exact .vec 0 _ n cap (by simp[Lv,z]) rfl
end Go.AM
namespace Go.AM
open Go.RowKit Go.ChangeShapes
end Go.AM
namespace Go.AM
section
variable {S:Az}{P:Program}{F:J8}{K:List It}{st:St}{g:Cfg}{pr:Prop}
def AL2 (p:Option PV)(r:LK):Prop:=match p with
 |none=>∃a,r=.ret a
 |some x=>r=.panic x
def Mr (S:Az)(f:FuncId)(first caps:List AV)(objs:List Obj)(L:List (List PV))(p:Option PV):Prop:=
 S.F f (first ++ .yf objs.length::caps) (objs++[.yld L true]) fun r objs' ks=>∃b,objs'[objs.length]? = some (.yld [] b)/\ks[objs.length]? = some true/\(b=true->AL2 p r)/\(b=false->∃a,r=.ret a)
def endP:Option PV->LJ
 |none=>.normal
 |some x=>.panic x
theorem Aw7 (hS:H5 S P){g:Operand}{ps:Array Tmp}{asg body:Code}{f:FuncId}{first caps as bs:List AV}{objs:List Obj}(ids ts:List Nat)(gh:Nat)(L:List (List PV)){p:Option PV}{X:Type}(s:X->St)(J:List (List PV)->X->Prop)(x0:X)(idl:List (Nat×Nat))
 (hp:En st.env g=some (f,first,caps)) (n:∃fn,P.funcs[f]? = some fn/\fn.body.isSome=true/\(fn.name == "runtime.NumGoroutine")=false) (q:J9 ids st.regs ids=some objs) (t:EE objs=true) (hd:H1 ids=true) (u:Dc ids first=some as) (v:Dc ids caps=some bs) (w:objs.length=ids.length)
 (z:gh<1000) (a0:A2 st.regs gh=none) (a1:ids.length<1000) (a2:H1 ts=true) (d:∀ys∈L,ys.length=ps.size)
 (hF:Mr S f as bs objs L p) (hle:Le idl ⟨X3 ts (ts.map (get st.env)),O8 ids (ids.map fun _=>false) st.regs⟩ (s x0)) (h0:J L x0) (hk:∀x,(s x).env.map (·.1)=ts) (hn:∀x,A2 (s x).regs gh=none)
 (c:∀ys rest x,J (ys::rest) x->G S P (Bz S P body gh ts (Au7 s J rest) (kp S P K F)) (.code asg [] ⟨IC ps.toList ys (s x).env,ins gh (.ghost ((s x).env.map (·.2))) (s x).regs⟩))
 (i:∀x,J [] x->G S P F (.pop (endP p) K (s x))):G S P F (.code (.rangeFunc g ps asg body) K st):=by
 have j:∀{l:List Nat},H1 l=true->l.Nodup:=by
  intro l
  induction l with
  |nil=>intro _;exact Bi1
  |cons a r ih=>intro h;simp only[H1,AZ6,Bb8,Bd4,decide_eq_false_iff_not]at h;exact Be6.2 ⟨h.1,ih h.2⟩
 refine⟨f,first,caps,as,bs,objs,ids,ts,gh,L,Au7 s J,fun b r=>b=true->AL2 p r,hp,n,t,hd,u,v,q,z,a0,a1,j a2,d,hS.le idl _ _ _ hle ⟨hk x0,hn x0,x0,rfl,h0⟩,?_,?_,?_⟩
 ·rintro ys rest _ _ _ ⟨x,rfl,hJ⟩;have h:=c ys rest x hJ;have e:Bz S P body gh ts (Au7 s J rest) (kp S P K F)=fun e s'=>match e with
   |.normal=>S.up s' fun s'=>awp S P body (Ep S gh ts (Au7 s J rest) (kp S P K F)) s'
   |_=>False:=by funext e s';cases e<;>rfl
  rw[e]at h;exact h
 ·rintro _ r _ _ ⟨x,rfl,hJ⟩ hf;have h1:=hf rfl;have m:=i x hJ;cases p with
  |none=>obtain⟨a,rfl⟩:=h1;exact m
  |some y=>cases h1;exact m
 ·rw[<- w];refine hS.monoF _ _ _ _ _ ?_ hF;rintro r o ks ⟨b,h1,m,h3,h4⟩;exact⟨b,h1,m,h3,h4⟩
theorem Aw8 (hS:H5 S P){g:Operand}{ps:Array Tmp}{asg body:Code}{f:FuncId}{first caps as bs:List AV}{objs:List Obj}{R T A:Type}{enc:T->List PV}{L:List T}{p:Option PV}{mb:(A->Option R)->T->A->Option R}{mk:A->Option R}{a0:A}{r:R}
 (ids ts:List Nat) (gh:Nat) (s:A->St) (idl:List (Nat×Nat)) (h:P7 L mb mk a0=some r) (y:Mr S f as bs objs (L.map enc) p)
 (hp:En st.env g=some (f,first,caps)) (j:∃fn,P.funcs[f]? = some fn/\fn.body.isSome=true/\(fn.name == "runtime.NumGoroutine")=false) (l:J9 ids st.regs ids=some objs) (m:EE objs=true) (z:H1 ids=true) (n:Dc ids first=some as) (o:Dc ids caps=some bs) (q:objs.length=ids.length)
 (u:Nat.blt gh 1000=true) (v:A2 st.regs gh=none) (w:Nat.blt ids.length 1000=true) (x:H1 ts=true) (d:∀t:T,(enc t).length=ps.size)
 (hle:Le idl ⟨X3 ts (ts.map (get st.env)),O8 ids (ids.map fun _=>false) st.regs⟩ (s a0)) (hk:∀a,(s a).env.map (·.1)=ts) (hn:∀a,A2 (s a).regs gh=none)
 (b:∀(t:T) (next:St->Prop) (c:A->Option R) (a:A),(∀(st st1:St) (cs:List AV) (idl:List (Nat×Nat)) (a:A),Le idl st st1->A2 st1.regs gh=some (.ghost cs)->cs.length=ts.length->A2 (del gh st1.regs) gh=none->(⟨X3 ts cs,del gh st1.regs⟩:St)=s a->c a=some r->G S P (Ep S gh ts next (kp S P K F)) (.pop .normal [] st)) ->
  mb c t a=some r->G S P (Bz S P body gh ts next (kp S P K F)) (.code asg [] ⟨IC ps.toList (enc t) (s a).env,ins gh (.ghost ((s a).env.map (·.2))) (s a).regs⟩))
 (i:∀a,mk a=some r->G S P F (.pop (endP p) K (s a))):G S P F (.code (.rangeFunc g ps asg body) K st):=by
 refine Aw7 hS ids ts gh (L.map enc) s (fun rest a=>∃L',rest=L'.map enc/\P7 L' mb mk a=some r) a0 idl hp j l m z n o q (by simpa[Bj8]using u) v (by simpa[Bj8]using w) x (fun ys hy=>?_) y hle ⟨L,rfl,h⟩ hk hn ?_ ?_
 ·obtain⟨t,_,rfl⟩:=Bh8.1 hy;exact d t
 ·rintro ys rest a ⟨L',hL,hx⟩;cases L' with
  |nil=>cases hL
  |cons t L'=>simp only[Bc2,Bg5]at hL;obtain⟨rfl,rfl⟩:=hL;refine b t _ (P7 L' mb mk) a (fun st st1 cs idl a hle h1 h2 h3 h4 h5=>?_) hx;exact Vp hS st1 a idl hle h1 h2 h3 h4 ⟨L',rfl,h5⟩
 ·rintro a ⟨L',hL,hx⟩;cases L' with
  |nil=>exact i a hx
  |cons t L'=>cases hL
theorem XX (hS:H5 S P)(hc:pr){f:FuncId}{as bs:List AV}{objs:List Obj}{R T A:Type}{enc:T->List PV}{L:List T}{p:Option PV}{mb:(A->Option R)->T->A->Option R}{mk:A->Option R}{a0:A}{r:R}
 (ids ts:List Nat) (gh:Nat) (s:A->St) {idl:List (Nat×Nat)}(h:P7 L mb mk a0=some r) (x:Mr S f as bs objs (L.map enc) p)
 (i:∀t:T,(enc t).length=(HF (stp P g)).size) (hk:∀a,(s a).env.map (·.1)=ts) (hn:∀a,A2 (s a).regs gh=none) (m:∀a,(⟨X3 ts ((s a).env.map (·.2)),del gh (ins gh (.ghost ((s a).env.map (·.2))) (s a).regs)⟩:St)=s a)
 (c:∀(t:T) (next:St->Prop) (d:A->Option R) (a:A),
  (∀(g' : Cfg) (ids:List (Nat×Nat)) (pr:Prop) (a:A),pr->d a=some r->(hp:pr=E5 (cnd P g'):=by kernel_rfl)->(b:stp P g' = .pop .normal [] (stp P g').st:=by kernel_rfl)->(hle:KLe ids (stp P g').st (rst gh (s a)):=by exact kl)->KG S P (Ep S gh ts next (kp S P (stp P g).k F)) g') ->
  mb d t a=some r->KG S P (Bz S P (Tm (stp P g)) gh ts next (kp S P (stp P g).k F)) (.code (Tl (stp P g)) [] (To gh (HF (stp P g)) (enc t) (s a))))
 (j:∀a,mk a=some r->KG S P F (.pop (endP p) (stp P g).k (s a)))
 (hp:pr=E5 (cnd P g):=by kernel_rfl) (b:Tk P ids (stp P g)=some (f,as,bs,objs):=by kernel_rfl) (o:Nat.blt gh 1000=true:=by kernel_rfl) (n:A2 (stp P g).st.regs gh=none:=by kernel_rfl) (q:H1 ts=true:=by kernel_rfl)
 (hle:KLe idl (Tn ids ts (stp P g)) (s a0):=by exact kl):KG S P F g:=by
 refine⟨Gh hS hc ?_ hp⟩;have u:=(Hk b).2;replace b:=(Hk b).1;generalize stp P g=g1 at i c j b n hle;unfold Mq at b;split at b
 ·rename_i op ps asg body K st;split at b
  ·rename_i f' first caps v
   split at b
   ·rename_i objs' as' bs' y z h4;split at b
    ·rename_i w;simp only[AZ3,Bc0]at b;obtain⟨rfl,rfl,rfl,rfl⟩:=b;simp only[AZ6,Bb8,beq_iff_eq]at w;obtain⟨⟨⟨e3,e4⟩,e5⟩,e6⟩:=w;refine Aw8 hS ids ts gh s idl h x v u y e3 e4 z h4 e5 o n e6 q i hle.out hk hn (fun t next d a hb hm=>?_) (fun a hm=>(j a hm).out);refine (c t next d a (fun g' ids' pr a hc l hp b hle=>⟨Gh hS hc ?_ hp⟩) hm).out;rw[b];have hl:((s a).env.map (·.2)).length=ts.length:=by rw[<- hk a];simp
     refine hb _ (rst gh (s a)) ((s a).env.map fun p=>p.2) ids' a hle.out (Gy gh (s a)) hl ?_ (m a) l
     have:=congrArg St.regs (m a)
     simp only at this;show A2 (del gh (ins gh _ _)) gh=none;rw[this];exact hn a
    ·cases b
   ·cases b
  ·cases b
 ·cases b
theorem Aj7 (hS:H5 S P){f:FuncId}{fn:Func}{first caps:List AV}{objs:List Obj}{L:List (List PV)}{p:Option PV}(i:P.funcs[f]? = some fn)
 (h:KG S P (Cu S P (objs++[Obj.yld L true]).length fn.results.toList fun r objs' ks=>∃b,objs'[objs.length]? = some (.yld [] b)/\ks[objs.length]? = some true/\(b=true->AL2 p r)/\(b=false->∃a,r=.ret a)) (.code (fn.body.getD .skip) [] { env:=argEnv (first ++ .yf objs.length::caps),regs:=objRegs (objs++[Obj.yld L true]) }))
 (hc:fn.body.isSome=true:=by kernel_rfl) (hn:Nat.ble (first ++ .yf objs.length::caps).length fn.ntmps=true:=by kernel_rfl) (j:Nat.blt (objs++[Obj.yld L true]).length 1000=true:=by kernel_rfl)
 (d:AA fn.ntmps (fn.body.getD .skip)=true:=by kernel_rfl) (g:(fn.name == "runtime.NumGoroutine")=false:=by kernel_rfl):Mr S f first caps objs L p:=by
 obtain⟨code,c⟩:=Bb0.1 hc;rw[c,Ba1]at d h;exact JZ hS i c (Bf8 hn) (by simpa[Bj8]using j) rfl d g h.out
theorem Aw9 (hS:H5 S P){f:FuncId}{fn:Func}{args:List AV}{objs:List Obj}{Q:LK->List Obj->List Bool->Prop}(d:P.funcs[f]? = some fn)
 (h:KG S P (Cu S P objs.length fn.results.toList Q) (.code (fn.body.getD .skip) [] { env:=argEnv args,regs:=objRegs objs }))
 (hc:fn.body.isSome=true:=by kernel_rfl) (hn:Nat.ble args.length fn.ntmps=true:=by kernel_rfl) (g:Nat.blt objs.length 1000=true:=by kernel_rfl)
 (b:AA fn.ntmps (fn.body.getD .skip)=true:=by kernel_rfl) (c:(fn.name == "runtime.NumGoroutine")=false:=by kernel_rfl):S.F f args objs Q:=by
 obtain⟨code,a⟩:=Bb0.1 hc;rw[a,Ba1]at b h;exact JZ hS d a (Bf8 hn) (by simpa[Bj8]using g) rfl b c h.out
def panE:Cfg->Option PV
 |.ops all (o::_) _ st=>match CS all st.env o,o.op with
  |some true,.panic x=>match aev st.env x with
   |.p (.iface t y)=>some (.iface t y)
   |_=>none
  |_,_=>none
 |_=>none
def panC (x:PV):Cfg->Cfg
 |.ops _ _ K st=>.pop (.panic x) K st
 |g=>g
theorem AL3 (hS:H5 S P)(hc:pr){x:PV}(hk:KG S P F (panC x (stp P g)))(hp:pr=E5 (cnd P g):=by kernel_rfl)(a:panE (stp P g)=some x:=by kernel_rfl):KG S P F g:=by
 refine⟨Gh hS hc ?_ hp⟩;have hk:=hk.out;generalize stp P g=g1 at hk a;unfold panE at a;split at a
 ·rename_i all o rest K st;split at a
  ·rename_i y b c;split at a
   ·rename_i t z hx;cases a;exact AJ3 hS b c hx hk
   ·cases a
  ·cases a
 ·cases a
def Ax0:Cfg->Option PV
 |.pop (.panic x) [] _=>some x
 |_=>none
theorem AE3 (hS:H5 S P)(hc:pr){n:Nat}{rs:List ResultVar}{Q:LK->List Obj->List Bool->Prop}{x:PV}{objs:List Obj}(outs:List Nat)(c:Q (.panic x) objs (FR n outs))(hp:pr=E5 (cnd P g):=by kernel_rfl)
 (a:Ax0 (stp P g)=some x:=by kernel_rfl) (d:H1 outs=true:=by kernel_rfl) (b:J9 outs (stp P g).st.regs outs=some objs:=by kernel_rfl):KG S P (Cu S P n rs Q) g:=by
 refine⟨Gh hS hc ?_ hp⟩;generalize stp P g=g1 at a b;unfold Ax0 at a;split at a
 ·cases a;exact⟨outs,objs,d,b,c⟩
 ·cases a
theorem AL4 (hS:H5 S P){all rest:List Oper}{o:Oper}{c:Call}{f:Operand}{as:List AV}{regs:D6}{fn:FuncId}{as' args:List AV}{objs objs' : List Obj}{ks:List Bool}{x:PV}(ids:List Nat)
 (d:CS all st.env o=some true) (g:o.op=.call c) (b:c.callee=.value f) (ha:NW st.regs (c.args.toList.map (aev st.env))=some (as,regs))
 (hw:UU st.env f as=some (fn,as')) (i:Dc ids as' = some args) (a:J9 ids regs ids=some objs) (j:S.F fn args objs fun res o k=>res=.panic x/\o=objs' /\ k=ks)
 (l:H1 ids=true) (hy:EE objs=true) (hn:Dr regs ids ks (o.dst.getD 0) objs'.length=true)
 (hk:G S P F (.pop (.panic x) K { env:=st.env,regs:=Ad1 (O7 (o.dst.getD 0) ids ks objs'.length) (O7 (o.dst.getD 0) ids ks objs'.length) objs' (O8 ids ks regs) })) :
 G S P F (.ops all (o::rest) K st):=by
 refine EF hS d ?_;unfold wOp;obtain⟨callee,cargs,types⟩:=c;simp only at b ha;subst b;rw[g];refine .inl ⟨as,regs,_,_,.inl ha,hw,ids,args,objs,l,i,a,hy,hS.monoF _ _ _ _ _ ?_ j⟩;rintro _ _ _ ⟨rfl,rfl,rfl⟩;exact⟨hn,hk⟩
def AE4 (ids:List Nat)(ks:List Bool)(x:PV)(objs' : List Obj):Cfg->Cfg
 |.ops all (o::rest) K st=>match o.op with
  |.call c=>match NW st.regs (c.args.toList.map (aev st.env))with
   |some (_,regs)=>mkO st.env (Ad1 (O7 (o.dst.getD 0) ids ks objs'.length) (O7 (o.dst.getD 0) ids ks objs'.length) objs' (O8 ids ks regs)) fun env regs=>.pop (.panic x) K ⟨env,regs⟩
   |none=>.ops all (o::rest) K st
  |_=>.ops all (o::rest) K st
 |g=>g
theorem AL5 (hS:H5 S P)(ids:List Nat)(hc:pr){fn:FuncId}{args:List AV}{objs objs' : List Obj}{x:PV}{ks:List Bool}(i:S.F fn args objs fun res o k=>res=.panic x/\o=objs' /\ k=ks)
 (hk:KG S P F (AE4 ids ks x objs' (stp P g))) (hp:pr=E5 (cnd P g):=by kernel_rfl) (a:Zk ids (stp P g)=some (fn,args,objs):=by kernel_rfl) (hn:Zl ids ks objs'.length (stp P g)=true:=by kernel_rfl):KG S P F g:=by
 refine⟨Gh hS hc ?_ hp⟩;replace hk:=hk.out;generalize stp P g=g' at a hn hk;unfold Zk at a;split at a
 ·split at a
  ·rename_i j f;split at a
   ·rename_i c;split at a
    ·rename_i ha;split at a
     ·rename_i hw;split at a
      ·rename_i l d;split at a
       ·rename_i b;cases a;simp only[AZ6]at b;simp only[AE4,Zl,f,ha,EN]at hk hn;exact AL4 hS ids j f c ha hw l d i b.1 b.2 hn hk
       ·cases a
      ·cases a
     ·cases a
    ·cases a
   ·cases a
  ·cases a
 ·cases a
def PD (S:Az)(R:St->Prop)(X:PV->St->Prop):J8
 |.normal,st=>S.up st R
 |.panic x,st=>X x st
 |_,_=>False
theorem K_upN (hS:H5 S P)(hc:pr){R:St->Prop}{X:PV->St->Prop}(st:St){ids:List (Nat×Nat)}(hR:R st)(hp:pr=E5 (cnd P g):=by kernel_rfl)(a:stp P g=.pop .normal [] (stp P g).st:=by kernel_rfl)
 (hle:KLe ids (stp P g).st st:=by exact kl):KG S P (PD S R X) g:=by
 refine⟨Gh hS hc ?_ hp⟩;rw[a];exact hS.le ids _ _ R hle.out hR
theorem K_upP (hS:H5 S P)(hc:pr){R:St->Prop}{X:PV->St->Prop}{x:PV}(b:X x (stp P g).st)(hp:pr=E5 (cnd P g):=by kernel_rfl)(a:Ax0 (stp P g)=some x:=by kernel_rfl):KG S P (PD S R X) g:=by
 refine⟨Gh hS hc ?_ hp⟩;generalize stp P g=g1 at a b;unfold Ax0 at a;split at a
 ·cases a;exact b
 ·cases a
end
end Go.AM
namespace Go.AM
section
variable {S:Az}{P:Program}{F:J8}{K:List It}{g:Cfg}{pr:Prop}
end
end Go.AM
namespace Go.AM
open Go.RowKit Go.ChangeShapes Go.Deep
mutual
inductive LeD:PV->PV->Prop
 |refl (x:PV):LeD x x
 |sl {k n:Nat}{f g:Nat->List PV}(h:∀i,i<n->LeDs (f i) (g i)):LeD (.sl false k n f) (.sl false k n g)
inductive LeDs:List PV->List PV->Prop
 |nil:LeDs [] []
 |cons {x y:PV}{l r:List PV}(h:LeD x y) (h' : LeDs l r):LeDs (x::l) (y::r)
end
theorem LeDs.refl:∀l:List PV,LeDs l l
 |[]=>.nil
 |x::l=>.cons (.refl x) (LeDs.refl l)
theorem LeDs.length {l r:List PV}(h:LeDs l r):l.length=r.length:=by
 induction l generalizing r with
 |nil=>cases h;rfl
 |cons x l ih=>cases h with|cons _ h'=>simp[ih h']
theorem LeDs.get {l r:List PV}(h:LeDs l r):∀i,LeD (l.getD i default) (r.getD i default):=by
 induction l generalizing r with
 |nil=>cases h;exact fun i=>.refl _
 |cons x l ih=>
  cases h with
  |cons h h'=>
   intro i;cases i with
   |zero=>exact h
   |succ i=>simpa using ih h' i
theorem LeDs.append {a b c d:List PV}(h:LeDs a b)(h' : LeDs c d):LeDs (a++c) (b++d):=by
 induction a generalizing b with
 |nil=>cases h;exact h'
 |cons x l ih=>cases h with|cons h1 h2=>exact .cons h1 (ih h2)
theorem RepP.leD {w:World}{Pi:Nat->Nat->Prop}{v:Value}{x:PV}(h:RepP w Pi v x):∀{y:PV},LeD x y->RepP w Pi v y:=by
 induction h with
 |slnil k f=>intro y hy;cases hy with
  |refl=>exact .slnil _ _
  |sl h=>exact .slnil _ _
 |sl nn b off cap k n f c hn hk hc h sp hsp ih=>
  intro y hy;cases hy with
  |refl=>exact .sl nn b off cap k n f c hn hk hc h sp hsp
  |sl h'=>exact .sl false b off cap k n _ c hn (fun i d=>by rw[<- (h' i d).length];exact hk i d) hc (fun i j d g=>ih i j d g ((h' i d).get j)) sp hsp
 |v x=>intro y hy;cases hy;exact .v x
 |bb b=>intro y hy;cases hy;exact .bb b
 |str l=>intro y hy;cases hy;exact .str l
 |agg vs cs hs h1 h ih=>intro y hy;cases hy;exact .agg vs cs hs h1 h
 |ptr b off cs c hc h ih=>intro y hy;cases hy;exact .ptr b off cs c hc h
 |iface t x a h ih=>intro y hy;cases hy;exact .iface t x a h
 |fn f x y a b hx hy ha hb iha ihb=>intro y hy;cases hy;exact .fn f x _ a b hx ‹_› ha hb
theorem CRep.leD {W:World}{cs:List Value}{p q:List PV}(h:CRep W cs p)(hl:LeDs p q):CRep W cs q:=
 ⟨by rw[h.1,hl.length],fun i a=>⟨(h.2 i (by rw[hl.length];exact a)).1.leD (hl.get i),(h.2 i (by rw[hl.length];exact a)).2⟩⟩
section
variable {P:Program}{t e:TypeId}{m:Nat}{pvs:List PV}
def Hf (f:Nat->Nat):Nat->Nat
 |0=>0
 |k+1=>Hf f k+f k
theorem AL6 (f:Nat->Nat){k n:Nat}(h:k<=n):Hf f k<=Hf f n:=by
 induction h with
 |refl=>exact AZ7 _
 |step _ ih=>simp only[Hf];omega
theorem Re (f:Nat->Nat){k n:Nat}(h:k<n):f k<=Hf f n:=by
 have:=AL6 f (show k+1<=n from h)
 simp only[Hf]at this;omega
theorem Tq {f g:Nat->Nat}:∀{n:Nat},(∀i,i<n->f i<=g i)->Hf f n<=Hf g n
 |0,_=>AZ7 _
 |n+1,h=>by have h1:=Tq (n:=n) fun i a=>h i (by omega);have b:=h n (by omega);simp only[Hf];omega
theorem PF (f:Nat->Nat):∀n,US ((List.range n).map f)=Hf f n:=by
 have app:∀a b:List Nat,US (a++b)=US a+US b:=by
  intro a b
  induction a with
  |nil=>simp[US]
  |cons x r ih=>simp only[Bd2,Tb,ih];omega
 intro n
 induction n with
 |zero=>rfl
 |succ n ih=>rw[Bd9,Bg0,app,ih];simp[Hf,US]
def Ms (P:Program)(t:TypeId){T:Type}(c:T->List PV)(W:T->Prop)(sz:T->Nat):Prop:=
 ∀(m:Nat) (pvs:List PV),Ij P m t pvs->∃x:T,LeDs pvs (c x)/\W x/\sz x<=m
theorem U2 {k:IntKind}(ht:P.underlying t=some (.int k)):Ms P t (cI k) (fun n=>(Lit.int k n).wf=true) (fun _=>1):=by
 intro m pvs h;cases h with
 |bool ht'=>rw[ht]at ht';cases ht'
 |str ht'=>rw[ht]at ht';cases ht'
 |slice _ ht'=>rw[ht]at ht';cases ht'
 |arr ht'=>rw[ht]at ht';cases ht'
 |struct ht'=>rw[ht]at ht';cases ht'
 |int ht' hw hm=>rw[ht]at ht';cases ht';exact⟨_,LeDs.refl _,hw,hm⟩
theorem Zq (ht:P.underlying t=some .bool):Ms P t cB (fun _=>True) (fun _=>1):=by
 intro m pvs h;cases h with
 |int ht'=>rw[ht]at ht';cases ht'
 |str ht'=>rw[ht]at ht';cases ht'
 |slice _ ht'=>rw[ht]at ht';cases ht'
 |arr ht'=>rw[ht]at ht';cases ht'
 |struct ht'=>rw[ht]at ht';cases ht'
 |bool ht' hm=>exact⟨_,LeDs.refl _,trivial,hm⟩
theorem Tr (ht:P.underlying t=some .string):Ms P t cS (fun _=>True) (fun l=>l.length+1):=by
 intro m pvs h;cases h with
 |int ht'=>rw[ht]at ht';cases ht'
 |bool ht'=>rw[ht]at ht';cases ht'
 |slice _ ht'=>rw[ht]at ht';cases ht'
 |arr ht'=>rw[ht]at ht';cases ht'
 |struct ht'=>rw[ht]at ht';cases ht'
 |str ht' hm=>exact⟨_,LeDs.refl _,trivial,hm⟩
theorem X1 {T:Type}[Inhabited T]{c:T->List PV}{W:T->Prop}{sz:T->Nat}{k:Nat}(ht:P.underlying t=some (.slice e))(hk:P.cellsOf e=k)(h:Ms P e c W sz) :Ms P t (cL k c) (fun s=>∀i,i<s.n->W (s.g i)) (fun s=>Hf (fun i=>sz (s.g i)) s.n+1):=by
 intro m pvs hs;cases hs with
 |int ht'=>rw[ht]at ht';cases ht'
 |bool ht'=>rw[ht]at ht';cases ht'
 |str ht'=>rw[ht]at ht';cases ht'
 |arr ht'=>rw[ht]at ht';cases ht'
 |struct ht'=>rw[ht]at ht';cases ht'
 | @slice _ _ e' n f ms ht' hl hel hm=>
  rw[ht]at ht';cases ht';obtain⟨g,b⟩:=choose_lt (α:=T) (p:=fun i x=>LeDs (f i) (c x)/\W x/\sz x<=ms i) fun i a=>h _ _ (hel i a);refine⟨⟨n,g⟩,?_,fun i a=>(b i a).2.1,?_⟩
  ·subst hk;exact .cons (.sl fun i a=>(b i a).1) .nil
  ·have h1:=Tq (n:=n) fun i a=>(b i a).2.2;rw[PF]at hm;show Hf (fun i=>sz (g i)) n+1<=m;omega
theorem Bo {fs:Array Field}(ht:P.underlying t=some (.struct fs))(h:Ij P m t pvs):∃m',Gs P m' (fs.toList.map (·.type)) pvs/\m' + 1<=m:=by
 cases h with
 |int ht'=>rw[ht]at ht';cases ht'
 |bool ht'=>rw[ht]at ht';cases ht'
 |str ht'=>rw[ht]at ht';cases ht'
 |slice _ ht'=>rw[ht]at ht';cases ht'
 |arr ht'=>rw[ht]at ht';cases ht'
 |struct ht' h hm=>rw[ht]at ht';cases ht';exact⟨_,h,hm⟩
theorem D8 {ts:List TypeId}(h:Gs P m (t::ts) pvs):∃a b p q,pvs=p++q/\Ij P a t p/\Gs P b ts q/\a+b<=m:=by
 cases h with
 |cons h h' hm=>exact⟨_,_,_,_,rfl,h,h',hm⟩
theorem De (h:Gs P m [] pvs):pvs=[]:=by cases h;rfl
end
end Go.AM
