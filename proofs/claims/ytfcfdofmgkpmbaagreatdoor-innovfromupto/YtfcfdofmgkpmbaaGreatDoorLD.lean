/- What a law's walk and its plain proof need, part 4: no condition of its own. -/
import Derived.Test.YtfcfdofmgkpmbaaGreatDoorLC
import Derived.KernelRfl
set_option linter.unusedSimpArgs false
set_option linter.unusedVariables false
set_option linter.unusedSectionVars false
namespace Go.AM
abbrev Str:=List UInt8
structure Sl (α : Type) where
 n:Nat
 g:Nat -> α
instance {α : Type} [Inhabited α]:Inhabited (Sl α):=⟨⟨0,fun _=>default⟩⟩
namespace Sl
variable {α : Type}
def toList (s:Sl α):List α:=(List.range s.n).map s.g
abbrev nil [Inhabited α]:Sl α:=⟨0,fun _=>default⟩
abbrev rep (n:Nat)(a : α):Sl α:=⟨n,fun _=>a⟩
abbrev sub (s:Sl α)(a b:Nat):Sl α:=⟨b-a,fun i=>s.g (a+i)⟩
abbrev drop (s:Sl α)(a:Nat):Sl α:=⟨s.n-a,fun i=>s.g (a+i)⟩
abbrev take (s:Sl α)(b:Nat):Sl α:=⟨b,s.g⟩
abbrev push (s:Sl α)(a : α):Sl α:=⟨s.n+1,fun i=>if i<s.n then s.g i else a⟩
abbrev app (s t:Sl α):Sl α:=⟨s.n+t.n,fun i=>if i<s.n then s.g i else t.g (i-s.n)⟩
abbrev upd (s:Sl α)(k:Nat)(a : α):Sl α:=⟨s.n,fun i=>if i=k then a else s.g i⟩
abbrev of [Inhabited α](l:List α):Sl α:=⟨l.length,fun i=>l.getD i default⟩
end Sl
abbrev vSl {α : Type}(k:Nat)(c : α -> List PV)(s:Sl α):PV:=.sl false k s.n fun i=>c (s.g i)
abbrev pI (k:IntKind)(n:Int):PV:=.v (.int k n)
abbrev V8 (l:Str)(i:Int):Int:=(((l.getD i.toNat 0).toNat:Nat):Int)
abbrev pN (n:Int):AV:=.p (.v (.int .i64 n))
abbrev pU (n:Int):AV:=.p (.v (.int .u32 n))
abbrev pB (b:Bool):AV:=.p (.bb b)
abbrev H7:PV:=.v (.slice none 0 0)
section
variable {R:Type}
def Az {A:Type}(N:Nat)(body:(A->Option R)->A->Option R):A->Option R:=match N with
 |0=>fun _=>none
 |N+1=>fun a=>body (Az N body) a
variable {A B C D E F G H:Type}
def Bj (N:Nat)(body:(A->B->Option R)->A->B->Option R)(a:A)(b:B):Option R:=Az N (fun self x=>body (fun a b=>self (a,b)) x.1 x.2) (a,b)
def Ac5 (N:Nat)(body:(A->B->C->Option R)->A->B->C->Option R)(a:A)(b:B)(c:C):Option R:=Az N (fun self x=>body (fun a b c=>self (a,b,c)) x.1 x.2.1 x.2.2) (a,b,c)
theorem GL {N:Nat}{body:(A->Option R)->A->Option R}{a:A}:Az (N+1) body a=body (Az N body) a:=rfl
theorem Pj {N:Nat}{body:(A->B->Option R)->A->B->Option R}{a:A}{b:B}:Bj (N+1) body a b=body (Bj N body) a b:=rfl
def lt {K:Type}(k:K)(f:K->Option R):Option R:=f k
end
section
variable {R X Y:Type}{r:R}
theorem itT {b:Bool}{x y:Option R}(hb:b=true)(h:(if b then x else y)=some r):x=some r:=by rwa [if_pos hb]at h
theorem itF {b:Bool}{x y:Option R}(hb:b=false)(h:(if b then x else y)=some r):y=some r:=by rwa [if_neg (by simp[hb])]at h
theorem E2 {p:Prop}[Decidable p]{x:Option R}(h:(if p then x else none)=some r):p/\x=some r:=by
 split at h
 ·exact⟨by assumption,h⟩
 ·cases h
theorem B5 {x:Option X}{f:X->Option R}(h:x.bind f=some r):∃a,x=some a/\f a=some r:=Option.bind_eq_some_iff.1 h
theorem B6 {a b:R}(h:some a=some b):a=b:=Option.some.inj h
end
section
variable {S:X1}{P:Program}{F:H6}{K:List It}{st:St}
theorem A5 (hS:F4 S P){n:Nat}{rs:List ResultVar}{Q:Je->List Obj->List Bool->Prop}(s:St)(h:S.up s (AX S P n rs Q .normal)):AX S P n rs Q .normal s:=hS.trans _ _ h
theorem Af2 (hS:F4 S P){b:Code}{R A:Type}{body:(A->Option R)->A->Option R}{N:Nat}{a0:A}{r:R}(h:Az N body a0=some r)(s:A->St)(ids:List (Nat×Nat))(hle:Le ids st (s a0))
 (hr:∀(X:Type) (s' : X->St) (J:X->Prop) (m:X->Nat) (n:Nat) (self:A->Option R) (a:A),(∀st ids a,Le ids st (s a)->self a=some r->G S P F (.pop .normal (.lp X s' J m n::K) st))->body self a=some r->G S P F (.code b (.lp X s' J m n::K) (s a))) :
 G S P F (.code (.loop b) K st):=by
 refine YF hS (X:=Nat×A) (fun x=>s x.2) (fun x=>Az x.1 body x.2=some r) (fun x=>x.1) (N,a0) ids hle h ?_;rintro⟨n,a⟩ hx;cases n with
 |zero=>cases hx
 |succ n=>exact hr _ _ _ _ _ (Az n body) a (fun st ids a hle h=>Vm hS (n,a) ids hle h (Nat.lt_succ_self n)) hx
theorem VU (hS:F4 S P){all rest:List Oper}{o:Oper}(t:St)(ids:List (Nat×Nat))(hle:Le ids st t)(h:G S P F (.ops all (o::rest) K t)):G S P F (.ops all (o::rest) K st):=
 OE hS (hS.le ids _ _ _ hle h)
end
theorem pm:(∀b,(true||b)=true)/\(∀b,(b||true)=true)/\(∀b,(false||b)=b)/\(∀b,(b||false)=b)/\(∀b,(true&&b)=b)/\(∀b,(b&&true)=b)/\(∀b,(false&&b)=false)/\(∀b,(b&&false)=false)/\((!true)=false)/\((!false)=true)/\((false=true)=False)/\((true=true)=True):=by refine⟨?_,?_,?_,?_,?_,?_,?_,?_,?_,?_,?_,?_⟩<;>simp
section
variable {regs:C4}{ids:List (Nat×Nat)}
variable {env r:Env}{t:Nat}{a b:AV}{x y:PV}
theorem Mo {α : Type}{c : α -> List PV}{n:Nat}{v:Sl α}{f:Nat->List PV}{z cs:List PV}{x : α}(h:∀i,i<n->f i=c (v.g i))(hn:n=v.n)(hx:cs=c x):∀i,i<n+1->AW n f (E4 z [(0,cs)]) i=c ((v.push x).g i):=by
 subst hn hx;intro i hi;show (if i<v.n then f i else E4 z [(0,c x)] (i-v.n))=c (if i<v.n then v.g i else x);split
 ·exact h i ‹_›
 ·obtain rfl:i=v.n:=by omega
  simp[E4]
theorem Ak1 {α : Type}{c : α -> List PV}{n m:Nat}{v w:Sl α}{f g:Nat->List PV}(h:∀i,i<n->f i=c (v.g i))(hn:n=v.n)(h' : ∀i,i<m->g i=c (w.g i))(hm:m=w.n):∀i,i<n+m->AW n f g i=c ((v.app w).g i):=by
 subst hn hm;intro i hi;show (if i<v.n then f i else g (i-v.n))=c (if i<v.n then v.g i else w.g (i-v.n));split
 ·exact h i ‹_›
 ·exact h' _ (by omega)
theorem Af3 {α : Type}{c : α -> List PV}{n k:Nat}{v:Sl α}{f:Nat->List PV}{e:Nat->List PV}{x : α}(h:∀i,i<n->f i=c (v.g i))(hx:k<n->e k=c x):∀i,i<n->(fun l=>if l=k then e l else f l) i=c ((v.upd k x).g i):=by
 intro i hi;show (if i=k then e i else f i)=c (if i=k then x else v.g i);split
 ·subst_vars;exact hx hi
 ·exact h i hi
theorem same {n:Nat}{f:Nat->List PV}:∀i,i<n->f i=f i:=fun _ _=>rfl
end
end Go.AM
namespace Go.AM
abbrev cI (k:IntKind)(n:Int):List PV:=[.v (.int k n)]
abbrev cB (b:Bool):List PV:=[.bb b]
abbrev cS (s:Str):List PV:=[.str s]
abbrev cL {α : Type}(k:Nat)(c : α -> List PV)(s:Sl α):List PV:=[vSl k c s]
section
variable {S:X1}{P:Program}{F:H6}{K:List It}{st:St}
end
section
variable {regs:C4}{ids:List (Nat×Nat)}
theorem le_yf {i j:Nat}(h:lk ids j=some i):leA regs ids (.yf i) (.yf j):=by unfold leA;exact⟨i,h,rfl⟩
theorem Af4 {l m:List AV}(h:leL regs ids l m):leA regs ids (.tup l) (.tup m):=by unfold leA;exact⟨l,rfl,h⟩
theorem Af5 {l m:List AV}(h:leL regs ids l m):leA regs ids (.agr l) (.agr m):=by unfold leA;exact⟨l,rfl,h⟩
end
end Go.AM
namespace Go.AM
def IG {κ ν : Type}(kP : κ -> PV)(vP : ν -> PV)(es:List (κ × ν)):List (PV×PV):=es.map fun p=>(kP p.1,vP p.2)
def Bk {κ ν : Type}(eq : κ -> κ -> Bool)(k : κ):List (κ × ν)->Option ν
 |[]=>none
 |(a,v)::es=>if eq k a then some v else Bk eq k es
def KV {κ ν : Type}(eq : κ -> κ -> Bool)(k : κ)(v : ν):List (κ × ν)->List (κ × ν)
 |[]=>[(k,v)]
 |(a,x)::es=>if eq k a then (k,v)::es else (a,x)::KV eq k v es
theorem QS {κ ν : Type}(kP : κ -> PV)(vP : ν -> PV)(es:List (κ × ν)):(IG kP vP es).length=es.length:=by simp[IG]
theorem Cc {κ ν : Type}{kP : κ -> PV}{vP : ν -> PV}{cmp:PV->PV->Option Bool}{eq : κ -> κ -> Bool}(hc:∀a b,cmp (kP a) (kP b)=some (eq a b))(k : κ):∀es:List (κ × ν),find cmp (kP k) (IG kP vP es)=some ((Bk eq k es).map vP)
 |[]=>rfl
 |(a,v)::es=>by
  show (match cmp (kP k) (kP a)with|some true=>some (some (vP v))|some false=>find cmp (kP k) (IG kP vP es)|none=>none)=some ((Bk eq k ((a,v)::es)).map vP);rw[hc];simp only[Bk];cases h:eq k a
  ·simpa using Cc hc k es
  ·rfl
theorem GM {κ ν : Type}{kP : κ -> PV}{vP : ν -> PV}{cmp:PV->PV->Option Bool}{eq : κ -> κ -> Bool}(hc:∀a b,cmp (kP a) (kP b)=some (eq a b))(k : κ)(x : ν):∀es:List (κ × ν),upd cmp (kP k) (vP x) (IG kP vP es)=some (IG kP vP (KV eq k x es))
 |[]=>rfl
 |(a,v)::es=>by
  show (match cmp (kP k) (kP a)with|some true=>some ((kP k,vP x)::IG kP vP es)|some false=>(upd cmp (kP k) (vP x) (IG kP vP es)).map ((kP a,vP v) :: ·)|none=>none)=some (IG kP vP (KV eq k x ((a,v)::es)));rw[hc];simp only[KV];cases h:eq k a
  ·simp only[GM hc k x es,Option.map_some,if_false,Bool.false_eq_true];rfl
  ·rfl
abbrev eqS (a b:Str):Bool:=a==b
def ZG {X Y:Type}(o:Option X)(a:Y)(f:X->Y):Y:=match o with
 |none=>a
 |some x=>f x
theorem optN {X R:Type}{r:R}{o:Option X}{a:Option R}{f:X->Option R}(ho:o=none)(h:ZG o a f=some r):a=some r:=by subst ho;exact h
theorem optS {X R:Type}{r:R}{o:Option X}{x:X}{a:Option R}{f:X->Option R}(ho:o=some x)(h:ZG o a f=some r):f x=some r:=by subst ho;exact h
theorem Pk {X Y:Type}(a:Y)(f:X->Y):ZG none a f=a:=rfl
theorem VV {X Y:Type}(x:X)(a:Y)(f:X->Y):ZG (some x) a f=f x:=rfl
section
variable {R T A B C D:Type}
def iter0 (L:List T)(body:Option R->T->Option R)(k:Option R):Option R:=match L with
 |[]=>k
 |t::L=>body (iter0 L body k) t
def Y9 (L:List T)(body:(A->Option R)->T->A->Option R)(k:A->Option R)(a:A):Option R:=match L with
 |[]=>k a
 |t::L=>body (Y9 L body k) t a
end
section
variable {S:X1}{P:Program}{F:H6}{K:List It}{st:St}
theorem ZH (hS:F4 S P){g:Operand}{ps:Array Tmp}{asg body:Code}{f:FuncId}{first caps as bs:List AV}{objs:List Obj}{R T A:Type}{enc:T->List PV}{L:List T}{mb:(A->Option R)->T->A->Option R}{mk:A->Option R}{a0:A}{r:R}
 (ids ts:List Nat) (gh:Nat) (s:A->St) (idl:List (Nat×Nat)) (h:Y9 L mb mk a0=some r) (hF:DH S f as bs objs (L.map enc))
 (hp:CF st.env g=some (f,first,caps)) (hfn:∃fn,P.funcs[f]? = some fn/\fn.body.isSome=true/\(fn.name == "runtime.NumGoroutine")=false) (hob:H8 ids st.regs ids=some objs) (hny:Df objs=true) (hd:F0 ids=true) (hr1:BN ids first=some as) (hr2:BN ids caps=some bs) (hol:objs.length=ids.length)
 (hgh:Nat.blt gh 1000=true) (hng:A1 st.regs gh=none) (hil:Nat.blt ids.length 1000=true) (hts:F0 ts=true) (hlen:∀t:T,(enc t).length=ps.size)
 (hle:Le idl ⟨R8 ts (ts.map (get st.env)),K9 ids (ids.map fun _=>false) st.regs⟩ (s a0)) (hk:∀a,(s a).env.map (·.1)=ts) (hn:∀a,A1 (s a).regs gh=none)
 (hround:∀(t:T) (next:St->Prop) (self:A->Option R) (a:A),(∀(st st1:St) (cs:List AV) (idl:List (Nat×Nat)) (a:A),Le idl st st1->A1 st1.regs gh=some (.ghost cs)->cs.length=ts.length->A1 (del gh st1.regs) gh=none->(⟨R8 ts cs,del gh st1.regs⟩:St)=s a->self a=some r->G S P (CH S gh ts next (kp S P K F)) (.pop .normal [] st)) ->
  mb self t a=some r->G S P (An S P body gh ts next (kp S P K F)) (.code asg [] ⟨Gx ps.toList (enc t) (s a).env,ins gh (.ghost ((s a).env.map (·.2))) (s a).regs⟩))
 (hend:∀a,mk a=some r->G S P F (.pop .normal K (s a))):G S P F (.code (.rangeFunc g ps asg body) K st):=by
 refine VQ hS ids ts gh (L.map enc) s (fun rest a=>∃L',rest=L'.map enc/\Y9 L' mb mk a=some r) a0 idl hp hfn hob hny hd hr1 hr2 hol (by simpa[Nat.blt_eq]using hgh) hng (by simpa[Nat.blt_eq]using hil) hts (fun ys hy=>?_) hF hle ⟨L,rfl,h⟩ hk hn ?_ ?_
 ·obtain⟨t,_,rfl⟩:=List.mem_map.1 hy;exact hlen t
 ·rintro ys rest a ⟨L',hL,hx⟩;cases L' with
  |nil=>cases hL
  |cons t L'=>simp only[List.map_cons,List.cons.injEq]at hL;obtain⟨rfl,rfl⟩:=hL;refine hround t _ (Y9 L' mb mk) a (fun st st1 cs idl a hle h1 h2 h3 h4 h5=>?_) hx;exact QO hS st1 a idl hle h1 h2 h3 h4 ⟨L',rfl,h5⟩
 ·rintro a ⟨L',hL,hx⟩;cases L' with
  |nil=>exact hend a hx
  |cons t L'=>cases hL
theorem XG (hS:F4 S P){g:Operand}{ps:Array Tmp}{asg body:Code}{f:FuncId}{first caps as bs:List AV}{objs:List Obj}{R T A:Type}{enc:T->List PV}{L:List T}{mb:(A->Option R)->T->A->Option R}{mk:A->Option R}{a0:A}{r0:R}
 (ids ts:List Nat) (gh:Nat) (s:A->R->St) (idl:List (Nat×Nat)) (h:Y9 L mb mk a0=some r0) (hF:DH S f as bs objs (L.map enc))
 (hp:CF st.env g=some (f,first,caps)) (hfn:∃fn,P.funcs[f]? = some fn/\fn.body.isSome=true/\(fn.name == "runtime.NumGoroutine")=false) (hob:H8 ids st.regs ids=some objs) (hny:Df objs=true) (hd:F0 ids=true) (hr1:BN ids first=some as) (hr2:BN ids caps=some bs) (hol:objs.length=ids.length)
 (hgh:Nat.blt gh 1000=true) (hng:A1 st.regs gh=none) (hil:Nat.blt ids.length 1000=true) (hts:F0 ts=true) (hlen:∀t:T,(enc t).length=ps.size)
 (hle:Le idl ⟨R8 ts (ts.map (get st.env)),K9 ids (ids.map fun _=>false) st.regs⟩ (s a0 r0)) (hk:∀a r,(s a r).env.map (·.1)=ts) (hn:∀a r,A1 (s a r).regs gh=none)
 (hround:∀(t:T) (next:St->Prop) (self:A->Option R) (a:A) (r:R),(∀(st st1:St) (cs:List AV) (idl:List (Nat×Nat)) (a:A) (r:R),Le idl st st1->A1 st1.regs gh=some (.ghost cs)->cs.length=ts.length->A1 (del gh st1.regs) gh=none->(⟨R8 ts cs,del gh st1.regs⟩:St)=s a r->self a=some r->G S P (CH S gh ts next (kp S P K F)) (.pop .normal [] st)) ->
  mb self t a=some r->G S P (An S P body gh ts next (kp S P K F)) (.code asg [] ⟨Gx ps.toList (enc t) (s a r).env,ins gh (.ghost ((s a r).env.map (·.2))) (s a r).regs⟩))
 (hend:∀a r,mk a=some r->G S P F (.pop .normal K (s a r))):G S P F (.code (.rangeFunc g ps asg body) K st):=by
 refine VQ hS ids ts gh (L.map enc) (fun x:A×R=>s x.1 x.2) (fun rest x=>∃L',rest=L'.map enc/\Y9 L' mb mk x.1=some x.2) (a0,r0) idl hp hfn hob hny hd hr1 hr2 hol (by simpa[Nat.blt_eq]using hgh) hng (by simpa[Nat.blt_eq]using hil) hts (fun ys hy=>?_) hF hle ⟨L,rfl,h⟩ (fun x=>hk x.1 x.2) (fun x=>hn x.1 x.2) ?_ ?_
 ·obtain⟨t,_,rfl⟩:=List.mem_map.1 hy;exact hlen t
 ·rintro ys rest ⟨a,r⟩ ⟨L',hL,hx⟩;cases L' with
  |nil=>cases hL
  |cons t L'=>simp only[List.map_cons,List.cons.injEq]at hL;obtain⟨rfl,rfl⟩:=hL;refine hround t _ (Y9 L' mb mk) a r (fun st st1 cs idl a r hle h1 h2 h3 h4 h5=>?_) hx;exact QO hS st1 (a,r) idl hle h1 h2 h3 h4 ⟨L',rfl,h5⟩
 ·rintro⟨a,r⟩ ⟨L',hL,hx⟩;cases L' with
  |nil=>exact hend a r hx
  |cons t L'=>cases hL
end
end Go.AM
namespace Go.AM
section
variable {S:X1}{P:Program}{all:List Oper}{k:Env->C4->Prop}
end
end Go.AM
namespace Go.AM
section
variable (P:Program)
def stp (g:Cfg):Cfg:=(run P none 400 [] g).cfg
def cnd (g:Cfg):List Prop:=(run P none 400 [] g).conds
def EF (d:Nat)(g:Cfg):Cfg:=(run P (some d) 400 [] g).cfg
def Ac6 (d:Nat)(g:Cfg):List Prop:=(run P (some d) 400 [] g).conds
def Cfg.st:Cfg->St
 |.code _ _ s=>s
 |.ops _ _ _ s=>s
 |.pop _ _ s=>s
def Cfg.k:Cfg->List It
 |.code _ K _=>K
 |.ops _ _ K _=>K
 |.pop _ K _=>K
def mkO {R:Type _}(env:Env)(regs:C4)(κ : Env->C4->R):R:=fE env fun env=>fR regs fun regs=>κ env regs
theorem Dn {R:Type _}(env:Env)(regs:C4)(κ : Env->C4->R):mkO env regs κ = κ env regs:=by simp only[mkO,fE_eq,Ze]
def YL {R:Type _}(d:Option Nat)(a:AV)(env:Env)(regs:C4)(κ : St->R):R:=match d with
 |some d=>mkO (ins d a env) regs fun env regs=>κ ⟨env,regs⟩
 |none=>mkO env regs fun env regs=>κ ⟨env,regs⟩
theorem HI {R:Type _}(d:Option Nat)(a:AV)(env:Env)(regs:C4)(κ : St->R):YL d a env regs κ = κ (put ⟨env,regs⟩ d a):=by cases d<;>simp only[YL,Dn,put]
def XH:Cfg->Option Bool
 |.code (.cond c _ _) _ st=>match aev st.env c with
  |.p (.bb b)=>some b
  |_=>none
 |_=>none
def ZI:Cfg->Cfg
 |.code (.cond _ t _) K st=>.code t K st
 |g=>g
def ZJ:Cfg->Cfg
 |.code (.cond _ _ e) K st=>.code e K st
 |g=>g
def SD:Cfg->Option Bool
 |.ops all (o::_) _ st=>match o.guard with
  |some (j,_)=>match Ad4 all j with
   |some d=>match get st.env d with
    |.p (.bb b)=>some b
    |_=>none
   |none=>none
  |none=>none
 |_=>none
def JD (b:Bool):Cfg->Cfg
 |.ops all (o::rest) K st=>match o.guard with
  |some (j,_)=>match Ad4 all j with
   |some d=>YL (some d) (.p (.v (.bool b))) st.env st.regs fun st=>.ops all (o::rest) K st
   |none=>.ops all (o::rest) K st
  |none=>.ops all (o::rest) K st
 |g=>g
def TT (ids:List Nat):Cfg->Option (FuncId×List AV×List Obj)
 |.ops all (o::_) _ st=>match By all st.env o,o.op with
  |some true,.call c=>match c.callee with
   |.value f=>match KS st.regs (c.args.toList.map (aev st.env))with
    |some (as,regs)=>match Qt st.env f as with
     |some (fn,as')=>match BN ids as',H8 ids regs ids with
      |some a,some ob=>if F0 ids&&Df ob then some (fn,a,ob)else none
      |_,_=>none
     |none=>none
    |none=>none
   |_=>none
  |_,_=>none
 |_=>none
def TU (ids:List Nat)(ks:List Bool)(n:Nat):Cfg->Bool
 |.ops _ (o::_) _ st=>match o.op with
  |.call c=>match KS st.regs (c.args.toList.map (aev st.env))with
   |some (_,regs)=>BW regs ids ks (o.dst.getD 0) n
   |none=>false
  |_=>false
 |_=>false
def XJ (ids:List Nat)(ks:List Bool)(r:AV)(objs' : List Obj):Cfg->Cfg
 |.ops all (o::rest) K st=>match o.op with
  |.call c=>match KS st.regs (c.args.toList.map (aev st.env))with
   |some (_,regs)=>YL o.dst (unA (K8 (o.dst.getD 0) ids ks objs'.length) r) st.env
    (UR (K8 (o.dst.getD 0) ids ks objs'.length) (K8 (o.dst.getD 0) ids ks objs'.length) objs' (K9 ids ks regs)) fun st=>.ops all rest K st
   |none=>.ops all (o::rest) K st
  |_=>.ops all (o::rest) K st
 |g=>g
structure LookI where
 kt:TypeId
 e:TypeId
 key:PV
 es:List (PV×PV)
def ZK:Cfg->Option LookI
 |.ops all (o::_) _ st=>match By all st.env o,o.op with
  |some true,.lookup t m k _=>match Gv st.regs (aev st.env k),aev st.env m with
   |some (key,regs),.mref j=>match A1 regs j,tk P t with
    |some (.map es),some (.map kt e)=>if ID P kt key then some ⟨kt,e,key,es⟩else none
    |_,_=>none
   |_,_=>none
  |_,_=>none
 |_=>none
def Af6 (e:TypeId):Option PV->Option (PV×Bool)
 |some x=>some (x,true)
 |none=>(Jc P e).map fun z=>(z,false)
def ZL (x:PV)(b:Bool):Cfg->Cfg
 |.ops all (o::rest) K st=>match o.op with
  |.lookup _ _ k ok=>match Gv st.regs (aev st.env k)with
   |some (_,regs)=>YL o.dst (if ok then .tup [.p x,.bool b]else .p x) st.env regs fun st=>.ops all rest K st
   |none=>.ops all (o::rest) K st
  |_=>.ops all (o::rest) K st
 |g=>g
def updE:Cfg->Option (TypeId×PV×PV×List (PV×PV))
 |.ops all (o::_) _ st=>match By all st.env o,o.op with
  |some true,.mapUpdate t m k x=>match aev st.env k,aev st.env m,Gv st.regs (aev st.env x)with
   |.p key,.mref j,some (y,regs)=>match A1 regs j,tk P t with
    |some (.map es),some (.map kt _)=>if ID P kt (nP key) then some (kt,nP key,y,es)else none
    |_,_=>none
   |_,_,_=>none
  |_,_=>none
 |_=>none
def updK (es' : List (PV×PV)):Cfg->Cfg
 |.ops all (o::rest) K st=>match o.op with
  |.mapUpdate _ m _ x=>match aev st.env m,Gv st.regs (aev st.env x)with
   |.mref j,some (_,regs)=>YL o.dst Tm st.env (ins j (.map es') regs) fun st=>.ops all rest K st
   |_,_=>.ops all (o::rest) K st
  |_=>.ops all (o::rest) K st
 |g=>g
def Ik:Cfg->Bool
 |.code (.loop _) _ _=>true
 |_=>false
def QT:Cfg->Code
 |.code (.loop b) _ _=>b
 |_=>.skip
def popSt:Cfg->Option St
 |.pop .normal _ st=>some st
 |_=>none
def Pl (M:It):Nat->List It->List It
 |0,K=>M::K
 |n+1,i::K=>i::Pl M n K
 |_+1,[]=>[M]
def Af7 (n:Nat)(M:St->Prop):Cfg->Cfg
 |.code c K st=>.code c (Pl (.mid M) n K) st
 |.ops all rest K st=>.ops all rest (Pl (.mid M) n K) st
 |.pop e K st=>.pop e (Pl (.mid M) n K) st
def EG:Cfg->Bool
 |.ops _ (_::_) _ _=>true
 |_=>false
def opsS (st:St):Cfg->Cfg
 |.ops all rest K _=>.ops all rest K st
 |g=>g
def ZM:Cfg->Option St
 |.pop .ret [] st=>some st
 |.pop .normal [] st=>some st
 |_=>none
inductive Leaf where
 |eq (x y:PV)
 |fn (n m:Nat) (f g:Nat->List PV)
 |mp (x y:List (PV×PV))
 |yl (x y:List (List PV)) (b c:Bool)
 |nt (a b:Nat)
 |ob (n:Nat) (f g:Nat->Obj)
inductive LV where
 |eq (x:PV)
 |fn (n:Nat) (f:Nat->List PV)
 |mp (x:List (PV×PV))
 |yl (x:List (List PV)) (b:Bool)
 |nt (a:Nat)
 |ob (f:Nat->Obj)
def Leaf.src:Leaf->LV
 |.eq x _=>.eq x
 |.fn n _ f _=>.fn n f
 |.mp x _=>.mp x
 |.yl x _ b _=>.yl x b
 |.nt a _=>.nt a
 |.ob _ f _=>.ob f
def Leaf.tgt:Leaf->LV
 |.eq _ y=>.eq y
 |.fn _ m _ g=>.fn m g
 |.mp _ y=>.mp y
 |.yl _ y _ c=>.yl y c
 |.nt _ b=>.nt b
 |.ob _ _ g=>.ob g
def Leaf.ok:Leaf->Prop
 |.eq x y=>x=y
 |.fn n m f g=>n=m/\∀i,i<n->f i=g i
 |.mp x y=>x=y
 |.yl x y b c=>x=y/\b=c
 |.nt a b=>a=b
 |.ob n f g=>∀i,i<n->f i=g i
theorem Leaf.ok_of {l:Leaf}(h:l.src=l.tgt):l.ok:=by
 cases l with
 |eq x y=>simp only[Leaf.src,Leaf.tgt,LV.eq.injEq]at h;exact h
 |fn n m f g=>simp only[Leaf.src,Leaf.tgt,LV.fn.injEq]at h;obtain⟨rfl,rfl⟩:=h;exact⟨rfl,fun _ _=>rfl⟩
 |mp x y=>simp only[Leaf.src,Leaf.tgt,LV.mp.injEq]at h;exact h
 |yl x y b c=>simp only[Leaf.src,Leaf.tgt,LV.yl.injEq]at h;exact h
 |nt a b=>simp only[Leaf.src,Leaf.tgt,LV.nt.injEq]at h;exact h
 |ob n f g=>simp only[Leaf.src,Leaf.tgt,LV.ob.injEq]at h;subst h;exact fun _ _=>rfl
def ZN:PV->PV->Leaf
 |.v (.bool b),.bb c=>.eq (.bb b) (.bb c)
 |.v (.slice none 0 0),.sl false _ n f=>.fn 0 n f f
 |.sl nn k n f,.sl false l m g=>if k=l then .fn n m f g else .eq (.sl nn k n f) (.sl false l m g)
 |x,y=>.eq x y
mutual
def GN (regs:C4)(ids:List (Nat×Nat))(a b:AV):Option (List Leaf):=
 match b with
 |.top=>some []
 |.p y=>match viewP regs a with
  |some x=>some [ZN x y]
  |none=>none
 |.reg j off=>match a with | .reg i off'=>if lk ids j=some i/\off=off' then some []else none|_=>none
 |.vec j=>match a with
  |.vec i=>if lk ids j=some i then some []else none
  |.p (.v (.slice none 0 0))=>if lk ids j=none then some []else none
  |_=>none
 |.vecp j n=>match a with | .vecp i m=>if lk ids j=some i/\n=m then some []else none|_=>none
 |.elt j k n off=>match a with | .elt i k' n' off'=>if lk ids j=some i/\k=k' /\ n=n' /\ off=off' then some []else none|_=>none
 |.mref j=>match a with | .mref i=>if lk ids j=some i then some []else none|_=>none
 |.yf j=>match a with | .yf i=>if lk ids j=some i then some []else none|_=>none
 |.clo f x y=>match a with
  |.clo f' x' y'=>match Lb regs ids x' x,Lb regs ids y' y with|some l,some m=>some (.nt f' f::l++m)|_,_=>none
  |_=>none
 |.tup l=>match a with | .tup l'=>Lb regs ids l' l|_=>none
 |.agr l=>match a with | .agr l'=>Lb regs ids l' l|_=>none
def Lb (regs:C4)(ids:List (Nat×Nat))(a b:List AV):Option (List Leaf):=
 match b with
 |[]=>match a with | []=>some [] | _=>none
 |y::s=>match a with
  |x::r=>match GN regs ids x y,Lb regs ids r s with|some l,some m=>some (l++m)|_,_=>none
  |[]=>none
end
def XK (regs:C4)(ids:List (Nat×Nat))(env:Env):Env->Option (List Leaf)
 |[]=>some []
 |(t,b)::r=>match GN regs ids (get env t) b,XK regs ids env r with|some l,some m=>some (l++m)|_,_=>none
def Lc (regs:C4)(ids:List (Nat×Nat))(o p:Obj):Option (List Leaf):=
 match p with
 |.cells cs=>match o with | .cells cs'=>Lb regs ids cs' cs|_=>none
 |.vec e k n f vw=>match o with
  |.vec e' k' m g vw'=>if e=e' /\ k=k' /\ (vw' = true->vw=true)then some [.fn m n g f]else none
  |_=>none
 |.map es=>match o with | .map es'=>some [.mp es' es] | _=>none
 |.arr n f=>match o with | .arr m g=>some [.fn m n (fun i=>[g i]) (fun i=>[f i])] | _=>none
 |.ghost cs=>match o with | .ghost cs'=>Lb regs ids cs' cs|_=>none
 |.yld r b=>match o with | .yld r' b'=>some [.yl r' r b' b] | _=>none
 |.fam e n jr x=>match o with
  |.fam e' m jr' x'=>if e=e' /\ lk ids jr=some jr' then (match x,x' with
   |none,none=>some [.nt m n]
   |some (i,a),some (i',a')=>match nov a' a,GN regs ids a' a with
    |true,some l=>some (.nt m n :: .nt i' i::l)
    |_,_=>none
   |_,_=>none)else none
  |_=>none
 |.rows n g=>match o with | .rows m g'=>some [.nt m n,.ob n g' g] | _=>none
 |.dead=>some []
def XL (regs:C4)(ids:List (Nat×Nat)):C4->Option (List Leaf)
 |[]=>some []
 |(j,p)::r=>match (match lk ids j with
  |some i=>match A1 regs i with
   |some o=>Lc regs ids o p
   |none=>none
  |none=>match p with
   |.vec _ _ n f _=>some [.fn 0 n f f]
   |_=>none:Option (List Leaf)),XL regs ids r with
  |some l,some m=>some (l++m)
  |_,_=>none
def leK (ids:List (Nat×Nat))(s t:St):Option (List Leaf):=
 if (wf t&&F0 (ids.map (·.2))&&Tn ids&&LQ ids t.regs&&Ia ids (WU s.env t.env++Gz ids s.regs t.regs) t.regs) then
  match XK s.regs ids s.env t.env,XL s.regs ids t.regs with
  |some l,some m=>some (l++m)
  |_,_=>none
 else none
theorem XM {x y:PV}(h:(ZN x y).ok):leP x y:=by
 unfold ZN at h;split at h
 ·simp only[Leaf.ok,PV.bb.injEq]at h;subst h;exact .inr (.inr (.inr (.inl ⟨_,rfl,rfl⟩)))
 ·obtain⟨rfl,_⟩:=h;exact .inr (.inr (.inl ⟨_,_,rfl,rfl⟩))
 ·split at h
  ·rename_i hk;subst hk;obtain⟨rfl,h⟩:=h;exact .inr (.inl ⟨_,_,_,_,_,rfl,rfl,h⟩)
  ·exact .inl h
 ·exact .inl h
theorem JE {l m:List Leaf}(h:∀x∈l++m,x.ok):(∀x∈l,x.ok)/\∀x∈m,x.ok:=
 ⟨fun x hx=>h x (List.mem_append_left _ hx),fun x hx=>h x (List.mem_append_right _ hx)⟩
mutual
theorem Nm {regs:C4}{ids:List (Nat×Nat)}{a:AV}(b:AV){L:List Leaf}(h:GN regs ids a b=some L)(hL:∀x∈L,x.ok):leA regs ids a b:=by
 cases b with
 |top=>unfold leA;trivial
 |p y=>
  unfold GN at h;split at h
  ·rename_i x hx;cases h;unfold leA;exact⟨x,hx,XM (hL _ (by simp))⟩
  ·cases h
 |reg j off=>
  unfold GN at h;split at h
  ·split at h
   ·rename_i hh;obtain⟨h1,rfl⟩:=hh;exact Ad7 h1
   ·cases h
  ·cases h
 |vec j=>
  unfold GN at h;split at h
  ·split at h
   ·rename_i h1;exact Ad6 h1
   ·cases h
  ·split at h
   ·rename_i h1;exact Zi h1
   ·cases h
  ·cases h
 |vecp j n=>
  unfold GN at h;split at h
  ·split at h
   ·rename_i hh;obtain⟨h1,rfl⟩:=hh;unfold leA;exact⟨_,h1,rfl⟩
   ·cases h
  ·cases h
 |elt j k n off=>
  unfold GN at h;split at h
  ·split at h
   ·rename_i hh;obtain⟨h1,rfl,rfl,rfl⟩:=hh;unfold leA;exact⟨_,h1,rfl⟩
   ·cases h
  ·cases h
 |mref j=>
  unfold GN at h;split at h
  ·split at h
   ·rename_i h1;exact Zj h1
   ·cases h
  ·cases h
 |yf j=>
  unfold GN at h;split at h
  ·split at h
   ·rename_i h1;exact le_yf h1
   ·cases h
  ·cases h
 |clo f x y=>
  unfold GN at h;split at h
  ·split at h
   ·rename_i l m h1 h2;cases h;have hf:=hL _ (List.mem_cons_self ..);simp only[Leaf.ok]at hf;subst hf;obtain⟨h3,h4⟩:=JE fun x hx=>hL x (List.mem_cons_of_mem _ hx);exact Ad8 (DI x h1 h3) (DI y h2 h4)
   ·cases h
  ·cases h
 |tup l=>
  unfold GN at h;split at h
  ·exact Af4 (DI l h hL)
  ·cases h
 |agr l=>
  unfold GN at h;split at h
  ·exact Af5 (DI l h hL)
  ·cases h
theorem DI {regs:C4}{ids:List (Nat×Nat)}{a:List AV}(b:List AV){L:List Leaf}(h:Lb regs ids a b=some L)(hL:∀x∈L,x.ok):leL regs ids a b:=by
 cases b with
 |nil=>
  unfold Lb at h;split at h
  ·exact Zk
  ·cases h
 |cons y s=>
  unfold Lb at h;split at h
  ·split at h
   ·rename_i l m h1 h2;cases h;obtain⟨h3,h4⟩:=JE hL;exact WX (Nm y h1 h3) (DI s h2 h4)
   ·cases h
  ·cases h
end
theorem SE {regs:C4}{ids:List (Nat×Nat)}{env:Env}:∀(t:Env) {L:List Leaf},XK regs ids env t=some L->(∀x∈L,x.ok)->Ve regs ids env t
 |[],_,_,_=>trivial
 |(t,b)::r,L,h,hL=>by
  simp only[XK]at h;split at h
  ·rename_i l m h1 h2;cases h;obtain⟨h3,h4⟩:=JE hL;exact⟨Nm b h1 h3,SE r h2 h4⟩
  ·cases h
theorem XN {regs:C4}{ids:List (Nat×Nat)}{o p:Obj}{L:List Leaf}(h:Lc regs ids o p=some L)(hL:∀x∈L,x.ok):leO regs ids o p:=by
 cases p with
 |cells cs=>
  simp only[Lc]at h;split at h
  ·exact WY (DI cs h hL)
  ·cases h
 |vec e k n f vw=>
  simp only[Lc]at h;split at h
  ·split at h
   ·rename_i hh;obtain⟨rfl,rfl,hv⟩:=hh;cases h;obtain⟨rfl,h1⟩:=hL _ (List.mem_singleton.2 rfl);exact⟨_,_,rfl,h1,hv⟩
   ·cases h
  ·cases h
 |map es=>
  simp only[Lc]at h;split at h
  ·cases h
   have:=hL _ (List.mem_singleton.2 rfl)
   simp only[Leaf.ok]at this;subst this;rfl
  ·cases h
 |arr n f=>
  simp only[Lc]at h;split at h
  ·cases h;obtain⟨rfl,h1⟩:=hL _ (List.mem_singleton.2 rfl);exact⟨_,rfl,fun i hi=>by simpa using h1 i hi⟩
  ·cases h
 |ghost cs=>
  simp only[Lc]at h;split at h
  ·exact⟨_,rfl,DI cs h hL⟩
  ·cases h
 |yld r b=>
  simp only[Lc]at h;split at h
  ·cases h;obtain⟨rfl,rfl⟩:=hL _ (List.mem_singleton.2 rfl);rfl
  ·cases h
 |fam e n jr x=>
  simp only[Lc]at h;split at h
  ·split at h
   ·rename_i he;obtain⟨rfl,hj⟩:=he;split at h
    ·cases h;have h0:=hL _ (List.mem_cons_self ..);simp only[Leaf.ok]at h0;subst h0;exact⟨_,_,rfl,hj,rfl⟩
    ·split at h
     ·rename_i hn hl;cases h;have h0:=hL _ (List.mem_cons_self ..);have h1:=hL _ (List.mem_cons_of_mem _ (List.mem_cons_self ..));simp only[Leaf.ok]at h0 h1;subst h0 h1;exact⟨_,_,rfl,hj,_,rfl,hn,Nm _ hl fun x hx=>hL x (by simp[hx])⟩
     ·cases h
    ·cases h
   ·cases h
  ·cases h
 |rows n g=>
  simp only[Lc]at h;split at h
  ·cases h;have h0:=hL _ (List.mem_cons_self ..);simp only[Leaf.ok]at h0;subst h0;exact⟨_,rfl,hL (.ob _ _ _) (by simp)⟩
  ·cases h
 |dead=>trivial
theorem SF {regs:C4}{ids:List (Nat×Nat)}:∀(t:C4) {L:List Leaf},XL regs ids t=some L->(∀x∈L,x.ok)->OA regs ids t
 |[],_,_,_=>trivial
 |(j,p)::r,L,h,hL=>by
  simp only[XL]at h;split at h
  ·rename_i l m h1 h2;cases h;obtain⟨h3,h4⟩:=JE hL;refine⟨?_,SF r h2 h4⟩;split at h1
   ·rename_i i hi;split at h1
    ·rename_i o ho;exact .inl ⟨i,o,hi,ho,XN h1 h3⟩
    ·cases h1
   ·rename_i hi;split at h1
    ·cases h1;obtain⟨rfl,_⟩:=h3 _ (List.mem_singleton.2 rfl);exact .inr ⟨hi,_,_,_,_,rfl⟩
    ·cases h1
  ·cases h
theorem YM {ids:List (Nat×Nat)}{s t:St}{L:List Leaf}(h:leK ids s t=some L)(hL:∀x∈L,x.ok):Le ids s t:=by
 unfold leK at h;split at h
 ·rename_i hw;split at h
  ·rename_i l m h1 h2;cases h;obtain⟨h3,h4⟩:=JE hL;exact le_mk hw (SE _ h1 h3) (SF _ h2 h4)
  ·cases h
 ·cases h
theorem kle {ids:List (Nat×Nat)}{s t:St}(h:(leK ids s t).map (·.map Leaf.src)=(leK ids s t).map (·.map Leaf.tgt):=by kernel_rfl)(h1:(leK ids s t).isSome=true:=by kernel_rfl):Le ids s t:=by
 obtain⟨L,hL⟩:=Option.isSome_iff_exists.1 h1;rw[hL]at h;simp only[Option.map_some,Option.some.injEq]at h;refine YM hL fun x hx=>?_;obtain⟨i,hi,rfl⟩:=List.mem_iff_getElem.1 hx
 have:=congrArg (·[i]?) h
 simp only[List.getElem?_map,List.getElem?_eq_getElem hi,Option.map_some,Option.some.injEq]at this;exact Leaf.ok_of this
def Af8 (is:List Nat)(f:Leaf->LV)(L:List Leaf):List (Option LV):=L.zipIdx.map fun q=>if is.contains q.2 then none else some (f q.1)
theorem kleR {ids:List (Nat×Nat)}{s t:St}(rs:List (Nat×Leaf))(hr:∀q∈rs,q.2.ok)(h:(leK ids s t).map (Af8 (rs.map (·.1)) Leaf.src)=(leK ids s t).map (Af8 (rs.map (·.1)) Leaf.tgt):=by kernel_rfl)
 (h2:(leK ids s t).map (fun L=>rs.map fun q=>L[q.1]?)=some (rs.map fun q=>some q.2):=by kernel_rfl):Le ids s t:=by
 cases hL:leK ids s t with
 |none=>rw[hL]at h2;cases h2
 |some L=>
  rw[hL]at h h2;simp only[Option.map_some,Option.some.injEq]at h h2;refine YM hL fun x hx=>?_;obtain⟨i,hi,rfl⟩:=List.mem_iff_getElem.1 hx;by_cases hm:(rs.map (·.1)).contains i=true
  ·simp only[List.contains_eq_mem,decide_eq_true_eq,List.mem_map]at hm;obtain⟨q,hq,rfl⟩:=hm;obtain⟨k,hk,rfl⟩:=List.mem_iff_getElem.1 hq
   have:=congrArg (·[k]?) h2
   simp only[List.getElem?_map,List.getElem?_eq_getElem hk,Option.map_some,Option.some.injEq,List.getElem?_eq_getElem hi]at this;rw[this];exact hr _ hq
  ·have:=congrArg (·[i]?) h
   simp only[Af8,List.getElem?_map,List.getElem?_zipIdx,List.getElem?_eq_getElem hi,Option.map_some,Nat.zero_add,hm,Option.some.injEq]at this;exact Leaf.ok_of (by simpa using this)
end
section
variable {P:Program}
variable {S:X1}{F:H6}{g:Cfg}{pr:Prop}
theorem Er (hS:F4 S P)(hc:pr)(h:G S P F (stp P g))(hp:pr=D0 (cnd P g):=by kernel_rfl):G S P F g:=
 (Ex (F:=F) hS 400 [] g (by subst hp;exact hc)).2 h
theorem Af9 (hS:F4 S P)(hc:pr){b:Bool}(ht:b=true->G S P F (ZI (stp P g)))(hf:b=false->G S P F (ZJ (stp P g)))(hp:pr=D0 (cnd P g):=by kernel_rfl)(hb:XH (stp P g)=some b:=by kernel_rfl):G S P F g:=by
 refine Er hS hc ?_ hp;generalize stp P g=g' at hb ht hf;unfold XH at hb;split at hb
 ·split at hb
  ·rename_i hc;cases hb;exact Ad3 hc ht hf
  ·cases hb
 ·cases hb
theorem ZO (hS:F4 S P)(hc:pr){b:Bool}(ht:b=true->G S P F (JD true (stp P g)))(hf:b=false->G S P F (JD false (stp P g)))(hp:pr=D0 (cnd P g):=by kernel_rfl)(hb:SD (stp P g)=some b:=by kernel_rfl):G S P F g:=by
 refine Er hS hc ?_ hp;generalize stp P g=g' at hb ht hf;unfold SD at hb;split at hb
 ·split at hb
  ·rename_i hg;split at hb
   ·rename_i hd;split at hb
    ·rename_i hbb;cases hb;simp only[JD,hg,hd,HI,put]at ht hf;exact Zg hS hg hd hbb ht hf
    ·cases hb
   ·cases hb
  ·cases hb
 ·cases hb
theorem Ag0 (hS:F4 S P)(ids:List Nat)(hc:pr){fn:FuncId}{args:List AV}{objs objs' : List Obj}{r:AV}{ks:List Bool}(hF:FunO S fn args objs r objs' ks)
 (hk:G S P F (XJ ids ks r objs' (stp P g))) (hp:pr=D0 (cnd P g):=by kernel_rfl) (he:TT ids (stp P g)=some (fn,args,objs):=by kernel_rfl) (hn:TU ids ks objs'.length (stp P g)=true:=by kernel_rfl):G S P F g:=by
 refine Er hS hc ?_ hp;generalize stp P g=g' at he hn hk;unfold TT at he;split at he
 ·split at he
  ·rename_i hg ho;split at he
   ·rename_i hcl;split at he
    ·rename_i ha;split at he
     ·rename_i hw;split at he
      ·rename_i hr hob;split at he
       ·rename_i hdy;cases he;simp only[Bool.and_eq_true]at hdy;simp only[XJ,TU,ho,ha,HI]at hk hn;exact Zh hS ids hg ho hcl ha hw hr hob hF hdy.1 hdy.2 hn hk
       ·cases he
      ·cases he
     ·cases he
    ·cases he
   ·cases he
  ·cases he
 ·cases he
theorem XO (hS:F4 S P)(hc:pr){kt e:TypeId}{key:PV}{es:List (PV×PV)}{x:PV}{b:Bool}{fd:Option PV}
 (hf:find (KW P kt) key es=some fd) (hcc:D0 (MO P kt))
 (hk:G S P F (ZL x b (stp P g))) (hp:pr=D0 (cnd P g):=by kernel_rfl) (he:ZK P (stp P g)=some ⟨kt,e,key,es⟩:=by kernel_rfl) (hx:Af6 P e fd=some (x,b):=by kernel_rfl):G S P F g:=by
 refine Er hS hc ?_ hp;generalize stp P g=g' at he hk;unfold ZK at he;split at he
 ·split at he
  ·rename_i hg ho;split at he
   ·rename_i hv hm;split at he
    ·rename_i hr ht;split at he
     ·rename_i hko;simp only[Option.some.injEq,LookI.mk.injEq]at he;obtain⟨rfl,rfl,rfl,rfl⟩:=he;simp only[ZL,ho,hv,HI]at hk;cases fd with
      |some y=>exact SB (fd:=some y) hS hg ho hv hm hr ht hko hf hx hcc hk
      |none=>exact SB (fd:=none) hS hg ho hv hm hr ht hko hf hx hcc hk
     ·cases he
    ·cases he
   ·cases he
  ·cases he
 ·cases he
theorem XP (hS:F4 S P)(hc:pr){kt:TypeId}{key y:PV}{es es' : List (PV×PV)}
 (hu:upd (KW P kt) key y es=some es') (hcc:D0 (MO P kt)) (hk:G S P F (updK es' (stp P g))) (hp:pr=D0 (cnd P g):=by kernel_rfl) (he:updE P (stp P g)=some (kt,key,y,es):=by kernel_rfl):G S P F g:=by
 refine Er hS hc ?_ hp;generalize stp P g=g' at he hk;unfold updE at he;split at he
 ·split at he
  ·rename_i hg ho;split at he
   ·rename_i h1 h2 hv;split at he
    ·rename_i hr ht;split at he
     ·rename_i hko;simp only[Option.some.injEq,Prod.mk.injEq]at he;obtain⟨rfl,rfl,rfl,rfl⟩:=he;simp only[updK,ho,h2,hv,HI]at hk;exact QR hS hg ho h1 hv h2 hr ht hko hu hcc hk
     ·cases he
    ·cases he
   ·cases he
  ·cases he
 ·cases he
theorem Ag1 (hS:F4 S P)(hc:pr)(st:St){ids:List (Nat×Nat)}(hk:G S P F (opsS st (stp P g)))(hp:pr=D0 (cnd P g):=by kernel_rfl)(ho:EG (stp P g)=true:=by kernel_rfl)(hle:Le ids (stp P g).st st:=by exact kle):G S P F g:=by
 refine Er hS hc ?_ hp;generalize stp P g=g' at ho hle hk;unfold EG at ho;split at ho
 ·exact VU hS st ids hle hk
 ·cases ho
end
section
variable {S:X1}{P:Program}{F:H6}{g:Cfg}{pr:Prop}
theorem GO (hS:F4 S P){K1 K2:List It}(h:∀e s,kp S P K1 F e s->kp S P K2 F e s):∀(K:List It) (e:Jd) (s:St),kp S P (K++K1) F e s->kp S P (K++K2) F e s
 |[],e,s,hk=>h e s hk
 |.code c::K,e,s,hk=>by simp only[List.cons_append,kp]at hk⊢;exact Nl hS (fun t=>Ao hS c (GO hS h K)) (GO hS h K) e s hk
 |.blk id::K,e,s,hk=>by
  simp only[List.cons_append,kp]at hk⊢;cases e with
  |exit i=>
   simp only[blk]at hk⊢;split at hk
   ·rename_i hi;rw[if_pos hi];exact GO hS h K _ _ hk
   ·rename_i hi;rw[if_neg hi];exact GO hS h K _ _ hk
  |_=>exact GO hS h K _ _ hk
 |.lp X s' J m n::K,e,s,hk=>by
  simp only[List.cons_append,kp]at hk⊢;cases e with
  |normal=>exact hk
  |_=>exact GO hS h K _ _ hk
 |.mid M::K,e,s,hk=>by simp only[List.cons_append,kp]at hk⊢;exact Nl hS (fun t h=>h) (GO hS h K) e s hk
 |.scp::K,e,s,hk=>by
  simp only[List.cons_append,kp]at hk⊢;cases e with
  |goto l=>exact hk
  |_=>exact GO hS h K _ _ hk
theorem SH (M:It):∀(n:Nat) (K:List It),n<=K.length->Pl M n K=K.take n++M::K.drop n
 |0,K,_=>by simp[Pl]
 |n+1,i::K,h=>by simp only[Pl,List.take_succ_cons,List.drop_succ_cons,List.cons_append,SH M n K (by simpa using h)]
 |n+1,[],h=>by simp at h
theorem YN (hS:F4 S P)(hF:∀s,S.up s (F .normal)->F .normal s)(n:Nat)(hn:n<=g.k.length){M:St->Prop}(hM:∀t,M t->G S P F (.pop .normal (g.k.drop n) t))(h:G S P F (Af7 n M g)):G S P F g:=by
 have hk:∀e s,kp S P (Pl (.mid M) n g.k) F e s->kp S P g.k F e s:=by
  intro e s;rw[SH _ _ _ hn]
  conv=>rhs;rw[<- List.take_append_drop n g.k]
  exact GO hS (Af1 hS hF hM) _ e s
 cases g with
 |code c K st=>exact Ao hS c hk h
 |ops all rest K st=>exact EE hS hk rest h
 |pop e K st=>exact hk e st h
theorem J_cut (hS:F4 S P)(hc:pr)(hF:∀s,S.up s (F .normal)->F .normal s)(n:Nat)(s:St)
 (h1:∀(M:St->Prop),(∀(g' : Cfg) (ids:List (Nat×Nat)) (pr:Prop),pr->(hp:pr=D0 (cnd P g'):=by kernel_rfl)->(he:stp P g' = .pop .normal (.mid M::(stp P g).k.drop n) (stp P g').st:=by kernel_rfl)->(hle:Le ids (stp P g').st s:=by exact kle)->G S P F g')->G S P F (Af7 n M (stp P g)))
 (h2:G S P F (.pop .normal ((stp P g).k.drop n) s)) (hp:pr=D0 (cnd P g):=by kernel_rfl) (hn:Nat.ble n (stp P g).k.length=true:=by kernel_rfl):G S P F g:=by
 refine Er hS hc ?_ hp;refine YN hS hF n (Nat.le_of_ble_eq_true hn) (M:=fun t=>t=s) (fun t ht=>by subst ht;exact h2) (h1 _ fun g' ids pr hc hp he hle=>?_);refine Er hS hc ?_ hp;rw[he];exact hS.le ids _ _ _ hle rfl
theorem J_lt (hS:F4 S P)(hc:pr)(hF:∀s,S.up s (F .normal)->F .normal s){R A:Type}{f:(A->Option R)->Option R}{k0:A->Option R}{r:R}(h:lt k0 f=some r)(n:Nat)(s:A->St)
 (h1:∀(M:St->Prop) (k:A->Option R),(∀(g' : Cfg) (ids:List (Nat×Nat)) (pr:Prop) (a:A),pr->k a=some r->(hp:pr=D0 (cnd P g'):=by kernel_rfl)->(he:stp P g' = .pop .normal (.mid M::(stp P g).k.drop n) (stp P g').st:=by kernel_rfl)->(hle:Le ids (stp P g').st (s a):=by exact kle)->G S P F g')->f k=some r->G S P F (Af7 n M (stp P g)))
 (h2:∀a,k0 a=some r->G S P F (.pop .normal ((stp P g).k.drop n) (s a))) (hp:pr=D0 (cnd P g):=by kernel_rfl) (hn:Nat.ble n (stp P g).k.length=true:=by kernel_rfl):G S P F g:=by
 refine Er hS hc ?_ hp;refine YN hS hF n (Nat.le_of_ble_eq_true hn) (M:=fun t=>∃a,t=s a/\k0 a=some r) (fun t ⟨a,ht,hk⟩=>by subst ht;exact h2 a hk) (h1 _ k0 (fun g' ids pr a hc hk hp he hle=>?_) h);refine Er hS hc ?_ hp;rw[he];exact hS.le ids _ _ _ hle ⟨a,rfl,hk⟩
theorem VW {g:Cfg}(h:Ik g=true):g=.code (.loop (QT g)) g.k g.st:=by
 unfold Ik at h;split at h
 ·rfl
 ·cases h
theorem Ag2 (hS:F4 S P)(hc:pr){R A:Type}{body:(A->Option R)->A->Option R}{N:Nat}{a0:A}{r:R}(h:Az N body a0=some r)(s:A->St){ids:List (Nat×Nat)}
 (hr:∀(X:Type) (s' : X->St) (J:X->Prop) (m:X->Nat) (n:Nat) (self:A->Option R) (a:A),
  (∀(g' : Cfg) (ids:List (Nat×Nat)) (pr:Prop) (a:A),pr->self a=some r->(hp:pr=D0 (cnd P g'):=by kernel_rfl)->(he:stp P g' = .pop .normal (.lp X s' J m n::(stp P g).k) (stp P g').st:=by kernel_rfl)->(hle:Le ids (stp P g').st (s a):=by exact kle)->G S P F g') ->
  body self a=some r->G S P F (.code (QT (stp P g)) (.lp X s' J m n::(stp P g).k) (s a))) (hp:pr=D0 (cnd P g):=by kernel_rfl) (hl:Ik (stp P g)=true:=by kernel_rfl) (hle:Le ids (stp P g).st (s a0):=by exact kle):G S P F g:=by
 refine Er hS hc ?_ hp;rw[VW hl];refine Af2 hS h s ids hle fun X s' J m n self a hb hbody=>hr X s' J m n self a (fun g' ids pr a hc hself hp he hle=>?_) hbody;refine Er hS hc ?_ hp;rw[he];exact hb _ _ _ hle hself
def QU (P:Program)(st:St)(rs:List ResultVar)(outs:List Nat):Option (AV×List Obj):=match Ew P st rs with
 |some l=>match Ot outs (one l),H8 outs st.regs outs with
  |some a,some o=>if F0 outs then some (a,o)else none
  |_,_=>none
 |none=>none
theorem J_ret (hS:F4 S P)(hc:pr){n:Nat}{rs:List ResultVar}{Q:Je->List Obj->List Bool->Prop}{a:AV}{objs:List Obj}(outs:List Nat)(hQ:Q (.ret a) objs (Ee n outs))(hp:pr=D0 (cnd P g):=by kernel_rfl)(he:(ZM (stp P g)).bind (fun st=>QU P st rs outs)=some (a,objs):=by kernel_rfl) :G S P (AX S P n rs Q) g:=by
 refine Er hS hc ?_ hp;generalize stp P g=g' at he;obtain⟨st,h1,h2⟩:=Option.bind_eq_some_iff.1 he;unfold QU at h2;split at h2
 ·rename_i l hl;split at h2
  ·rename_i hr ho;split at h2
   ·rename_i hd;cases h2;unfold ZM at h1;split at h1
    ·cases h1;exact hS.refl _ _ ⟨l,outs,a,objs,hl,hd,hr,ho,hQ⟩
    ·cases h1;exact hS.refl _ _ ⟨l,outs,a,objs,hl,hd,hr,ho,hQ⟩
    ·cases h1
   ·cases h2
  ·cases h2
 ·cases h2
theorem Ag3 (hS:F4 S P)(hc:pr){n:Nat}{rs:List ResultVar}{Q:Je->List Obj->List Bool->Prop}{a:AV}{objs:List Obj}(st:St)(outs:List Nat){ids:List (Nat×Nat)}(hQ:Q (.ret a) objs (Ee n outs))(hp:pr=D0 (cnd P g):=by kernel_rfl)(he:(ZM (stp P g)).isSome=true:=by kernel_rfl)(hle:Le ids (stp P g).st st:=by exact kle)(hr:QU P st rs outs=some (a,objs):=by kernel_rfl) :G S P (AX S P n rs Q) g:=by
 refine Er hS hc ?_ hp;generalize stp P g=g' at he hle;have h2:=hr;unfold QU at h2;split at h2
 ·rename_i l hl;split at h2
  ·rename_i hr ho;split at h2
   ·rename_i hd;cases h2;unfold ZM at he;split at he
    ·exact hS.le ids _ _ _ hle ⟨l,outs,a,objs,hl,hd,hr,ho,hQ⟩
    ·exact hS.le ids _ _ _ hle ⟨l,outs,a,objs,hl,hd,hr,ho,hQ⟩
    ·cases he
   ·cases h2
  ·cases h2
 ·cases h2
theorem ZP (hS:F4 S P){f:FuncId}{fn:Func}{args:List AV}{objs objs' : List Obj}{ks:List Bool}{r:AV}(hf:P.funcs[f]? = some fn)
 (h:G S P (AX S P objs.length fn.results.toList fun res o k=>res=.ret r/\o=objs' /\ k=ks) (.code (fn.body.getD .skip) [] { env:=argEnv args,regs:=objRegs objs }))
 (hc:fn.body.isSome=true:=by kernel_rfl) (hn:Nat.ble args.length fn.ntmps=true:=by kernel_rfl) (ho:Nat.blt objs.length 1000=true:=by kernel_rfl)
 (hco:X2 fn.ntmps (fn.body.getD .skip)=true:=by kernel_rfl) (hnm:(fn.name == "runtime.NumGoroutine")=false:=by kernel_rfl):FunO S f args objs r objs' ks:=by
 obtain⟨code,hcode⟩:=Option.isSome_iff_exists.1 hc;rw[hcode,Option.getD_some]at hco h;exact Vn hS hf hcode (Nat.le_of_ble_eq_true hn) (by simpa[Nat.blt_eq]using ho) rfl hco hnm h
theorem al0:∀q∈([]:List (Nat×Leaf)),q.2.ok:=fun _ h=>by cases h
theorem al1 {i:Nat}{l:Leaf}{rs:List (Nat×Leaf)}(h:l.ok)(t:∀q∈rs,q.2.ok):∀q∈(i,l)::rs,q.2.ok:=fun q hq=>by
 rcases List.mem_cons.1 hq with rfl|hq
 ·exact h
 ·exact t q hq
structure SC where
 all:List Oper
 cls:List Cls
 rest:List Oper
 env:Env
 regs:C4
 kn:List Nat
def SG (S:X1)(P:Program)(sc:SC)(k:Env->C4->Prop):Prop:=KT S P sc.all sc.cls sc.rest sc.env sc.regs k
def Es (P:Program)(sc:SC):SC:=match KU P sc.kn sc.all sc.cls sc.rest [] sc.env sc.regs with
 |⟨_,cls,rest,env,regs⟩=>⟨sc.all,cls,rest,env,regs,sc.kn⟩
def UU (P:Program)(sc:SC):List Prop:=(KU P sc.kn sc.all sc.cls sc.rest [] sc.env sc.regs).conds
def DJ:Cfg->Bool
 |.code (.region _ _ true) _ _=>true
 |_=>false
def Gf:Cfg->SC
 |.code (.region _ ops true) _ st=>⟨ops.toList,ops.toList.map fun o=>Aj9 o.op,ops.toList,st.env,st.regs,[]⟩
 |_=>⟨[],[],[],[],[],[]⟩
theorem ZQ (hS:F4 S P)(hc:pr)
 (h:SG S P (Gf (stp P g)) fun env regs=>G S P F (.pop .normal (stp P g).k ⟨env,regs⟩)) (hp:pr=D0 (cnd P g):=by kernel_rfl) (hd:DJ (stp P g)=true:=by kernel_rfl) (hmix:P.follows .mixedOrders=true:=by kernel_rfl) (hok:Jz (Gf (stp P g)).all (Gf (stp P g)).cls=true:=by kernel_rfl):G S P F g:=by
 refine Er hS hc ?_ hp;generalize stp P g=g' at hd hok h;unfold DJ at hd;split at hd
 ·exact XA hS hmix rfl hok h
 ·cases hd
section
variable {sc:SC}{k:Env->C4->Prop}
theorem Ag4 (hc:pr)(h:SG S P (Es P sc) k)(hp:pr=D0 (UU P sc):=by kernel_rfl):SG S P sc k:=by subst hp;unfold Es at h;unfold UU at hc;unfold SG at *;generalize hr:KU P sc.kn sc.all sc.cls sc.rest [] sc.env sc.regs=r at h hc;obtain⟨c,cls,rest,env,regs⟩:=r;exact s_go hr hc h
theorem C_end (hc:pr)(h:k (Es P sc).env (Es P sc).regs)(hp:pr=D0 (UU P sc):=by kernel_rfl)(he:(Es P sc).rest.isEmpty=true:=by kernel_rfl):SG S P sc k:=by
 refine Ag4 hc ?_ hp;generalize Es P sc=s at he h;obtain⟨all,cls,rest,env,regs,kn⟩:=s;cases rest with
 |nil=>exact s_end h
 |cons=>simp at he
def Ag5 {R:Type _}(d:Option Nat)(a:AV)(env:Env)(regs:C4)(κ : Env->C4->R):R:=match d with
 |some d=>mkO (ins d a env) regs κ
 |none=>mkO env regs κ
theorem QV {R:Type _}(d:Option Nat)(a:AV)(env:Env)(regs:C4)(κ : Env->C4->R):Ag5 d a env regs κ = κ (Mh d a env) regs:=by cases d<;>simp only[Ag5,Dn,Mh]
theorem YO:∀{env:Env}{i d:Nat}{b:AV},WT ((i,b)::env)=true->get env d ≠ .top->d<i
 |[],_,_,_,_,h=>absurd rfl h
 |(j,c)::r,i,d,b,hd,h=>by
  simp only[WT,Bool.and_eq_true,decide_eq_true_eq]at hd;by_cases e:j=d
  ·subst e;exact hd.1
  ·simp only[get,e,if_false]at h;exact Nat.lt_trans (YO hd.2 h) hd.1
theorem Nn:∀{env:Env}{d:Nat}{a:AV},WT env=true->get env d=a->a ≠ .top->ins d a env=env
 |[],_,_,_,h,hn=>absurd h.symm hn
 |(i,b)::r,d,a,hd,h,hn=>by
  by_cases e:i=d
  ·subst e;simp only[get,if_true]at h;subst h;simp[ins]
  ·simp only[get,e,if_false]at h;have hlt:=YO hd (by rw[h];exact hn);have hr:WT r=true:=by
    cases r with
    |nil=>rfl
    |cons p r=>simp only[WT,Bool.and_eq_true]at hd;exact hd.2
   simp only[ins,show ¬i<d by omega,e,if_false,Nn hr h hn]
def No (sc:SC):Option Bool:=match sc.rest with
 |o::_=>match o.guard with
  |some (j,_)=>match Ad4 sc.all j with
   |some d=>match get sc.env d with
    |.p (.bb b)=>if WT sc.env then some b else none
    |_=>none
   |none=>none
  |none=>none
 |[]=>none
def JF (v:Bool)(sc:SC):SC:=match sc.rest with
 |o::_=>match o.guard with
  |some (j,_)=>match Ad4 sc.all j with
   |some d=>mkO (ins d (.p (.bb v)) sc.env) sc.regs fun env regs=>⟨sc.all,sc.cls,sc.rest,env,regs,j::sc.kn⟩
   |none=>sc
  |none=>sc
 |[]=>sc
theorem ZR (hc:pr){b:Bool}(ht:b=true->SG S P (JF true (Es P sc)) k)(hf:b=false->SG S P (JF false (Es P sc)) k)(hp:pr=D0 (UU P sc))(hb:No (Es P sc)=some b):SG S P sc k:=by
 refine Ag4 hc ?_ hp;generalize Es P sc=s at hb ht hf;obtain⟨all,cls,rest,env,regs,kn⟩:=s;cases rest with
 |nil=>simp[No]at hb
 |cons o rest=>
  simp only[No]at hb;split at hb
  ·rename_i j w hg;split at hb
   ·rename_i d hd;split at hb
    ·rename_i b' hbb;split at hb
     ·rename_i hds;simp only[Option.some.injEq]at hb;subst hb;simp only[JF,hg,hd,Dn]at ht hf;cases b' with
      |true=>have:=ht rfl;rwa [Nn hds hbb (by simp)]at this
      |false=>have:=hf rfl;rwa [Nn hds hbb (by simp)]at this
     ·cases hb
    ·cases hb
   ·cases hb
  ·cases hb
def SI (ids:List Nat)(sc:SC):Option (FuncId×List AV×List Obj):=match sc.rest with
 |o::_=>match Cv sc.all sc.env o,o.op with
  |some true,.call c=>match c.callee with
   |.value f=>match KS sc.regs (c.args.toList.map (aev sc.env))with
    |some (as,regs)=>match Qt sc.env f as with
     |some (fn,as')=>match BN ids as',H8 ids regs ids with
      |some a,some ob=>if F0 ids&&Df ob then some (fn,a,ob)else none
      |_,_=>none
     |none=>none
    |none=>none
   |_=>none
  |_,_=>none
 |[]=>none
def Pm (ids:List Nat)(ks:List Bool)(n:Nat)(sc:SC):Bool:=match sc.cls,sc.rest with
 |.w::_,o::_=>match o.op with
  |.call c=>match KS sc.regs (c.args.toList.map (aev sc.env))with
   |some (_,regs)=>BW regs ids ks (o.dst.getD 0) n
   |none=>false
  |_=>false
 |_,_=>false
def VX (ids:List Nat)(ks:List Bool)(r:AV)(objs' : List Obj)(sc:SC):SC:=match sc.rest with
 |o::rest=>match o.op with
  |.call c=>match KS sc.regs (c.args.toList.map (aev sc.env))with
   |some (_,regs)=>Ag5 o.dst (unA (K8 (o.dst.getD 0) ids ks objs'.length) r) sc.env
    (UR (K8 (o.dst.getD 0) ids ks objs'.length) (K8 (o.dst.getD 0) ids ks objs'.length) objs' (K9 ids ks regs)) fun env regs=>⟨sc.all,sc.cls.tail,rest,env,regs,sc.kn⟩
   |none=>sc
  |_=>sc
 |[]=>sc
theorem Ag6 (ids:List Nat)(hc:pr){fn:FuncId}{args:List AV}{objs objs' : List Obj}{r:AV}{ks:List Bool}(hF:FunO S fn args objs r objs' ks)
 (hk:SG S P (VX ids ks r objs' (Es P sc)) k) (hp:pr=D0 (UU P sc):=by kernel_rfl) (he:SI ids (Es P sc)=some (fn,args,objs):=by kernel_rfl) (hn:Pm ids ks objs'.length (Es P sc)=true:=by kernel_rfl):SG S P sc k:=by
 refine Ag4 hc ?_ hp;generalize Es P sc=s at he hn hk;obtain⟨all,cls,rest,env,regs,kn⟩:=s;cases rest with
 |nil=>simp[SI]at he
 |cons o rest=>
  simp only[SI]at he;split at he
  ·rename_i c hg ho;split at he
   ·rename_i hcl;split at he
    ·rename_i ha;split at he
     ·rename_i hw;split at he
      ·rename_i hr hob;split at he
       ·rename_i hdy;cases he;simp only[Bool.and_eq_true]at hdy;cases cls with
        |nil=>simp[Pm]at hn
        |cons cl cls=>
         cases cl with
         |w=>simp only[Pm,ho,ha]at hn;simp only[VX,ho,ha,QV,List.tail_cons]at hk;exact ZC ids hg ho hcl ha hw hr hob hF hdy.1 hdy.2 hn hk
         |_=>simp[Pm]at hn
       ·cases he
      ·cases he
     ·cases he
    ·cases he
   ·cases he
  ·cases he
def SJ (sc:SC):Bool:=match sc.cls,sc.rest with
 |_::_,o::_=>match o.op with
  |.call c=>(c.args.toList.map (aev sc.env)).all VL
  |_=>false
 |_,_=>false
def SK (sc:SC):Option (FuncId×List AV):=match sc.rest with
 |o::_=>match Cv sc.all sc.env o,o.op with
  |some true,.call c=>match c.callee with
   |.value f=>match Qt sc.env f (c.args.toList.map (aev sc.env))with
    |some (fn,as')=>match BN [] as' with
     |some a=>some (fn,a)
     |none=>none
    |none=>none
   |_=>none
  |_,_=>none
 |[]=>none
def VY (r:AV)(sc:SC):SC:=match sc.rest with
 |o::rest=>Ag5 o.dst (unA [] r) sc.env sc.regs fun env regs=>⟨sc.all,sc.cls.tail,rest,env,regs,sc.kn⟩
 |[]=>sc
theorem Ag7 (hc:pr){fn:FuncId}{args:List AV}{r:AV}(hF:FunO S fn args [] r [] [])
 (hk:SG S P (VY r (Es P sc)) k) (hp:pr=D0 (UU P sc):=by kernel_rfl) (he:SK (Es P sc)=some (fn,args):=by kernel_rfl) (hn:SJ (Es P sc)=true:=by kernel_rfl):SG S P sc k:=by
 refine Ag4 hc ?_ hp;generalize Es P sc=s at he hn hk;obtain⟨all,cls,rest,env,regs,kn⟩:=s;cases rest with
 |nil=>simp[SK]at he
 |cons o rest=>
  cases cls with
  |nil=>simp[SJ]at hn
  |cons cl cls=>
   simp only[SK]at he;split at he
   ·rename_i c hg ho;split at he
    ·rename_i hcl;split at he
     ·rename_i hw;split at he
      ·rename_i hr;cases he;simp only[SJ,ho]at hn;simp only[VY,QV,List.tail_cons]at hk;exact Ae9 hg ho hcl hn hw hr hF hk
      ·cases he
     ·cases he
    ·cases he
   ·cases he
def DK (P:Program)(sc:SC):Option (List Prop×PV):=match sc.cls,sc.rest with
 |_::_,o::_=>match Cv sc.all sc.env o with
  |some true=>Oy P sc.env o.op
  |_=>none
 |_,_=>none
def QW (x:PV)(sc:SC):SC:=match sc.rest with
 |o::rest=>Ag5 o.dst (.p x) sc.env sc.regs fun env regs=>⟨sc.all,sc.cls.tail,rest,env,regs,sc.kn⟩
 |[]=>sc
theorem ZS (hc:pr){x:PV}(hk:SG S P (QW x (Es P sc)) k)(hp:pr=D0 (UU P sc):=by kernel_rfl)(he:(DK P (Es P sc)).map (·.2)=some x:=by kernel_rfl)(hc2:((DK P (Es P sc)).map fun q=>D0 q.1)=some (true=true):=by kernel_rfl):SG S P sc k:=by
 refine Ag4 hc ?_ hp;generalize Es P sc=s at he hc2 hk;obtain⟨all,cls,rest,env,regs,kn⟩:=s;cases rest with
 |nil=>cases cls<;>simp[DK]at he
 |cons o rest=>
  cases cls with
  |nil=>simp[DK]at he
  |cons cl cls=>
   cases hg:Cv all env o with
   |none=>simp[DK,hg]at he
   |some bb=>
    cases bb with
    |false=>simp[DK,hg]at he
    |true=>
     simp only[DK,hg]at he hc2;cases ha:Oy P env o.op with
     |none=>rw[ha]at he;cases he
     |some q=>obtain⟨c,y⟩:=q;rw[ha]at he hc2;simp only[Option.map_some,Option.some.injEq]at he hc2;subst he;simp only[QW,QV,List.tail_cons]at hk;exact Xz hg ha (by rw[hc2];trivial) hk
end
end
structure KG (S:X1) (P:Program) (F:H6) (g:Cfg):Prop where
 out:G S P F g
structure DG (S:X1) (P:Program) (sc:SC) (k:Env->C4->Prop):Prop where
 out:SG S P sc k
structure KLe (ids:List (Nat×Nat)) (s t:St):Prop where
 out:Le ids s t
section
variable {S:X1}{P:Program}{F:H6}{g:Cfg}{pr:Prop}
theorem kl {ids:List (Nat×Nat)}{s t:St}(h:(leK ids s t).map (·.map Leaf.src)=(leK ids s t).map (·.map Leaf.tgt):=by kernel_rfl)(h1:(leK ids s t).isSome=true:=by kernel_rfl):KLe ids s t:=⟨kle h h1⟩
theorem klR {ids:List (Nat×Nat)}{s t:St}(rs:List (Nat×Leaf))(hr:∀q∈rs,q.2.ok)(h:(leK ids s t).map (Af8 (rs.map (·.1)) Leaf.src)=(leK ids s t).map (Af8 (rs.map (·.1)) Leaf.tgt):=by kernel_rfl)
 (h2:(leK ids s t).map (fun L=>rs.map fun q=>L[q.1]?)=some (rs.map fun q=>some q.2):=by kernel_rfl):KLe ids s t:=⟨kleR rs hr h h2⟩
theorem D3 (hS:F4 S P)(hc:pr){b:Bool}(ht:b=true->KG S P F (ZI (stp P g)))(hf:b=false->KG S P F (ZJ (stp P g)))(hp:pr=D0 (cnd P g):=by kernel_rfl)(hb:XH (stp P g)=some b:=by kernel_rfl):KG S P F g:=
 ⟨Af9 hS hc (fun h=>(ht h).out) (fun h=>(hf h).out) hp hb⟩
theorem EH (hS:F4 S P)(hc:pr){b:Bool}(ht:b=true->KG S P F (JD true (stp P g)))(hf:b=false->KG S P F (JD false (stp P g)))(hp:pr=D0 (cnd P g):=by kernel_rfl)(hb:SD (stp P g)=some b:=by kernel_rfl):KG S P F g:=
 ⟨ZO hS hc (fun h=>(ht h).out) (fun h=>(hf h).out) hp hb⟩
theorem B4 (hS:F4 S P)(ids:List Nat)(hc:pr){fn:FuncId}{args:List AV}{objs objs' : List Obj}{r:AV}{ks:List Bool}(hF:FunO S fn args objs r objs' ks)(hk:KG S P F (XJ ids ks r objs' (stp P g)))
 (hp:pr=D0 (cnd P g):=by kernel_rfl) (he:TT ids (stp P g)=some (fn,args,objs):=by kernel_rfl) (hn:TU ids ks objs'.length (stp P g)=true:=by kernel_rfl):KG S P F g:=⟨Ag0 hS ids hc hF hk.out hp he hn⟩
theorem Fm (hS:F4 S P)(hc:pr){kt e:TypeId}{key:PV}{es:List (PV×PV)}{x:PV}{b:Bool}{fd:Option PV}(hf:find (KW P kt) key es=some fd)(hcc:D0 (MO P kt))(hk:KG S P F (ZL x b (stp P g)))
 (hp:pr=D0 (cnd P g):=by kernel_rfl) (he:ZK P (stp P g)=some ⟨kt,e,key,es⟩:=by kernel_rfl) (hx:Af6 P e fd=some (x,b):=by kernel_rfl):KG S P F g:=⟨XO hS hc hf hcc hk.out hp he hx⟩
theorem IV (hS:F4 S P)(hc:pr){kt:TypeId}{key y:PV}{es es' : List (PV×PV)}(hu:upd (KW P kt) key y es=some es')(hcc:D0 (MO P kt))(hk:KG S P F (updK es' (stp P g)))
 (hp:pr=D0 (cnd P g):=by kernel_rfl) (he:updE P (stp P g)=some (kt,key,y,es):=by kernel_rfl):KG S P F g:=⟨XP hS hc hu hcc hk.out hp he⟩
theorem Cw (hS:F4 S P)(hc:pr)(st:St){ids:List (Nat×Nat)}(hk:KG S P F (opsS st (stp P g)))(hp:pr=D0 (cnd P g):=by kernel_rfl)(ho:EG (stp P g)=true:=by kernel_rfl)(hle:KLe ids (stp P g).st st:=by exact kl):KG S P F g:=
 ⟨Ag1 hS hc st hk.out hp ho hle.out⟩
theorem QX (hS:F4 S P)(hc:pr)(hF:∀s,S.up s (F .normal)->F .normal s)(n:Nat)(s:St)
 (h1:∀(M:St->Prop),(∀(g' : Cfg) (ids:List (Nat×Nat)) (pr:Prop),pr->(hp:pr=D0 (cnd P g'):=by kernel_rfl)->(he:stp P g' = .pop .normal (.mid M::(stp P g).k.drop n) (stp P g').st:=by kernel_rfl)->(hle:KLe ids (stp P g').st s:=by exact kl)->KG S P F g')->KG S P F (Af7 n M (stp P g)))
 (h2:KG S P F (.pop .normal ((stp P g).k.drop n) s)) (hp:pr=D0 (cnd P g):=by kernel_rfl) (hn:Nat.ble n (stp P g).k.length=true:=by kernel_rfl):KG S P F g:=
 ⟨J_cut hS hc hF n s (fun M hb=>(h1 M fun g' ids pr hc hp he hle=>⟨hb g' ids pr hc hp he hle.out⟩).out) h2.out hp hn⟩
theorem IW (hS:F4 S P)(hc:pr)(hF:∀s,S.up s (F .normal)->F .normal s){R A:Type}{f:(A->Option R)->Option R}{k0:A->Option R}{r:R}(h:lt k0 f=some r)(n:Nat)(s:A->St)
 (h1:∀(M:St->Prop) (k:A->Option R),(∀(g' : Cfg) (ids:List (Nat×Nat)) (pr:Prop) (a:A),pr->k a=some r->(hp:pr=D0 (cnd P g'):=by kernel_rfl)->(he:stp P g' = .pop .normal (.mid M::(stp P g).k.drop n) (stp P g').st:=by kernel_rfl)->(hle:KLe ids (stp P g').st (s a):=by exact kl)->KG S P F g')->f k=some r->KG S P F (Af7 n M (stp P g)))
 (h2:∀a,k0 a=some r->KG S P F (.pop .normal ((stp P g).k.drop n) (s a))) (hp:pr=D0 (cnd P g):=by kernel_rfl) (hn:Nat.ble n (stp P g).k.length=true:=by kernel_rfl):KG S P F g:=
 ⟨J_lt hS hc hF h n s (fun M k hb hf=>(h1 M k (fun g' ids pr a hc hk hp he hle=>⟨hb g' ids pr a hc hk hp he hle.out⟩) hf).out) (fun a hk=>(h2 a hk).out) hp hn⟩
theorem N0 (hS:F4 S P)(hc:pr){R A:Type}{body:(A->Option R)->A->Option R}{N:Nat}{a0:A}{r:R}(h:Az N body a0=some r)(s:A->St){ids:List (Nat×Nat)}
 (hr:∀(X:Type) (s' : X->St) (J:X->Prop) (m:X->Nat) (n:Nat) (self:A->Option R) (a:A),
  (∀(g' : Cfg) (ids:List (Nat×Nat)) (pr:Prop) (a:A),pr->self a=some r->(hp:pr=D0 (cnd P g'):=by kernel_rfl)->(he:stp P g' = .pop .normal (.lp X s' J m n::(stp P g).k) (stp P g').st:=by kernel_rfl)->(hle:KLe ids (stp P g').st (s a):=by exact kl)->KG S P F g') ->
  body self a=some r->KG S P F (.code (QT (stp P g)) (.lp X s' J m n::(stp P g).k) (s a))) (hp:pr=D0 (cnd P g):=by kernel_rfl) (hl:Ik (stp P g)=true:=by kernel_rfl) (hle:KLe ids (stp P g).st (s a0):=by exact kl):KG S P F g:=
 ⟨Ag2 hS hc h s (fun X s' J m n self a hb hbody=>(hr X s' J m n self a (fun g' ids pr a hc hself hp he hle=>⟨hb g' ids pr a hc hself hp he hle.out⟩) hbody).out) hp hl hle.out⟩
theorem G0 (hS:F4 S P)(hc:pr){R A B:Type}{body:(A->B->Option R)->A->B->Option R}{N:Nat}{a0:A}{b0:B}{r:R}(h:Bj N body a0 b0=some r)(s:A->B->St){ids:List (Nat×Nat)}
 (hr:∀(X:Type) (s' : X->St) (J:X->Prop) (m:X->Nat) (n:Nat) (self:A->B->Option R) (a:A) (b:B),
  (∀(g' : Cfg) (ids:List (Nat×Nat)) (pr:Prop) (a:A) (b:B),pr->self a b=some r->(hp:pr=D0 (cnd P g'):=by kernel_rfl)->(he:stp P g' = .pop .normal (.lp X s' J m n::(stp P g).k) (stp P g').st:=by kernel_rfl)->(hle:KLe ids (stp P g').st (s a b):=by exact kl)->KG S P F g') ->
  body self a b=some r->KG S P F (.code (QT (stp P g)) (.lp X s' J m n::(stp P g).k) (s a b))) (hp:pr=D0 (cnd P g):=by kernel_rfl) (hl:Ik (stp P g)=true:=by kernel_rfl) (hle:KLe ids (stp P g).st (s a0 b0):=by exact kl):KG S P F g:=
 N0 hS hc h (fun x=>s x.1 x.2) (fun X s' J m n self a hb=>hr X s' J m n (fun a b=>self (a,b)) a.1 a.2 fun g' ids pr a b h1 h2 h3 h4 h5=>hb g' ids pr (a,b) h1 h2 h3 h4 h5) hp hl hle
theorem SL (hS:F4 S P)(hc:pr){R A B C:Type}{body:(A->B->C->Option R)->A->B->C->Option R}{N:Nat}{a0:A}{b0:B}{c0:C}{r:R}(h:Ac5 N body a0 b0 c0=some r)(s:A->B->C->St){ids:List (Nat×Nat)}
 (hr:∀(X:Type) (s' : X->St) (J:X->Prop) (m:X->Nat) (n:Nat) (self:A->B->C->Option R) (a:A) (b:B) (c:C),
  (∀(g' : Cfg) (ids:List (Nat×Nat)) (pr:Prop) (a:A) (b:B) (c:C),pr->self a b c=some r->(hp:pr=D0 (cnd P g'):=by kernel_rfl)->(he:stp P g' = .pop .normal (.lp X s' J m n::(stp P g).k) (stp P g').st:=by kernel_rfl)->(hle:KLe ids (stp P g').st (s a b c):=by exact kl)->KG S P F g') ->
  body self a b c=some r->KG S P F (.code (QT (stp P g)) (.lp X s' J m n::(stp P g).k) (s a b c))) (hp:pr=D0 (cnd P g):=by kernel_rfl) (hl:Ik (stp P g)=true:=by kernel_rfl) (hle:KLe ids (stp P g).st (s a0 b0 c0):=by exact kl):KG S P F g:=
 N0 hS hc h (fun x=>s x.1 x.2.1 x.2.2) (fun X s' J m n self a hb=>hr X s' J m n (fun a b c=>self (a,b,c)) a.1 a.2.1 a.2.2 fun g' ids pr a b c h1 h2 h3 h4 h5=>hb g' ids pr (a,b,c) h1 h2 h3 h4 h5) hp hl hle
theorem VZ (hS:F4 S P)(hc:pr){n:Nat}{rs:List ResultVar}{Q:Je->List Obj->List Bool->Prop}{a:AV}{objs:List Obj}(outs:List Nat)(hQ:Q (.ret a) objs (Ee n outs))(hp:pr=D0 (cnd P g):=by kernel_rfl)
 (he:(ZM (stp P g)).bind (fun st=>QU P st rs outs)=some (a,objs):=by kernel_rfl):KG S P (AX S P n rs Q) g:=⟨J_ret hS hc outs hQ hp he⟩
theorem A6 (hS:F4 S P)(hc:pr){n:Nat}{rs:List ResultVar}{Q:Je->List Obj->List Bool->Prop}{a:AV}{objs:List Obj}(st:St)(outs:List Nat){ids:List (Nat×Nat)}(hQ:Q (.ret a) objs (Ee n outs))(hp:pr=D0 (cnd P g):=by kernel_rfl)
 (he:(ZM (stp P g)).isSome=true:=by kernel_rfl) (hle:KLe ids (stp P g).st st:=by exact kl) (hr:QU P st rs outs=some (a,objs):=by kernel_rfl):KG S P (AX S P n rs Q) g:=⟨Ag3 hS hc st outs hQ hp he hle.out hr⟩
theorem A2 (hS:F4 S P){f:FuncId}{fn:Func}{args:List AV}{objs objs' : List Obj}{ks:List Bool}{r:AV}(hf:P.funcs[f]? = some fn)
 (h:KG S P (AX S P objs.length fn.results.toList fun res o k=>res=.ret r/\o=objs' /\ k=ks) (.code (fn.body.getD .skip) [] { env:=argEnv args,regs:=objRegs objs }))
 (hc:fn.body.isSome=true:=by kernel_rfl) (hn:Nat.ble args.length fn.ntmps=true:=by kernel_rfl) (ho:Nat.blt objs.length 1000=true:=by kernel_rfl)
 (hco:X2 fn.ntmps (fn.body.getD .skip)=true:=by kernel_rfl) (hnm:(fn.name == "runtime.NumGoroutine")=false:=by kernel_rfl):FunO S f args objs r objs' ks:=ZP hS hf h.out hc hn ho hco hnm
theorem Gg (hS:F4 S P)(hc:pr)(h:DG S P (Gf (stp P g)) fun env regs=>KG S P F (.pop .normal (stp P g).k ⟨env,regs⟩))(hp:pr=D0 (cnd P g):=by kernel_rfl)(hd:DJ (stp P g)=true:=by kernel_rfl)(hmix:P.follows .mixedOrders=true:=by kernel_rfl)
 (hok:Jz (Gf (stp P g)).all (Gf (stp P g)).cls=true:=by kernel_rfl):KG S P F g:=by
 have e:(fun env regs=>KG S P F (.pop .normal (stp P g).k ⟨env,regs⟩))=fun env regs=>G S P F (.pop .normal (stp P g).k ⟨env,regs⟩):=by funext env regs;exact propext ⟨fun h=>h.out,fun h=>⟨h⟩⟩
 rw[e]at h;exact⟨ZQ hS hc h.out hp hd hmix hok⟩
section
variable {sc:SC}{k:Env->C4->Prop}
theorem O0 (hc:pr)(h:k (Es P sc).env (Es P sc).regs)(hp:pr=D0 (UU P sc):=by kernel_rfl)(he:(Es P sc).rest.isEmpty=true:=by kernel_rfl):DG S P sc k:=⟨C_end hc h hp he⟩
theorem ZT (hc:pr){b:Bool}(ht:b=true->DG S P (JF true (Es P sc)) k)(hf:b=false->DG S P (JF false (Es P sc)) k)(hp:pr=D0 (UU P sc):=by kernel_rfl)(hb:No (Es P sc)=some b:=by kernel_rfl):DG S P sc k:=
 ⟨ZR hc (fun h=>(ht h).out) (fun h=>(hf h).out) hp hb⟩
theorem SM (ids:List Nat)(hc:pr){fn:FuncId}{args:List AV}{objs objs' : List Obj}{r:AV}{ks:List Bool}(hF:FunO S fn args objs r objs' ks)(hk:DG S P (VX ids ks r objs' (Es P sc)) k)
 (hp:pr=D0 (UU P sc):=by kernel_rfl) (he:SI ids (Es P sc)=some (fn,args,objs):=by kernel_rfl) (hn:Pm ids ks objs'.length (Es P sc)=true:=by kernel_rfl):DG S P sc k:=⟨Ag6 ids hc hF hk.out hp he hn⟩
theorem BA (hc:pr){fn:FuncId}{args:List AV}{r:AV}(hF:FunO S fn args [] r [] [])(hk:DG S P (VY r (Es P sc)) k)(hp:pr=D0 (UU P sc):=by kernel_rfl)(he:SK (Es P sc)=some (fn,args):=by kernel_rfl)(hn:SJ (Es P sc)=true:=by kernel_rfl):DG S P sc k:=
 ⟨Ag7 hc hF hk.out hp he hn⟩
theorem CJ (hc:pr){x:PV}(hk:DG S P (QW x (Es P sc)) k)(hp:pr=D0 (UU P sc):=by kernel_rfl)(he:(DK P (Es P sc)).map (·.2)=some x:=by kernel_rfl)(hc2:((DK P (Es P sc)).map fun q=>D0 q.1)=some (true=true):=by kernel_rfl):DG S P sc k:=⟨ZS hc hk.out hp he hc2⟩
end
end
end Go.AM
namespace Go.AM
section
variable {S:X1}{P:Program}{F:H6}{g:Cfg}{pr:Prop}
def yldE:Cfg->Option (List PV×List (List PV))
 |.ops all (o::_) _ st=>match By all st.env o,o.op with
  |some true,.call c=>match c.callee with
   |.value f=>match aev st.env f,Hv st.regs (c.args.toList.map (aev st.env))with
    |.yf j,some (xs,regs)=>match A1 regs j with
     |some (.yld (ys::rest) true)=>if DC j regs=true/\xs.length=ys.length then some (xs,ys::rest)else none
     |_=>none
    |_,_=>none
   |_=>none
  |_,_=>none
 |_=>none
def Ag8 (b:Bool)(rest:List (List PV)):Cfg->Cfg
 |.ops all (o::ops) K st=>match o.op with
  |.call c=>match c.callee with
   |.value f=>match aev st.env f,Hv st.regs (c.args.toList.map (aev st.env))with
    |.yf j,some (_,regs)=>YL o.dst (.p (.bb b)) st.env (ins j (.yld rest b) regs) fun st=>.ops all ops K st
    |_,_=>.ops all (o::ops) K st
   |_=>.ops all (o::ops) K st
  |_=>.ops all (o::ops) K st
 |g=>g
theorem Pn:∀l:List PV,Zc l l
 |[]=>trivial
 |x::l=>⟨.inl rfl,Pn l⟩
theorem ZU (hS:F4 S P)(hc:pr){ys:List PV}{rest:List (List PV)}(ht:G S P F (Ag8 true rest (stp P g)))(hf:G S P F (Ag8 false [] (stp P g)))(hp:pr=D0 (cnd P g))(he:yldE (stp P g)=some (ys,ys::rest)):G S P F g:=by
 refine Er hS hc ?_ hp;generalize stp P g=g' at he ht hf;unfold yldE at he;split at he
 ·split at he
  ·rename_i hg ho;split at he
   ·rename_i hcl;split at he
    ·rename_i hy hv;split at he
     ·rename_i hr;split at he
      ·rename_i ho2;simp only[Option.some.injEq,Prod.mk.injEq,List.cons.injEq]at he;obtain⟨rfl,rfl,rfl⟩:=he;simp only[Ag8,ho,hcl,hy,hv,HI]at ht hf;refine ZD hS hg ho hcl hy hv hr ho2.1 (Pn _) fun b=>?_;cases b
       ·exact hf
       ·exact ht
      ·cases he
     ·cases he
    ·cases he
   ·cases he
  ·cases he
 ·cases he
theorem Cd (hS:F4 S P)(hc:pr){ys:List PV}{rest:List (List PV)}(ht:KG S P F (Ag8 true rest (stp P g)))(hf:KG S P F (Ag8 false [] (stp P g)))(hp:pr=D0 (cnd P g):=by kernel_rfl)(he:yldE (stp P g)=some (ys,ys::rest):=by kernel_rfl):KG S P F g:=
 ⟨ZU hS hc ht.out hf.out hp he⟩
def Fv {T:Type}(x:T)(o:Option (List T)):Option (List T):=o.map (x :: ·)
theorem JG {T:Type}{x:T}{o:Option (List T)}{L:List T}(h:Fv x o=some L):∃L',L=x::L' /\ o=some L':=by simp only[Fv,Option.map_eq_some_iff]at h;obtain⟨l,h1,h2⟩:=h;exact⟨l,h2.symm,h1⟩
theorem EI (hS:F4 S P)(hc:pr){R A:Type}{body:(A->Option R)->A->Option R}{N:Nat}{a0:A}{r0:R}(h:Az N body a0=some r0)(s:A->R->St){ids:List (Nat×Nat)}
 (hr:∀(X:Type) (s' : X->St) (J:X->Prop) (m:X->Nat) (n:Nat) (self:A->Option R) (a:A) (r:R),
  (∀(g' : Cfg) (ids:List (Nat×Nat)) (pr:Prop) (a:A) (r:R),pr->self a=some r->(hp:pr=D0 (cnd P g'):=by kernel_rfl)->(he:stp P g' = .pop .normal (.lp X s' J m n::(stp P g).k) (stp P g').st:=by kernel_rfl)->(hle:KLe ids (stp P g').st (s a r):=by exact kl)->KG S P F g') ->
  body self a=some r->KG S P F (.code (QT (stp P g)) (.lp X s' J m n::(stp P g).k) (s a r))) (hp:pr=D0 (cnd P g):=by kernel_rfl) (hl:Ik (stp P g)=true:=by kernel_rfl) (hle:KLe ids (stp P g).st (s a0 r0):=by exact kl):KG S P F g:=by
 refine⟨Er hS hc ?_ hp⟩;rw[VW hl];refine YF hS (X:=Nat×A×R) (fun x=>s x.2.1 x.2.2) (fun x=>Az x.1 body x.2.1=some x.2.2) (fun x=>x.1) (N,a0,r0) ids hle.out h ?_;rintro⟨n,a,r⟩ hx;cases n with
 |zero=>cases hx
 |succ n=>exact (hr _ _ _ _ _ (Az n body) a r (fun g' ids pr a r hc hself hp he hle=>⟨Er hS hc (by rw[he];exact Vm hS (n,a,r) ids hle.out hself (Nat.lt_succ_self n)) hp⟩) hx).out
theorem Np (hS:F4 S P)(hc:pr){R A B:Type}{body:(A->B->Option R)->A->B->Option R}{N:Nat}{a0:A}{b0:B}{r0:R}(h:Bj N body a0 b0=some r0)(s:A->B->R->St){ids:List (Nat×Nat)}
 (hr:∀(X:Type) (s' : X->St) (J:X->Prop) (m:X->Nat) (n:Nat) (self:A->B->Option R) (a:A) (b:B) (r:R),
  (∀(g' : Cfg) (ids:List (Nat×Nat)) (pr:Prop) (a:A) (b:B) (r:R),pr->self a b=some r->(hp:pr=D0 (cnd P g'):=by kernel_rfl)->(he:stp P g' = .pop .normal (.lp X s' J m n::(stp P g).k) (stp P g').st:=by kernel_rfl)->(hle:KLe ids (stp P g').st (s a b r):=by exact kl)->KG S P F g') ->
  body self a b=some r->KG S P F (.code (QT (stp P g)) (.lp X s' J m n::(stp P g).k) (s a b r))) (hp:pr=D0 (cnd P g):=by kernel_rfl) (hl:Ik (stp P g)=true:=by kernel_rfl) (hle:KLe ids (stp P g).st (s a0 b0 r0):=by exact kl):KG S P F g:=
 EI hS hc h (fun x r=>s x.1 x.2 r) (fun X s' J m n self a r hb=>hr X s' J m n (fun a b=>self (a,b)) a.1 a.2 r fun g' ids pr a b r h1 h2 h3 h4 h5=>hb g' ids pr (a,b) r h1 h2 h3 h4 h5) hp hl hle
theorem DL (hS:F4 S P){f:FuncId}{fn:Func}{first caps:List AV}{objs:List Obj}{L:List (List PV)}(hf:P.funcs[f]? = some fn)
 (h:KG S P (AX S P (objs++[Obj.yld L true]).length fn.results.toList fun r objs' ks=>∃b,objs'[objs.length]? = some (.yld [] b)/\ks[objs.length]? = some true/\∃a,r=.ret a) (.code (fn.body.getD .skip) [] { env:=argEnv (first ++ .yf objs.length::caps),regs:=objRegs (objs++[Obj.yld L true]) }))
 (hc:fn.body.isSome=true:=by kernel_rfl) (hn:Nat.ble (first ++ .yf objs.length::caps).length fn.ntmps=true:=by kernel_rfl) (ho:Nat.blt (objs++[Obj.yld L true]).length 1000=true:=by kernel_rfl)
 (hco:X2 fn.ntmps (fn.body.getD .skip)=true:=by kernel_rfl) (hnm:(fn.name == "runtime.NumGoroutine")=false:=by kernel_rfl):DH S f first caps objs L:=by
 obtain⟨code,hcode⟩:=Option.isSome_iff_exists.1 hc;rw[hcode,Option.getD_some]at hco h;exact HH hS hf hcode (Nat.le_of_ble_eq_true hn) (by simpa[Nat.blt_eq]using ho) rfl hco hnm h.out
def Po (P:Program)(ids:List Nat):Cfg->Option (FuncId×List AV×List AV×List Obj)
 |.code (.rangeFunc op _ _ _) _ st=>match CF st.env op with
  |some (f,first,caps)=>match P.funcs[f]?,H8 ids st.regs ids,BN ids first,BN ids caps with
   |some fn,some objs,some as,some bs=>if (fn.body.isSome && !(fn.name == "runtime.NumGoroutine")&&Df objs&&F0 ids&&(objs.length==ids.length)&&Nat.blt ids.length 1000) then some (f,as,bs,objs)else none
   |_,_,_,_=>none
  |none=>none
 |_=>none
def FC:Cfg->Array Tmp
 |.code (.rangeFunc _ ps _ _) _ _=>ps
 |_=>#[]
def Pp:Cfg->Code
 |.code (.rangeFunc _ _ a _) _ _=>a
 |_=>.skip
def Pq:Cfg->Code
 |.code (.rangeFunc _ _ _ b) _ _=>b
 |_=>.skip
def Pr (ids ts:List Nat)(g:Cfg):St:=⟨R8 ts (ts.map (get g.st.env)),K9 ids (ids.map fun _=>false) g.st.regs⟩
def rst (gh:Nat)(t:St):St:=⟨[],ins gh (.ghost (t.env.map (·.2))) t.regs⟩
def Ps (gh:Nat)(ps:Array Tmp)(ys:List PV)(t:St):St:=⟨Gx ps.toList ys t.env,ins gh (.ghost (t.env.map (·.2))) t.regs⟩
def exitE:Cfg->Jd
 |.pop e _ _=>e
 |_=>.normal
def YP:Cfg->Bool
 |.pop .ret [] _=>true
 |.pop (.exit _) [] _=>true
 |_=>false
theorem Wa (regs:C4)(d:Nat)(x:Obj):A1 (ins d x regs) d=some x:=by
 induction regs with
 |nil=>simp[ins,A1]
 |cons p r ih=>
  obtain⟨i,b⟩:=p;simp only[ins];split
  ·simp[A1]
  split
  ·simp[A1]
  ·rename_i h1 h2;simp only[A1,h2,if_false,ih]
theorem EJ (gh:Nat)(t:St):A1 (rst gh t).regs gh=some (.ghost (t.env.map fun p=>p.2)):=by unfold rst;exact Wa _ _ _
def JH (ids:List Nat):Cfg->Option (FuncId×List AV×List AV×List Obj)
 |.code (.rangeFunc op _ _ _) _ st=>match CF st.env op with
  |some (f,first,caps)=>match H8 ids st.regs ids,BN ids first,BN ids caps with
   |some objs,some as,some bs=>if (Df objs&&F0 ids&&(objs.length==ids.length)&&Nat.blt ids.length 1000) then some (f,as,bs,objs)else none
   |_,_,_=>none
  |none=>none
 |_=>none
theorem Fn {ids:List Nat}{g:Cfg}{q:FuncId×List AV×List AV×List Obj}(h:Po P ids g=some q):JH ids g=some q/\∃fn,P.funcs[q.1]? = some fn/\fn.body.isSome=true/\(fn.name == "runtime.NumGoroutine")=false:=by
 unfold Po at h;split at h
 ·split at h
  ·rename_i hpo;split at h
   ·rename_i fn objs' as' bs' h1 h2 h3 h4;split at h
    ·rename_i hh;cases h;simp only[Bool.and_eq_true,Bool.not_eq_true',beq_iff_eq]at hh;obtain⟨⟨⟨⟨⟨e1,e2⟩,e3⟩,e4⟩,e5⟩,e6⟩:=hh;refine⟨?_,fn,h1,e1,by simpa using e2⟩;simp only[JH,hpo,h2,h3,h4,e3,e4,e5,e6,beq_self_eq_true,Bool.and_true,if_true]
    ·cases h
   ·cases h
  ·cases h
 ·cases h
theorem Nq (hS:F4 S P)(hc:pr){f:FuncId}{as bs:List AV}{objs:List Obj}{R T A:Type}{enc:T->List PV}{L:List T}{mb:(A->Option R)->T->A->Option R}{mk:A->Option R}{a0:A}{r:R}(hfn:∃fn,P.funcs[f]? = some fn/\fn.body.isSome=true/\(fn.name == "runtime.NumGoroutine")=false)
 (ids ts:List Nat) (gh:Nat) (s:A->St) {idl:List (Nat×Nat)}(h:Y9 L mb mk a0=some r) (hF:DH S f as bs objs (L.map enc))
 (hlen:∀t:T,(enc t).length=(FC (stp P g)).size) (hk:∀a,(s a).env.map (·.1)=ts) (hn:∀a,A1 (s a).regs gh=none) (hb0:∀a,(⟨R8 ts ((s a).env.map (·.2)),del gh (ins gh (.ghost ((s a).env.map (·.2))) (s a).regs)⟩:St)=s a)
 (hround:∀(t:T) (next:St->Prop) (self:A->Option R) (a:A),
  (∀(g' : Cfg) (ids:List (Nat×Nat)) (pr:Prop) (a:A),pr->self a=some r->(hp:pr=D0 (cnd P g'):=by kernel_rfl)->(he:stp P g' = .pop .normal [] (stp P g').st:=by kernel_rfl)->(hle:KLe ids (stp P g').st (rst gh (s a)):=by exact kl)->KG S P (CH S gh ts next (kp S P (stp P g).k F)) g') ->
  mb self t a=some r->KG S P (An S P (Pq (stp P g)) gh ts next (kp S P (stp P g).k F)) (.code (Pp (stp P g)) [] (Ps gh (FC (stp P g)) (enc t) (s a))))
 (hend:∀a,mk a=some r->KG S P F (.pop .normal (stp P g).k (s a)))
 (hp:pr=D0 (cnd P g):=by kernel_rfl) (he:JH ids (stp P g)=some (f,as,bs,objs):=by kernel_rfl) (hgh:Nat.blt gh 1000=true:=by kernel_rfl) (hng:A1 (stp P g).st.regs gh=none:=by kernel_rfl) (hts:F0 ts=true:=by kernel_rfl)
 (hle:KLe idl (Pr ids ts (stp P g)) (s a0):=by exact kl):KG S P F g:=by
 refine⟨Er hS hc ?_ hp⟩;generalize stp P g=g1 at hlen hround hend he hng hle;unfold JH at he;split at he
 ·rename_i op ps asg body K st;split at he
  ·rename_i f' first caps hpo
   split at he
   ·rename_i objs' as' bs' h2 h3 h4;split at he
    ·rename_i hh;simp only[Option.some.injEq,Prod.mk.injEq]at he;obtain⟨rfl,rfl,rfl,rfl⟩:=he;simp only[Bool.and_eq_true,Bool.not_eq_true',beq_iff_eq]at hh;obtain⟨⟨⟨e3,e4⟩,e5⟩,e6⟩:=hh;refine ZH hS ids ts gh s idl h hF hpo hfn h2 e3 e4 h3 h4 e5 hgh hng e6 hts hlen hle.out hk hn (fun t next self a hb hm=>?_) (fun a hm=>(hend a hm).out);refine (hround t next self a (fun g' ids' pr a hc hself hp he hle=>⟨Er hS hc ?_ hp⟩) hm).out;rw[he];have hl:((s a).env.map (·.2)).length=ts.length:=by rw[<- hk a];simp
     refine hb _ (rst gh (s a)) ((s a).env.map fun p=>p.2) ids' a hle.out (EJ gh (s a)) hl ?_ (hb0 a) hself
     have:=congrArg St.regs (hb0 a)
     simp only at this;show A1 (del gh (ins gh _ _)) gh=none;rw[this];exact hn a
    ·cases he
   ·cases he
  ·cases he
 ·cases he
theorem DM (hS:F4 S P)(hc:pr){f:FuncId}{as bs:List AV}{objs:List Obj}{R T A:Type}{enc:T->List PV}{L:List T}{mb:(A->Option R)->T->A->Option R}{mk:A->Option R}{a0:A}{r:R}
 (ids ts:List Nat) (gh:Nat) (s:A->St) {idl:List (Nat×Nat)}(h:Y9 L mb mk a0=some r) (hF:DH S f as bs objs (L.map enc))
 (hlen:∀t:T,(enc t).length=(FC (stp P g)).size) (hk:∀a,(s a).env.map (·.1)=ts) (hn:∀a,A1 (s a).regs gh=none) (hb0:∀a,(⟨R8 ts ((s a).env.map (·.2)),del gh (ins gh (.ghost ((s a).env.map (·.2))) (s a).regs)⟩:St)=s a)
 (hround:∀(t:T) (next:St->Prop) (self:A->Option R) (a:A),
  (∀(g' : Cfg) (ids:List (Nat×Nat)) (pr:Prop) (a:A),pr->self a=some r->(hp:pr=D0 (cnd P g'):=by kernel_rfl)->(he:stp P g' = .pop .normal [] (stp P g').st:=by kernel_rfl)->(hle:KLe ids (stp P g').st (rst gh (s a)):=by exact kl)->KG S P (CH S gh ts next (kp S P (stp P g).k F)) g') ->
  mb self t a=some r->KG S P (An S P (Pq (stp P g)) gh ts next (kp S P (stp P g).k F)) (.code (Pp (stp P g)) [] (Ps gh (FC (stp P g)) (enc t) (s a))))
 (hend:∀a,mk a=some r->KG S P F (.pop .normal (stp P g).k (s a)))
 (hp:pr=D0 (cnd P g):=by kernel_rfl) (he:Po P ids (stp P g)=some (f,as,bs,objs):=by kernel_rfl) (hgh:Nat.blt gh 1000=true:=by kernel_rfl) (hng:A1 (stp P g).st.regs gh=none:=by kernel_rfl) (hts:F0 ts=true:=by kernel_rfl)
 (hle:KLe idl (Pr ids ts (stp P g)) (s a0):=by exact kl):KG S P F g:=
 Nq hS hc (Fn he).2 ids ts gh s h hF hlen hk hn hb0 hround hend hp (Fn he).1 hgh hng hts hle
theorem Wb (hS:F4 S P)(hc:pr){f:FuncId}{as bs:List AV}{objs:List Obj}{R T A:Type}{enc:T->List PV}{L:List T}{mb:(A->Option R)->T->A->Option R}{mk:A->Option R}{a0:A}{r0:R}(hfn:∃fn,P.funcs[f]? = some fn/\fn.body.isSome=true/\(fn.name == "runtime.NumGoroutine")=false)
 (ids ts:List Nat) (gh:Nat) (s:A->R->St) {idl:List (Nat×Nat)}(h:Y9 L mb mk a0=some r0) (hF:DH S f as bs objs (L.map enc))
 (hlen:∀t:T,(enc t).length=(FC (stp P g)).size) (hk:∀a r,(s a r).env.map (·.1)=ts) (hn:∀a r,A1 (s a r).regs gh=none) (hb0:∀a r,(⟨R8 ts ((s a r).env.map (·.2)),del gh (ins gh (.ghost ((s a r).env.map (·.2))) (s a r).regs)⟩:St)=s a r)
 (hround:∀(t:T) (next:St->Prop) (self:A->Option R) (a:A) (r:R),
  (∀(g' : Cfg) (ids:List (Nat×Nat)) (pr:Prop) (a:A) (r:R),pr->self a=some r->(hp:pr=D0 (cnd P g'):=by kernel_rfl)->(he:stp P g' = .pop .normal [] (stp P g').st:=by kernel_rfl)->(hle:KLe ids (stp P g').st (rst gh (s a r)):=by exact kl)->KG S P (CH S gh ts next (kp S P (stp P g).k F)) g') ->
  mb self t a=some r->KG S P (An S P (Pq (stp P g)) gh ts next (kp S P (stp P g).k F)) (.code (Pp (stp P g)) [] (Ps gh (FC (stp P g)) (enc t) (s a r))))
 (hend:∀a r,mk a=some r->KG S P F (.pop .normal (stp P g).k (s a r)))
 (hp:pr=D0 (cnd P g):=by kernel_rfl) (he:JH ids (stp P g)=some (f,as,bs,objs):=by kernel_rfl) (hgh:Nat.blt gh 1000=true:=by kernel_rfl) (hng:A1 (stp P g).st.regs gh=none:=by kernel_rfl) (hts:F0 ts=true:=by kernel_rfl)
 (hle:KLe idl (Pr ids ts (stp P g)) (s a0 r0):=by exact kl):KG S P F g:=by
 refine⟨Er hS hc ?_ hp⟩;generalize stp P g=g1 at hlen hround hend he hng hle;unfold JH at he;split at he
 ·rename_i op ps asg body K st;split at he
  ·rename_i f' first caps hpo
   split at he
   ·rename_i objs' as' bs' h2 h3 h4;split at he
    ·rename_i hh;simp only[Option.some.injEq,Prod.mk.injEq]at he;obtain⟨rfl,rfl,rfl,rfl⟩:=he;simp only[Bool.and_eq_true,Bool.not_eq_true',beq_iff_eq]at hh;obtain⟨⟨⟨e3,e4⟩,e5⟩,e6⟩:=hh;refine XG hS ids ts gh s idl h hF hpo hfn h2 e3 e4 h3 h4 e5 hgh hng e6 hts hlen hle.out hk hn (fun t next self a r hb hm=>?_) (fun a r hm=>(hend a r hm).out);refine (hround t next self a r (fun g' ids' pr a r hc hself hp he hle=>⟨Er hS hc ?_ hp⟩) hm).out;rw[he];have hl:((s a r).env.map (·.2)).length=ts.length:=by rw[<- hk a r];simp
     refine hb _ (rst gh (s a r)) ((s a r).env.map fun p=>p.2) ids' a r hle.out (EJ gh (s a r)) hl ?_ (hb0 a r) hself
     have:=congrArg St.regs (hb0 a r)
     simp only at this;show A1 (del gh (ins gh _ _)) gh=none;rw[this];exact hn a r
    ·cases he
   ·cases he
  ·cases he
 ·cases he
theorem XQ (hS:F4 S P)(hc:pr){f:FuncId}{as bs:List AV}{objs:List Obj}{R T A:Type}{enc:T->List PV}{L:List T}{mb:(A->Option R)->T->A->Option R}{mk:A->Option R}{a0:A}{r0:R}
 (ids ts:List Nat) (gh:Nat) (s:A->R->St) {idl:List (Nat×Nat)}(h:Y9 L mb mk a0=some r0) (hF:DH S f as bs objs (L.map enc))
 (hlen:∀t:T,(enc t).length=(FC (stp P g)).size) (hk:∀a r,(s a r).env.map (·.1)=ts) (hn:∀a r,A1 (s a r).regs gh=none) (hb0:∀a r,(⟨R8 ts ((s a r).env.map (·.2)),del gh (ins gh (.ghost ((s a r).env.map (·.2))) (s a r).regs)⟩:St)=s a r)
 (hround:∀(t:T) (next:St->Prop) (self:A->Option R) (a:A) (r:R),
  (∀(g' : Cfg) (ids:List (Nat×Nat)) (pr:Prop) (a:A) (r:R),pr->self a=some r->(hp:pr=D0 (cnd P g'):=by kernel_rfl)->(he:stp P g' = .pop .normal [] (stp P g').st:=by kernel_rfl)->(hle:KLe ids (stp P g').st (rst gh (s a r)):=by exact kl)->KG S P (CH S gh ts next (kp S P (stp P g).k F)) g') ->
  mb self t a=some r->KG S P (An S P (Pq (stp P g)) gh ts next (kp S P (stp P g).k F)) (.code (Pp (stp P g)) [] (Ps gh (FC (stp P g)) (enc t) (s a r))))
 (hend:∀a r,mk a=some r->KG S P F (.pop .normal (stp P g).k (s a r)))
 (hp:pr=D0 (cnd P g):=by kernel_rfl) (he:Po P ids (stp P g)=some (f,as,bs,objs):=by kernel_rfl) (hgh:Nat.blt gh 1000=true:=by kernel_rfl) (hng:A1 (stp P g).st.regs gh=none:=by kernel_rfl) (hts:F0 ts=true:=by kernel_rfl)
 (hle:KLe idl (Pr ids ts (stp P g)) (s a0 r0):=by exact kl):KG S P F g:=
 Wb hS hc (Fn he).2 ids ts gh s h hF hlen hk hn hb0 hround hend hp (Fn he).1 hgh hng hts hle
def Ak2 (t:Nat)(a:AV):Cfg->Cfg
 |.ops all rest K st=>mkO (ins t a st.env) st.regs fun env regs=>.ops all rest K ⟨env,regs⟩
 |g=>g
theorem ZV (hS:F4 S P)(hc:pr)(t:Nat){k n:Nat}{f:Nat->List PV}(h0:n=0->KG S P F (Ak2 t (.p (.v (.slice none 0 0))) (stp P g)))(h1:KG S P F (Ak2 t (.p (.sl true k n f)) (stp P g)))
 (hp:pr=D0 (cnd P g):=by kernel_rfl) (ho:EG (stp P g)=true:=by kernel_rfl) (hg:get (stp P g).st.env t=.p (.sl false k n f):=by kernel_rfl):KG S P F g:=by
 refine⟨Er hS hc ?_ hp⟩;generalize stp P g=g1 at h0 h1 ho hg;unfold EG at ho;split at ho
 ·refine Ad5 hS t hg (fun h=>?_) ?_
  ·have:=(h0 h).out
   simpa only[Ak2,Dn]using this
  ·have:=h1.out
   simpa only[Ak2,Dn]using this
 ·cases ho
def frzC (j:Nat)(ps:List PV):Cfg->Cfg
 |.code c K st=>mkO (US j ps st.env) (ins j .dead st.regs) fun env regs=>.code c K ⟨env,regs⟩
 |g=>g
theorem Wc (hS:F4 S P)(hc:pr)(j:Nat)(ps:List PV)(hk:KG S P F (frzC j ps (stp P g)))(hp:pr=D0 (cnd P g):=by kernel_rfl)(hd:DJ (stp P g)=true:=by kernel_rfl)(hmix:P.follows .mixedOrders=true:=by kernel_rfl)
 (hdep:HZ (Gf (stp P g)).all=true:=by kernel_rfl) (hr:A1 (stp P g).st.regs j=some (.cells (ps.map .p)):=by kernel_rfl):KG S P F g:=by
 refine⟨Er hS hc ?_ hp⟩;generalize stp P g=g1 at hk hd hdep hr;unfold DJ at hd;split at hd
 ·rename_i id ops K st;have hk:=hk.out;simp only[frzC,Dn]at hk;show awp S P (.region id ops true) (kp S P K F) st;simp only[awp,if_true];have hk' : WS S P ops.toList (kp S P K F) ⟨US j ps st.env,ins j .dead st.regs⟩:=by
   have:awp S P (.region id ops true) (kp S P K F) ⟨US j ps st.env,ins j .dead st.regs⟩:=hk
   simpa only[awp,if_true]using this
  exact XE hS hmix hdep (hS.frz st j ps _ hr hk')
 ·cases hd
def clsN (js:List Nat):Nat->List Oper->List Cls
 |_,[]=>[]
 |i,o::r=>(if js.contains i then .n else if js.contains (i+1000)then .w else Aj9 o.op)::clsN js (i+1) r
def Nr (js:List Nat):Cfg->SC
 |.code (.region _ ops true) _ st=>⟨ops.toList,clsN js 0 ops.toList,ops.toList,st.env,st.regs,[]⟩
 |_=>⟨[],[],[],[],[],[]⟩
theorem G8 (hS:F4 S P)(hc:pr)(js:List Nat)(h:DG S P (Nr js (stp P g)) fun env regs=>KG S P F (.pop .normal (stp P g).k ⟨env,regs⟩))(hp:pr=D0 (cnd P g):=by kernel_rfl)(hd:DJ (stp P g)=true:=by kernel_rfl)(hmix:P.follows .mixedOrders=true:=by kernel_rfl)
 (hok:Jz (Nr js (stp P g)).all (Nr js (stp P g)).cls=true:=by kernel_rfl):KG S P F g:=by
 have e:(fun env regs=>KG S P F (.pop .normal (stp P g).k ⟨env,regs⟩))=fun env regs=>G S P F (.pop .normal (stp P g).k ⟨env,regs⟩):=by funext env regs;exact propext ⟨fun h=>h.out,fun h=>⟨h⟩⟩
 rw[e]at h;refine⟨Er hS hc ?_ hp⟩;have h:=h.out;generalize stp P g=g' at hd hok h;unfold DJ at hd;split at hd
 ·exact VN hS _ hmix hok h
 ·cases hd
def clsL (ls:List (Nat×Cls)):Nat->List Oper->List Cls
 |_,[]=>[]
 |i,o::r=>(match ls.find? (fun q=>q.1==i)with|some q=>q.2|none=>Aj9 o.op)::clsL ls (i+1) r
def Ns (ls:List (Nat×Cls)):Cfg->SC
 |.code (.region _ ops true) _ st=>⟨ops.toList,clsL ls 0 ops.toList,ops.toList,st.env,st.regs,[]⟩
 |_=>⟨[],[],[],[],[],[]⟩
theorem U1 (hS:F4 S P)(hc:pr)(ls:List (Nat×Cls))(h:DG S P (Ns ls (stp P g)) fun env regs=>KG S P F (.pop .normal (stp P g).k ⟨env,regs⟩))(hp:pr=D0 (cnd P g):=by kernel_rfl)(hd:DJ (stp P g)=true:=by kernel_rfl)(hmix:P.follows .mixedOrders=true:=by kernel_rfl)
 (hok:Jz (Ns ls (stp P g)).all (Ns ls (stp P g)).cls=true:=by kernel_rfl):KG S P F g:=by
 have e:(fun env regs=>KG S P F (.pop .normal (stp P g).k ⟨env,regs⟩))=fun env regs=>G S P F (.pop .normal (stp P g).k ⟨env,regs⟩):=by funext env regs;exact propext ⟨fun h=>h.out,fun h=>⟨h⟩⟩
 rw[e]at h;refine⟨Er hS hc ?_ hp⟩;have h:=h.out;generalize stp P g=g' at hd hok h;unfold DJ at hd;split at hd
 ·exact VN hS _ hmix hok h
 ·cases hd
theorem GP (hS:F4 S P)(hc:pr){body:Code}{gh:Nat}{ts:List Nat}{next:St->Prop}{Q:H6}(h:KG S P (CH S gh ts next Q) (.code body [] (stp P g).st))(hp:pr=D0 (cnd P g):=by kernel_rfl)(he:stp P g=.pop .normal [] (stp P g).st:=by kernel_rfl):KG S P (An S P body gh ts next Q) g:=by refine⟨Er hS hc ?_ hp⟩;rw[he];exact G_asg hS h.out
theorem Nt (hS:F4 S P)(hc:pr){K:List It}{gh:Nat}{ts:List Nat}{next:St->Prop}(t:St){ids:List (Nat×Nat)}(hk:KG S P F (.pop (exitE (stp P g)) K t))(hp:pr=D0 (cnd P g):=by kernel_rfl)(he:YP (stp P g)=true:=by kernel_rfl)
 (hle:KLe ids (stp P g).st (rst gh t):=by exact kl) (h1:t.env.map (·.1)=ts:=by kernel_rfl) (h2:A1 t.regs gh=none:=by kernel_rfl) (h3:(⟨R8 ts (t.env.map (·.2)),del gh (ins gh (.ghost (t.env.map (·.2))) t.regs)⟩:St)=t:=by kernel_rfl):KG S P (CH S gh ts next (kp S P K F)) g:=by
 refine⟨Er hS hc ?_ hp⟩;generalize stp P g=g1 at hk he hle;have hl:(t.env.map (·.2)).length=ts.length:=by rw[<- h1];simp
 have hd:A1 (del gh (ins gh (.ghost (t.env.map (·.2))) t.regs)) gh=none:=by
  have:=congrArg St.regs h3
  simp only at this;rw[this];exact h2
 unfold YP at he;split at he
 ·exact Sz hS trivial (rst gh t) ids hle.out (EJ gh t) hl hd (by rw[show (⟨R8 ts (t.env.map (·.2)),del gh (rst gh t).regs⟩:St)=t from h3];exact hk.out)
 ·exact Sz hS trivial (rst gh t) ids hle.out (EJ gh t) hl hd (by rw[show (⟨R8 ts (t.env.map (·.2)),del gh (rst gh t).regs⟩:St)=t from h3];exact hk.out)
 ·cases he
end
end Go.AM
namespace Go.AM
section
variable {S:X1}{P:Program}{F:H6}{g:Cfg}{pr:Prop}
def Ag9 (j:Nat)(ps:List PV):Cfg->Cfg
 |.ops all rest K st=>mkO (US j ps st.env) (ins j .dead st.regs) fun env regs=>.ops all rest K ⟨env,regs⟩
 |g=>g
end
section
variable {S:X1}{P:Program}{F:H6}{g:Cfg}{pr:Prop}
theorem K3 (hS:F4 S P)(hc:pr)(d:Nat)(st:St){ids:List (Nat×Nat)}(hk:KG S P F (opsS st (EF P d g)))(hp:pr=D0 (Ac6 P d g):=by kernel_rfl)(ho:EG (EF P d g)=true:=by kernel_rfl)(hle:KLe ids (EF P d g).st st:=by exact kl):KG S P F g:=by
 refine⟨(Ex (u:=some d) (F:=F) hS 400 [] g (by subst hp;exact hc)).2 ?_⟩;have hk:=hk.out;have hle:=hle.out;show G S P F (EF P d g);generalize EF P d g=g' at ho hle hk;unfold EG at ho;split at ho
 ·exact VU hS st ids hle hk
 ·cases ho
end
end Go.AM
namespace Go.AM
section
variable {S:X1}{P:Program}{F:H6}{g:Cfg}{pr:Prop}
def Ah0 (S:X1)(P:Program)(pv:PV)(m:String)(as:List AV)(r:AV):Prop:=∃t y fn,pv=.iface t y/\Oz P t m=some fn/\Vl S fn (.p (nP y)::as) r
def invE:Cfg->Option (PV×String×List AV)
 |.ops all (o::_) _ st=>match By all st.env o,o.op with
  |some true,.call c=>match c.callee with
   |.invoke rv m=>match KS st.regs (c.args.toList.map (aev st.env)),aev st.env rv with
    |some (as,_),.p pv=>match BN [] as with
     |some as'=>some (pv,m,as')
     |none=>none
    |_,_=>none
   |_=>none
  |_,_=>none
 |_=>none
def invK (r:AV):Cfg->Cfg
 |.ops all (o::rest) K st=>match o.op with
  |.call c=>match KS st.regs (c.args.toList.map (aev st.env))with
   |some (_,regs)=>YL o.dst (unA [] r) st.env regs fun st=>.ops all rest K st
   |none=>.ops all (o::rest) K st
  |_=>.ops all (o::rest) K st
 |g=>g
theorem IX (hS:F4 S P)(hc:pr){pv:PV}{m:String}{as:List AV}{r:AV}(hF:Ah0 S P pv m as r)(hk:KG S P F (invK r (stp P g)))
 (hp:pr=D0 (cnd P g):=by kernel_rfl) (he:invE (stp P g)=some (pv,m,as):=by kernel_rfl):KG S P F g:=by
 obtain⟨t,y,fn,rfl,hm,hF⟩:=hF;refine⟨Er hS hc ?_ hp⟩;have hk:=hk.out;generalize stp P g=g' at he hk;unfold invE at he;split at he
 ·split at he
  ·rename_i hg ho;split at he
   ·rename_i hcl;split at he
    ·rename_i ha hrv;split at he
     ·rename_i hr;cases he;simp only[invK,ho,ha,HI]at hk;refine XB hS hg ho hcl ha hrv hm (args:=.p (nP y)::_) ?_ hF hk;simp only[BN,Ot,hr]
     ·cases he
    ·cases he
   ·cases he
  ·cases he
 ·cases he
theorem H9 (hS:F4 S P)(hc:pr)(d j:Nat)(ps:List PV)(hk:KG S P F (Ag9 j ps (EF P d g)))(hp:pr=D0 (Ac6 P d g):=by kernel_rfl)(ho:EG (EF P d g)=true:=by kernel_rfl)
 (hr:A1 (EF P d g).st.regs j=some (.cells (ps.map .p)):=by kernel_rfl):KG S P F g:=by
 refine⟨(Ex (u:=some d) (F:=F) hS 400 [] g (by subst hp;exact hc)).2 ?_⟩;have hk:=hk.out;show G S P F (EF P d g);generalize EF P d g=g' at ho hr hk;unfold EG at ho;split at ho
 ·simp only[Ag9,Dn]at hk;exact OE hS (hS.frz _ j ps _ hr hk)
 ·cases ho
def XR (j j' : Nat):AV->AV
 |.vecp i m=>if i=j then .vec j' else .vecp i m
 |a=>a
def XS (j j' : Nat):List AV->List AV
 |[]=>[]
 |a::r=>XR j j' a::XS j j' r
def XT (j j' : Nat):Env->Env
 |[]=>[]
 |(t,a)::r=>(t,XR j j' a)::XT j j' r
def TV (j j' : Nat):C4->C4
 |[]=>[]
 |(t,.cells cs)::r=>(t,.cells (XS j j' cs))::TV j j' r
 |(t,o)::r=>(t,o)::TV j j' r
def msA (j:Nat)(r:List Nat):AV->List Nat
 |.vecp i m=>if i=j then m::r else r
 |_=>r
def msL (j:Nat):List AV->List Nat
 |[]=>[]
 |a::r=>msA j (msL j r) a
def msE (j:Nat):Env->List Nat
 |[]=>[]
 |(_,a)::r=>msA j (msE j r) a
def msR (j:Nat):C4->List Nat
 |[]=>[]
 |(_,.cells cs)::r=>msL j cs++msR j r
 |_::r=>msR j r
theorem Wd {j:Nat}{r:List Nat}{a:AV}:∀x∈r,x∈msA j r a:=by
 intro x hx;unfold msA;split
 ·split
  ·exact List.mem_cons_of_mem _ hx
  ·exact hx
 ·exact hx
theorem SN {j n j' : Nat}{r:List Nat}{a:AV}(h:∀m∈msA j r a,m=n):WV j n j' a=XR j j' a:=by
 cases a with
 |vecp i m=>
  simp only[WV,XR];by_cases e:i=j
  ·have:m=n:=h m (by simp[msA,e])
   simp[e,this]
  ·simp[e]
 |_=>rfl
theorem SO {j n j' : Nat}:∀{l:List AV},(∀m∈msL j l,m=n)->YB j n j' l=XS j j' l
 |[],_=>rfl
 |a::r,h=>by simp only[YB,XS,SN (r:=msL j r) h,SO fun m hm=>h m (Wd m hm)]
theorem SP {j n j' : Nat}:∀{l:Env},(∀m∈msE j l,m=n)->YA j n j' l=XT j j' l
 |[],_=>rfl
 |(t,a)::r,h=>by simp only[YA,XT,SN (r:=msE j r) h,SP fun m hm=>h m (Wd m hm)]
theorem Nu {j n j' : Nat}:∀{l:C4},(∀m∈msR j l,m=n)->Sd j n j' l=TV j j' l
 |[],_=>rfl
 |(t,o)::r,h=>by
  cases o with
  |cells cs=>simp only[Sd,TV,Ac2,SO fun m hm=>h m (List.mem_append_left _ hm),Nu fun m hm=>h m (List.mem_append_right _ hm)]
  |_=>simp only[Sd,TV,Ac2,Nu (l:=r) h]
def truC (j j' : Nat)(e:TypeId)(k n:Nat)(f:Nat->List PV):Cfg->Cfg
 |.ops all rest K st=>mkO (XT j j' st.env) (ins j' (.vec e k n f false) (ins j .dead (TV j j' st.regs))) fun env regs=>.ops all rest K ⟨env,regs⟩
 |g=>g
theorem Ah1 (hS:F4 S P)(hc:pr)(d j n j' : Nat){e:TypeId}{k N:Nat}{f:Nat->List PV}(hn:n<=N)(hk:KG S P F (truC j j' e k n f (EF P d g)))(hp:pr=D0 (Ac6 P d g):=by kernel_rfl)(ho:EG (EF P d g)=true:=by kernel_rfl)
 (hr:A1 (EF P d g).st.regs j=some (.vec e k N f false):=by kernel_rfl) (hf:A1 (EF P d g).st.regs j' = none:=by kernel_rfl) (h1:Nat.ble 1000 j' = true:=by kernel_rfl)
 (hm:(msE j (EF P d g).st.env++msR j (EF P d g).st.regs)=List.replicate (msE j (EF P d g).st.env++msR j (EF P d g).st.regs).length n:=by kernel_rfl):KG S P F g:=by
 refine⟨(Ex (u:=some d) (F:=F) hS 400 [] g (by subst hp;exact hc)).2 ?_⟩;have hk:=hk.out;show G S P F (EF P d g);generalize EF P d g=g' at ho hr hf hk hm;unfold EG at ho;split at ho
 ·rename_i st;have hall:∀m∈msE j st.env++msR j st.regs,m=n:=fun m h=>by rw[show msE j st.env++msR j st.regs=_ from hm]at h;exact (List.mem_replicate.1 h).2
  simp only[truC,Dn]at hk;refine OE hS (hS.trunc _ j j' n N k e f _ hr hn hf (Nat.le_of_ble_eq_true h1) ?_);rw[SP fun m h=>hall m (List.mem_append_left _ h),Nu fun m h=>hall m (List.mem_append_right _ h)];exact hk
 ·cases ho
end
abbrev cA {α : Type}(n:Nat)(c : α -> PV)(f:Nat -> α):List PV:=Aj n (fun i=>c (f i))
theorem D7 (n:Nat)(f:Nat->PV):(Aj n f).length=n:=by simp[Aj]
theorem C9 (n:Nat)(f:Nat->PV):∀i,i<n->[(Aj n f).getD i default]=[f i]:=by intro i hi;simp[Aj,List.getD_eq_getElem?_getD,hi]
theorem Ap {n:Nat}{z:PV}{ps:List PV}(h:ps=List.replicate n z):∀i,i<n->[ps.getD i default]=[z]:=by intro i hi;subst h;simp[List.getD_eq_getElem?_getD,hi]
theorem TW {n:Nat}{f g:Nat->PV}(h:∀i,i<n->[f i]=[g i]):Aj n f=Aj n g:=by unfold Aj;exact List.map_congr_left fun i hi=>by have:=h i (List.mem_range.1 hi);injection this
abbrev IY {α : Type}(f:Nat -> α)(k:Nat)(x : α):Nat -> α:=fun i=>if i=k then x else f i
theorem YQ {α : Type}{c : α -> PV}{n k:Nat}{v:Nat -> α}{f:Nat->PV}{e:PV}{x : α}(h:∀i,i<n->[f i]=[c (v i)])(hx:e=c x):∀i,i<n->[if i=k then e else f i]=[c (if i=k then x else v i)]:=by
 intro i hi;by_cases h1:i=k
 ·rw[if_pos h1,if_pos h1,hx]
 ·rw[if_neg h1,if_neg h1];exact h i hi
theorem app1H {α : Type}{c : α -> List PV}{n:Nat}{v:Sl α}{f g:Nat->List PV}{z : α}(h:∀i,i<n->f i=c (v.g i))(hn:n=v.n):∀i,i<n+1->i≠v.n->AW n f g i=c ((v.push z).g i):=by
 subst hn;intro i hi hne;have hl:i<v.n:=by omega
 show (if i<v.n then f i else g (i-v.n))=c (if i<v.n then v.g i else z);rw[if_pos hl,if_pos hl];exact h i hl
theorem setH {α : Type}{c : α -> List PV}{n k:Nat}{v:Sl α}{f e:Nat->List PV}{x : α}(h:∀i,i<n->i≠k->f i=c (v.g i))(hx:k<n->e k=c x):∀i,i<n->(fun l=>if l=k then e l else f l) i=c ((v.upd k x).g i):=by
 intro i hi;show (if i=k then e i else f i)=c (if i=k then x else v.g i);split
 ·subst_vars;exact hx hi
 ·exact h i hi ‹_›
end Go.AM
namespace Go.AM
section
variable {S:X1}{P:Program}{F:H6}{g:Cfg}{R X:Type}{A B:Option R}{r:R}{b:Bool}
theorem kI (hS:F4 S P)(h:(if b then A else B)=some r)(ht:A=some r->KG S P F (ZI (stp P g)))(hf:B=some r->KG S P F (ZJ (stp P g)))
 (hp:True=D0 (cnd P g):=by kernel_rfl) (hb:XH (stp P g)=some b:=by kernel_rfl):KG S P F g:=
 D3 hS trivial (fun c=>ht (itT c h)) (fun c=>hf (itF c h)) hp hb
theorem kG (hS:F4 S P)(h:(if b then A else B)=some r)(ht:A=some r->KG S P F (JD true (stp P g)))(hf:B=some r->KG S P F (JD false (stp P g)))
 (hp:True=D0 (cnd P g):=by kernel_rfl) (hb:SD (stp P g)=some b:=by kernel_rfl):KG S P F g:=
 EH hS trivial (fun c=>ht (itT c h)) (fun c=>hf (itF c h)) hp hb
theorem kR (hS:F4 S P){n:Nat}{rs:List ResultVar}{Q:Je->List Obj->List Bool->Prop}{a:AV}{objs:List Obj}(hQ:Q (.ret a) objs (Ee n []):=by exact⟨rfl,rfl,rfl⟩)
 (hp:True=D0 (cnd P g):=by kernel_rfl) (he:(ZM (stp P g)).bind (fun st=>QU P st rs [])=some (a,objs):=by kernel_rfl):KG S P (AX S P n rs Q) g:=
 VZ hS trivial [] hQ hp he
theorem kC (hS:F4 S P){x:Option X}{f:X->Option R}(h:x.bind f=some r){fn:FuncId}{args:List AV}{objs:List Obj}{objs' : X->List Obj}{rr:X->AV}{ks:List Bool}
 (hF:∀{y},x=some y->FunO S fn args objs (rr y) (objs' y) ks) (hk:∀y,f y=some r->KG S P F (XJ [] ks (rr y) (objs' y) (stp P g)))
 (hp:True=D0 (cnd P g):=by kernel_rfl) (he:TT [] (stp P g)=some (fn,args,objs):=by kernel_rfl) (hn:∀y,TU [] ks (objs' y).length (stp P g)=true:=by intro y;kernel_rfl):KG S P F g:=by
 obtain⟨y,e,h⟩:=B5 h;exact B4 hS [] trivial (hF e) (hk y h) hp he (hn y)
end
end Go.AM
namespace Go.AM
inductive BT where
 |l (b:Bool)
 |n (b:Bool) (t f:BT)
def BT.ev:BT->Bool
 |.l b=>b
 |.n b t f=>if b then t.ev else f.ev
inductive BE where
 |a (b:Bool)
 |n (x y:BE)
 |o (x y:BE)
def BE.den:BE->Bool
 |.a b=>b
 |.n x y=>x.den&&y.den
 |.o x y=>x.den||y.den
def BE.tr:BE->BT->BT->BT
 |.a b,t,f=>.n b t f
 |.n x y,t,f=>x.tr (y.tr t f) f
 |.o x y,t,f=>x.tr t (y.tr t f)
def BE.top:BE->BT
 |.a b=>.l b
 |.n x y=>x.tr y.top (.l false)
 |.o x y=>x.tr (.l true) y.top
theorem BE.tr_ev:∀(e:BE) (t f:BT),(e.tr t f).ev=if e.den then t.ev else f.ev
 |.a b,t,f=>rfl
 |.n x y,t,f=>by simp only[tr,den,x.tr_ev,y.tr_ev];by_cases h:x.den=true<;>simp[h]
 |.o x y,t,f=>by simp only[tr,den,x.tr_ev,y.tr_ev];by_cases h:x.den=true<;>simp[h]
theorem BE.top_ev:∀e:BE,e.top.ev=e.den
 |.a b=>rfl
 |.n x y=>by simp only[top,den,x.tr_ev,y.top_ev,BT.ev];by_cases h:x.den=true<;>simp[h]
 |.o x y=>by simp only[top,den,x.tr_ev,y.top_ev,BT.ev];by_cases h:x.den=true<;>simp[h]
def keeps:Op->Bool
 |.move _ | .assign _ | .pick .. | .load .. | .nilCheck _ | .binOp .. | .unOp .. | .convert .. | .fieldAddr .. | .field .. | .indexAddr .. | .index .. | .extract ..=>true
 |.call { callee:=.builtin .len,.. } | .call { callee:=.builtin .min,.. } | .call { callee:=.builtin .max,.. }=>true
 |_=>false
theorem TX {P:Program}{env:Env}{regs:C4}{d:Nat}{o:Op}{out:Out}(hk:keeps o=true)(h:aop P env regs d o=some out):out.regs=regs:=by unfold keeps at hk;split at hk<;>first|(cases hk;done)|(simp only[aop]at h;(repeat' split at h)<;>first|(cases h;rfl)|cases h)
theorem Mp {o:Op}(hk:keeps o=true):YC o=true:=by unfold keeps at hk;split at hk<;>first|cases hk;done|rfl
def XU:List Prop->List Prop
 |[]=>[]
 |c=>[D0 c]
def bgo (P:Program)(regs:C4)(o:Oper)(last:Bool)(rec:List Prop->Env->Option (BT×List Prop))(c:List Prop)(env:Env)(runs:Bool):Option (BT×List Prop):=match runs with
 |true=>match keeps o.op,o.dst with
  |true,some d=>match aop P env regs d o.op with
   |some ⟨p,v,_⟩=>match last with
    |true=>match Jf v with
     |some b=>some (.l b,XU (p++c))
     |none=>none
    |false=>fA v fun v=>Vj d v env fun env=>rec (p++c) env
   |none=>none
  |_,_=>none
 |false=>match last,o.dst with
  |false,some d=>Vj d Ak env fun env=>rec c env
  |_,_=>none
def bev (P:Program)(all:List Oper)(regs:C4):List Oper->List Prop->Env->Option (BT×List Prop)
 |[],_,_=>none
 |o::rest,c,env=>
  match o.guard with
  |none=>bgo P regs o rest.isEmpty (fun c env=>bev P all regs rest c env) c env true
  |some (j,want)=>match get env (Ep all j)with
   |.p (.v (.bool b))=>bgo P regs o rest.isEmpty (fun c env=>bev P all regs rest c env) c env (b==want)
   |.p (.v (.tuple _))=>bgo P regs o rest.isEmpty (fun c env=>bev P all regs rest c env) c env false
   |.p (.bb b)=>match Vj (Ep all j) (.p (.v (.bool true))) env fun env=>bgo P regs o rest.isEmpty (fun c env=>bev P all regs rest c env) [] env want,
    Vj (Ep all j) (.p (.v (.bool false))) env fun env=>bgo P regs o rest.isEmpty (fun c env=>bev P all regs rest c env) [] env !want with
    |some (t,ct),some (f,cf)=>some (.n b t f,XU c++(ct.map (fun p=>b=true->p)++cf.map (fun p=>b=false->p)))
    |_,_=>none
   |_=>none
def UV (l:List Oper):List Nat:=l.filterMap (·.dst)
def ZW (ks:List Nat)(env:Env):Env:=env.filter fun q=>!ks.contains q.1
theorem SQ (ks:List Nat)(env:Env)(x:Nat):get (ZW ks env) x=if x∈ks then .top else get env x:=by
 induction env with
 |nil=>simp[ZW,get]
 |cons q r ih=>
  obtain⟨i,a⟩:=q;simp only[ZW,List.filter_cons];by_cases hi:i∈ks
  ·rw[if_neg (by simpa using hi)]
   have:=ih
   simp only[ZW]at this;rw[this];by_cases hx:x∈ks
   ·simp[hx]
   ·have:i≠x:=fun e=>hx (e ▸ hi)
    simp[hx,get,this]
  ·rw[if_pos (by simpa using hi)];simp only[get]
   have:=ih
   simp only[ZW]at this;rw[this];by_cases hx:i=x
   ·subst hx;simp[hi]
   ·simp[hx]
def QY:List Oper->Option Nat
 |[]=>none
 |[o]=>o.dst
 |_::r=>QY r
section
variable {S:X1}{P:Program}
theorem Mq {c:List Prop}(h:∀p∈XU c,p):D0 c:=by
 cases c with
 |nil=>trivial
 |cons p r=>exact h _ (by simp[XU])
theorem Ah2 (hS:F4 S P){all:List Oper}{regs:C4}{Q:H6}{post:List Oper}{envF:Env}{V:Bool}{d:Nat}(hQ:∀s,S.up s (Ht S P all post Q)->Ht S P all post Q s)(hV:get envF d=.p (.bb V))
 (hw:Ht S P all post Q ⟨envF,regs⟩) :
 ∀(L:List Oper) (c:List Prop) (env:Env) (T:BT) (C:List Prop),bev P all regs L c env=some (T,C)->(∀p∈C,p)->T.ev=V->QY L=some d ->
  (∀x,x≠d->MR (get envF x) (get env x) \/ (x∈UV L/\get envF x=.top))->(∀x∈UV L,x≠d->get envF x=.top)->D0 c/\Ht S P all (L++post) Q ⟨env,regs⟩:=by
 intro L
 induction L with
 |nil=>intro c env T C h;cases h
 |cons o rest ih=>
  intro c env T C h hC hT hd hl ht;simp only[bev,FX]at h;have key:∀(c:List Prop) (env:Env) (runs:Bool) (T:BT) (C:List Prop),bgo P regs o rest.isEmpty (fun c env=>bev P all regs rest c env) c env runs=some (T,C)->(∀p∈C,p)->T.ev=V ->
   (∀x,x≠d->MR (get envF x) (get env x) \/ (x∈UV (o::rest)/\get envF x=.top)) ->
   D0 c/\(if runs then wOp S P o (Ht S P all (rest++post) Q) Q ⟨env,regs⟩else Ht S P all (rest++post) Q (put ⟨env,regs⟩ o.dst Ak)):=by
   intro c env runs T C h hC hT hl;have hlast:rest.isEmpty=false->QY rest=some d:=by
    intro hr;cases rest with
    |nil=>cases hr
    |cons a r=>simpa[QY]using hd
   have hds:∀{d'},o.dst=some d' -> UV (o::rest)=d' :: UV rest:=fun ho=>by simp[UV,ho]
   have hnext:∀d' (v:AV),o.dst=some d' -> ∀x,x≠d->MR (get envF x) (get (ins d' v env) x) \/ (x∈UV rest/\get envF x=.top):=by
    intro d' v ho x hx;rw[BG];by_cases hx2:d' = x
    ·subst hx2;exact .inl (.inl (ht _ (by rw[hds ho];exact List.mem_cons_self ..) hx))
    ·rw[if_neg hx2];rcases hl x hx with h|⟨h1,h2⟩
     ·exact .inl h
     ·exact .inl (.inl h2)
   cases runs with
   |true=>
    simp only[bgo,Tp,FX,if_true]at h⊢;split at h
    ·rename_i d' hk ho;split at h
     ·rename_i p v regs' ha;have hr:regs' = regs:=TX hk ha;subst hr;have ha' : aop P env regs' (o.dst.getD 0) o.op=some ⟨p,v,regs'⟩:=by rw[ho];exact ha
      split at h
      ·rename_i hre;split at h
       ·rename_i b hb;cases h;have hcp:=Mq hC;obtain⟨hc,hp⟩:=(BX _ _).1 hcp;refine⟨hc,IS (Mp hk) ha' hp ?_⟩;obtain rfl:rest=[]:=List.isEmpty_iff.1 hre;simp only[QY]at hd;have e:d' = d:=by rw[ho]at hd;exact Option.some.inj hd
        subst e;refine hQ _ (hS.less _ ⟨envF,regs'⟩ _ (fun x=>?_) (fun _=>by rw[ho];rfl) (by simpa using hw));rw[ho];show MR (get envF x) (get (ins d' v env) x);rw[BG];by_cases hx:d' = x
        ·subst hx;rw[if_pos rfl,hV];have hT:b=V:=hT;subst hT;unfold Jf at hb;split at hb
         ·cases hb;exact .inr (.inr ⟨_,rfl,rfl⟩)
         ·cases hb;exact .inr (.inl rfl)
         ·cases hb
        ·rw[if_neg hx];rcases hl x (fun e=>hx e.symm)with h|⟨_,h⟩
         ·exact h
         ·exact .inl h
       ·cases h
      ·rename_i hre;have hn:∀x,x≠d->MR (get envF x) (get (ins d' v env) x) \/ (x∈UV rest/\get envF x=.top):=hnext d' v ho;obtain⟨hcp,hk2⟩:=ih _ _ _ _ h hC hT (hlast (by simpa using hre)) hn (fun x hx=>ht x (by rw[hds ho];exact List.mem_cons_of_mem _ hx));obtain⟨hc,hp⟩:=(BX _ _).1 hcp;exact⟨hc,IS (Mp hk) ha' hp (by rw[ho];exact hk2)⟩
     ·cases h
    ·cases h
   |false=>
    simp only[bgo,FX,Bool.false_eq_true,if_false]at h⊢;split at h
    ·rename_i d' hre ho;have hn:∀x,x≠d->MR (get envF x) (get (ins d' Ak env) x) \/ (x∈UV rest/\get envF x=.top):=hnext d' _ ho;obtain⟨hc,hk2⟩:=ih _ _ _ _ h hC hT (hlast (by simpa using hre)) hn (fun x hx=>ht x (by rw[hds ho];exact List.mem_cons_of_mem _ hx));exact⟨hc,by rw[ho];exact hk2⟩
    ·cases h
  simp only[List.cons_append,Ht];cases hg:o.guard with
  |none=>simp only[hg]at h;obtain⟨hc,hk⟩:=key _ _ _ _ _ h hC hT hl;exact⟨hc,hS.refl _ _ (by simpa[hg]using hk)⟩
  |some q=>
   obtain⟨j,want⟩:=q;simp only[hg]at h;split at h
   ·rename_i b hb;obtain⟨hc,hk⟩:=key _ _ _ _ _ h hC hT hl;refine⟨hc,hS.refl _ _ ⟨some b,by rw[hb];rfl,?_⟩⟩;have e:(some b=some want)↔(b==want)=true:=by simp
    by_cases hbw:(b==want)=true
    ·rw[if_pos (e.2 hbw)];simpa[hbw]using hk
    ·rw[if_neg (fun x=>hbw (e.1 x))];simpa[hbw]using hk
   ·rename_i tt hb;obtain⟨hc,hk⟩:=key _ _ _ _ _ h hC hT hl;refine⟨hc,hS.refl _ _ ⟨none,by rw[hb];rfl,?_⟩⟩;rw[if_neg (by simp)];simpa using hk
   ·rename_i b hb;split at h
    ·rename_i t ct f cf h1 h2;cases h;have hc:D0 c:=Mq fun p hp=>hC p (List.mem_append_left _ hp);refine⟨hc,hS.bool _ _ b _ hb ?_⟩;have hl2:∀x,x≠d->MR (get envF x) (get (ins (Ep all j) (.p (.v (.bool b))) env) x) \/ (x∈UV (o::rest)/\get envF x=.top):=by
      intro x hx;rw[BG];by_cases hx2:Ep all j=x
      ·subst hx2;rw[if_pos rfl];rcases hl _ hx with h|h
       ·rw[hb]at h;rcases h with h|h|⟨y,h1,h2⟩
        ·exact .inl (.inl h)
        ·exact .inl (.inr (.inr ⟨b,h,rfl⟩))
        ·cases h2
       ·exact .inr h
      ·rw[if_neg hx2];exact hl x hx
     cases b with
     |true=>
      obtain⟨_,hk⟩:=key _ _ _ _ _ h1 (fun p hp=>hC (true=true->p) (List.mem_append_right _ (List.mem_append_left _ (List.mem_map.2 ⟨p,hp,rfl⟩))) rfl) hT hl2;refine⟨some true,by show yv (get (ins _ _ _) _)=_;rw[BG,if_pos rfl];rfl,?_⟩;cases want with
      |true=>simpa using hk
      |false=>simpa using hk
     |false=>
      obtain⟨_,hk⟩:=key _ _ _ _ _ h2 (fun p hp=>hC (false=false->p) (List.mem_append_right _ (List.mem_append_right _ (List.mem_map.2 ⟨p,hp,rfl⟩))) rfl) hT hl2;refine⟨some false,by show yv (get (ins _ _ _) _)=_;rw[BG,if_pos rfl];rfl,?_⟩;cases want with
      |true=>simpa using hk
      |false=>simpa using hk
    ·cases h
   ·cases h
end
def ZX (P:Program)(m:Nat):Cfg->Option (BT×List Prop)
 |.ops all rest K st=>bev P all st.regs (rest.take m) [] st.env
 |_=>none
def Ah3 (m:Nat)(b:Bool):Cfg->Cfg
 |.ops all rest K st=>match QY (rest.take m)with
  |some d=>mkO (ins d (.p (.bb b)) (ZW (UV (rest.take m)) st.env)) st.regs fun env regs=>.ops all (rest.drop m) K ⟨env,regs⟩
  |none=>.ops all rest K st
 |g=>g
def Ah4 (m:Nat):Cfg->Bool
 |.ops all rest K st=>(QY (rest.take m)).isSome
 |_=>false
def Ah5:List Prop->Prop
 |[]=>True
 |p::r=>r.foldl And p
theorem XV {l:List Prop}(h:Ah5 l):∀p∈l,p:=by
 have:∀(r:List Prop) (p:Prop),r.foldl And p->p/\∀q∈r,q:=by
  intro r
  induction r with
  |nil=>intro p h;exact⟨h,fun q hq=>by cases hq⟩
  |cons a r ih=>intro p h;obtain⟨⟨h1,h2⟩,h3⟩:=ih _ h;exact⟨h1,fun q hq=>by rcases List.mem_cons.1 hq with rfl|hq;exact h2;exact h3 q hq⟩
 cases l with
 |nil=>intro p hp;cases hp
 |cons a r=>obtain⟨h1,h2⟩:=this _ _ h;exact fun q hq=>by rcases List.mem_cons.1 hq with rfl|hq;exact h1;exact h2 q hq
section
variable {S:X1}{P:Program}{F:H6}{g:Cfg}{pr pc:Prop}
theorem kB (hS:F4 S P)(hF:∀s,S.up s (F .normal)->F .normal s)(hc:pr)(hcc:pc)(m:Nat)(E:BE)(hk:KG S P F (Ah3 m E.den (stp P g)))
 (hp:pr=D0 (cnd P g):=by kernel_rfl) (hT:(ZX P m (stp P g)).map (·.1)=some E.top:=by kernel_rfl) (hC:(ZX P m (stp P g)).map (fun x=>Ah5 x.2)=some pc:=by kernel_rfl) (hD:Ah4 m (stp P g)=true:=by kernel_rfl):KG S P F g:=by
 refine⟨Er hS hc ?_ hp⟩;have hk:=hk.out;generalize stp P g=g' at hk hT hC hD;unfold ZX at hT hC;split at hT
 ·rename_i all rest K st;simp only[Ah4,Option.isSome_iff_exists]at hD;obtain⟨d,hd⟩:=hD;simp only[Ah3,hd,Dn]at hk;cases hb:bev P all st.regs (rest.take m) [] st.env with
  |none=>rw[hb]at hT;cases hT
  |some q=>
   obtain⟨T,C⟩:=q;simp only[hb]at hT hC;simp only[Option.map_some,Option.some.injEq]at hT hC;subst hT
   have:=(Ah2 hS (Q:=kp S P K F) (post:=rest.drop m) (envF:=ins d (.p (.bb E.den)) (ZW (UV (rest.take m)) st.env)) (V:=E.den) (d:=d) ?_ (by rw[BG,if_pos rfl]) hk (rest.take m) [] st.env E.top C hb
    (XV (hC ▸ hcc)) E.top_ev hd (fun x hx=>?_) (fun x hx hxd=>?_)).2
   ·rwa [List.take_append_drop]at this
   ·intro s h;cases hr:rest.drop m with
    |nil=>rw[hr]at h;exact XF hS hF K s h
    |cons o r=>rw[hr]at h;exact hS.trans _ _ h
   ·rw[BG,if_neg (fun e=>hx e.symm),SQ];split
    ·exact .inl (.inl rfl)
    ·exact .inl (.inr (.inl rfl))
   ·rw[BG,if_neg (fun e=>hxd e.symm),SQ,if_pos hx]
 ·cases hT
end
end Go.AM
namespace Go.AM
def famC (op:To):Cfg->List Prop
 |.ops _ _ _ st=>match Y7 op st with
  |some (c,_)=>c
  |none=>[False]
 |_=>[False]
def famG (op:To):Cfg->Cfg
 |.ops all rest K st=>match Y7 op st with
  |some (_,st)=>mkO st.env st.regs fun env regs=>.ops all rest K ⟨env,regs⟩
  |none=>.ops all rest K st
 |g=>g
section
variable {S:X1}{P:Program}{F:H6}{g:Cfg}{pr pc:Prop}
theorem SR (hS:F4 S P)(hc:pr)(d:Nat)(op:To)(hcc:pc)(hk:KG S P F (famG op (EF P d g)))(hp:pr=D0 (Ac6 P d g):=by kernel_rfl)(ho:EG (EF P d g)=true:=by kernel_rfl)
 (hpc:pc=D0 (famC op (EF P d g)):=by kernel_rfl):KG S P F g:=by
 refine⟨(Ex (u:=some d) (F:=F) hS 400 [] g (by subst hp;exact hc)).2 ?_⟩;have hk:=hk.out;show G S P F (EF P d g);generalize EF P d g=g' at ho hpc hk;unfold EG at ho;split at ho
 ·rename_i all o rest K st;simp only[famC]at hpc;simp only[famG]at hk;cases he:Y7 op st with
  |none=>rw[he]at hpc;subst hpc;exact hcc.elim
  |some q=>obtain⟨c,st'⟩:=q;simp only[he,Dn]at hk hpc;subst hpc;exact OE hS (hS.fam op _ _ c _ he hcc hk)
 ·cases ho
end
def Ah6 (j n:Nat)(f:Nat->PV):Cfg->Cfg
 |.ops all rest K st=>mkO (US j (Aj n f) st.env) (ins j .dead st.regs) fun env regs=>.ops all rest K ⟨env,regs⟩
 |g=>g
theorem Ah7 {S:X1}{P:Program}{F:H6}{g:Cfg}{pr:Prop}(hS:F4 S P)(hc:pr)(d j n:Nat)(f:Nat->PV)(hk:KG S P F (Ah6 j n f (EF P d g)))(hp:pr=D0 (Ac6 P d g):=by kernel_rfl)
 (ho:EG (EF P d g)=true:=by kernel_rfl) (hr:A1 (EF P d g).st.regs j=some (.arr n f):=by kernel_rfl):KG S P F g:=by
 refine⟨(Ex (u:=some d) (F:=F) hS 400 [] g (by subst hp;exact hc)).2 ?_⟩;have hk:=hk.out;show G S P F (EF P d g);generalize EF P d g=g1 at hk ho hr;unfold EG at ho;split at ho
 ·rename_i all o rest K st;simp only[Ah6,Dn]at hk;have h3:S.up ⟨US j (Aj n f) st.env,ins j .dead (ins j (.cells (Vf n f)) st.regs)⟩ (fun t=>G S P F (.ops all (o::rest) K t)):=
   hS.eqv _ ⟨_,ins j .dead st.regs⟩ _ (fun _=>rfl) (fun i=>by simp only[EC];split<;>rfl) hk
  refine OE hS (hS.trans _ _ (hS.ofArr _ j n f _ hr (hS.trans _ _ (hS.frz ⟨st.env,_⟩ j (Aj n f) _ ?_ h3))));show A1 (ins j _ _) j=_;rw[EC,if_pos rfl,Vf,Aj,List.map_map];rfl
 ·cases ho
def Ah8 (j k n:Nat)(e:TypeId)(g:Nat->List PV)(vw:Bool):Cfg->Cfg
 |.ops all rest K st=>mkO st.env (ins j (.vec e k n g vw) st.regs) fun env regs=>.ops all rest K ⟨env,regs⟩
 |g=>g
theorem ZY {S:X1}{P:Program}{F:H6}{g:Cfg}{pr:Prop}(hS:F4 S P)(hc:pr)(d j:Nat){k n:Nat}{e:TypeId}{vw:Bool}(f q:Nat->List PV)(hq:∀i,i<n->leC (f i) (q i))(hk:KG S P F (Ah8 j k n e q vw (EF P d g)))
 (hp:pr=D0 (Ac6 P d g):=by kernel_rfl) (ho:EG (EF P d g)=true:=by kernel_rfl) (hr:A1 (EF P d g).st.regs j=some (.vec e k n f vw):=by kernel_rfl):KG S P F g:=by
 refine⟨(Ex (u:=some d) (F:=F) hS 400 [] g (by subst hp;exact hc)).2 ?_⟩;have hk:=hk.out;show G S P F (EF P d g);generalize EF P d g=g1 at hk ho hr;unfold EG at ho;split at ho
 ·simp only[Ah8,Dn]at hk;exact OE hS (hS.vecq _ j n k e f q vw _ hr hq hk)
 ·cases ho
theorem leCn {k:Nat}{g:Nat->List PV}:leC [.v (.slice none 0 0)] [.sl false k 0 g]:=⟨rfl,fun j=>by
 cases j with
 |zero=>exact .inr (.inr (.inl ⟨_,_,rfl,rfl⟩))
 |succ j=>exact .inl rfl⟩
theorem leCr (l:List PV):leC l l:=⟨rfl,fun _=>.inl rfl⟩
theorem arrG {n:Nat}(f:Nat->PV){i:Nat}(hi:i<n):[(Aj n f).getD i default]=[f i]:=C9 n f i hi
end Go.AM
namespace Go.AM
theorem Pt {P:Program}{f:FuncId}{vw:Bool}{args:List PV}{e:TypeId}{k n:Nat}{g:Nat->List PV}(hent:∀as w,(callFunc f as).run P w=.ok (.enter f as) w)(hk:∀i,i<n->(g i).length=k)
 (h:∀(w:World) (Pi:Nat->Nat->Prop) (vs:Array Value),(∀b off,Pi b off->b<w.heap.size)->vs.size=args.length->(∀i,i<args.length->RepP w Pi (vs.getD i undef) (args.getD i default)) ->
  Calls P f vs w fun x w'=>∃v,x=.returned v/\RowKit.Below w.heap.size w w' /\ ((v=.slice none 0 0/\n=0) \/ ∃b cap c,v=.slice (some ⟨b,0,none⟩) n cap/\w.heap.size<=b/\w'.heap[b]? = some (.cells c e (0,0))/\n<=cap/\c.size=cap*k/\cap<=maxLen /\
   ∀i j,i<n->j<k->RepP w Pi (c.getD (i*k+j) undef) ((g i).getD j default)/\(c.getD (i*k+j) undef).oneCell' = true)):FunO (Ft P) f (args.map .p) [] (.vec 0) [.vec e k n g vw] []:=by
 intro 𝒢 C w vs rho hG hs hsz;have hno0:∀j,A1 (objRegs []) j=none:=fun j=>by simp[objRegs,objRegs.go,A1]
 have h0:=h w (Prv C.X (A1 (objRegs [])) rho) vs (fun b off hp=>by
  rcases hp with hp|⟨j,o,hj,_⟩
  ·exact hs.hp.bound b off hp
  ·simp[hno0]at hj) (by simpa using hsz) (fun i hi=>by
  have:=hs.env i
  rw[Ab]at this;have e:(args.map AV.p).getD i .top=.p (args.getD i default):=by simp[hi]
  rw[e]at this;exact this.toP)
 refine⟨_,_,hent _ _,callsIn_wide.2 (h0.mono ?_)⟩;rintro x w' ⟨v,rfl,hb,hv⟩;have hR:∀j o,A1 (objRegs [Obj.vec e k n g vw]) j=some o->j=0/\o=.vec e k n g vw:=fun j o hj=>by
  simp only[objRegs,objRegs.go,A1]at hj;split at hj
  ·rename_i hj0;cases hj;exact⟨hj0.symm,rfl⟩
  ·cases hj
 have hR0:A1 (objRegs [Obj.vec e k n g vw]) 0=some (.vec e k n g vw):=rfl
 let rho' : Nat->Value:=fun j=>if j=0 then v else rho j
 have hr0:rho' 0=v:=rfl;have hblk:∀b,D8 v (.vec e k n g vw) b->w.heap.size<=b/\b<w'.heap.size:=by
  intro b hbv;rcases hv with⟨rfl,_⟩ | ⟨b',cap,c,rfl,h1,h2,_⟩
  ·cases hbv
  ·cases hbv;exact⟨h1,(Array.getElem?_eq_some_iff.1 h2).1⟩
 have hprv:∀b o,Prv C.X (A1 (objRegs [Obj.vec e k n g vw])) rho' b o->C.X b o \/ w.heap.size<=b:=by
  rintro b o (hX|⟨j,o',hj,hbo,_⟩)
  ·exact .inl hX
  ·obtain⟨rfl,rfl⟩:=hR j o' hj;exact .inr (hblk b hbo).1
 have hkeep:Keeps w (Prv C.X (A1 (objRegs [])) rho) w' (Prv C.X (A1 (objRegs [Obj.vec e k n g vw])) rho'):=fun b o u hp hc=>by
  have hlt:=World.block_lt_of_cell? w ⟨b,o,none⟩ hc;refine⟨by rw[<- hc];exact World.cell?_of_block (hb.block b hlt),fun hpp=>?_⟩;rcases hprv b o hpp with hX|hge
  ·exact hp (.inl hX)
  ·have:b<w.heap.size:=hlt
   omega
 refine⟨C,.ret (.vec 0),[.vec e k n g vw],[],rho',hG,⟨rfl,rfl,rfl⟩,?_,⟨v,rfl,?_⟩,fun i hi=>by simp at hi⟩
 ·refine⟨⟨fun j o hj=>?_,fun i j oi oj b hi hj _ _=>by rw[(hR i oi hi).1,(hR j oj hj).1],fun j o b off hj hbo hX=>?_,fun b off hp=>Nat.lt_of_lt_of_le (hs.hp.bound b off hp) hb.size⟩,hs.ext.trans ⟨hb.os,hb.output⟩,Nat.le_trans hs.size hb.size,fun b hlt hE=>?_,hs.keep.trans hkeep,fun b hbo=>?_,fun j r b hj=>by cases (hR j _ hj).2⟩
  ·obtain⟨rfl,rfl⟩:=hR j o hj;rw[hr0];rcases hv with hn|⟨b,cap,c,rfl,h1,h2,h3,h4,h5,h6⟩
   ·exact .inl hn
   ·exact .inr ⟨b,cap,c,rfl,h2,h3,h4,h5,hk,fun i j hi hj=>⟨(h6 i j hi hj).1.keeps hkeep,(h6 i j hi hj).2⟩⟩
  ·obtain⟨rfl,rfl⟩:=hR j o hj;have h1:=(hblk b hbo).1;have h2:=hs.hp.bound b off hX;omega
  ·rw[hb.block b (Nat.lt_of_lt_of_le hlt hs.size)];exact hs.same b hlt hE
  ·obtain⟨j,o,hj,hbo⟩:=hbo;obtain⟨rfl,rfl⟩:=hR j o hj;exact .inr (Nat.le_trans hs.size (hblk b hbo).1)
 ·rcases hv with⟨rfl,_⟩ | ⟨b,cap,c,rfl,_⟩
  ·exact .vec 0 none 0 0 (by simp[Lv,hR0]) rfl
  ·exact .vec 0 _ n cap (by simp[Lv,hR0]) rfl
end Go.AM
namespace Go.AM
open Go.RowKit Go.ChangeShapes
end Go.AM
namespace Go.AM
section
variable {S:X1}{P:Program}{F:H6}{K:List It}{st:St}{g:Cfg}{pr:Prop}
def ZZ (p:Option PV)(r:Je):Prop:=match p with
 |none=>∃a,r=.ret a
 |some x=>r=.panic x
def JI (S:X1)(f:FuncId)(first caps:List AV)(objs:List Obj)(L:List (List PV))(p:Option PV):Prop:=
 S.F f (first ++ .yf objs.length::caps) (objs++[.yld L true]) fun r objs' ks=>∃b,objs'[objs.length]? = some (.yld [] b)/\ks[objs.length]? = some true/\(b=true->ZZ p r)/\(b=false->∃a,r=.ret a)
def endP:Option PV->Jd
 |none=>.normal
 |some x=>.panic x
theorem XW (hS:F4 S P){g:Operand}{ps:Array Tmp}{asg body:Code}{f:FuncId}{first caps as bs:List AV}{objs:List Obj}(ids ts:List Nat)(gh:Nat)(L:List (List PV)){p:Option PV}{X:Type}(s:X->St)(J:List (List PV)->X->Prop)(x0:X)(idl:List (Nat×Nat))
 (hp:CF st.env g=some (f,first,caps)) (hfn:∃fn,P.funcs[f]? = some fn/\fn.body.isSome=true/\(fn.name == "runtime.NumGoroutine")=false) (hob:H8 ids st.regs ids=some objs) (hny:Df objs=true) (hd:F0 ids=true) (hr1:BN ids first=some as) (hr2:BN ids caps=some bs) (hol:objs.length=ids.length)
 (hgh:gh<1000) (hng:A1 st.regs gh=none) (hil:ids.length<1000) (hts:F0 ts=true) (hlen:∀ys∈L,ys.length=ps.size)
 (hF:JI S f as bs objs L p) (hle:Le idl ⟨R8 ts (ts.map (get st.env)),K9 ids (ids.map fun _=>false) st.regs⟩ (s x0)) (h0:J L x0) (hk:∀x,(s x).env.map (·.1)=ts) (hn:∀x,A1 (s x).regs gh=none)
 (hround:∀ys rest x,J (ys::rest) x->G S P (An S P body gh ts (XC s J rest) (kp S P K F)) (.code asg [] ⟨Gx ps.toList ys (s x).env,ins gh (.ghost ((s x).env.map (·.2))) (s x).regs⟩))
 (hend:∀x,J [] x->G S P F (.pop (endP p) K (s x))):G S P F (.code (.rangeFunc g ps asg body) K st):=by
 have hdup:∀{l:List Nat},F0 l=true->l.Nodup:=by
  intro l
  induction l with
  |nil=>intro _;exact List.nodup_nil
  |cons a r ih=>intro h;simp only[F0,Bool.and_eq_true,Bool.not_eq_true',List.contains_eq_mem,decide_eq_false_iff_not]at h;exact List.nodup_cons.2 ⟨h.1,ih h.2⟩
 refine⟨f,first,caps,as,bs,objs,ids,ts,gh,L,XC s J,fun b r=>b=true->ZZ p r,hp,hfn,hny,hd,hr1,hr2,hob,hgh,hng,hil,hdup hts,hlen,hS.le idl _ _ _ hle ⟨hk x0,hn x0,x0,rfl,h0⟩,?_,?_,?_⟩
 ·rintro ys rest _ _ _ ⟨x,rfl,hJ⟩;have h:=hround ys rest x hJ;have e:An S P body gh ts (XC s J rest) (kp S P K F)=fun e s'=>match e with
   |.normal=>S.up s' fun s'=>awp S P body (CH S gh ts (XC s J rest) (kp S P K F)) s'
   |_=>False:=by funext e s';cases e<;>rfl
  rw[e]at h;exact h
 ·rintro _ r _ _ ⟨x,rfl,hJ⟩ hf;have h1:=hf rfl;have h2:=hend x hJ;cases p with
  |none=>obtain⟨a,rfl⟩:=h1;exact h2
  |some y=>cases h1;exact h2
 ·rw[<- hol];refine hS.monoF _ _ _ _ _ ?_ hF;rintro r o ks ⟨b,h1,h2,h3,h4⟩;exact⟨b,h1,h2,h3,h4⟩
theorem XX (hS:F4 S P){g:Operand}{ps:Array Tmp}{asg body:Code}{f:FuncId}{first caps as bs:List AV}{objs:List Obj}{R T A:Type}{enc:T->List PV}{L:List T}{p:Option PV}{mb:(A->Option R)->T->A->Option R}{mk:A->Option R}{a0:A}{r:R}
 (ids ts:List Nat) (gh:Nat) (s:A->St) (idl:List (Nat×Nat)) (h:Y9 L mb mk a0=some r) (hF:JI S f as bs objs (L.map enc) p)
 (hp:CF st.env g=some (f,first,caps)) (hfn:∃fn,P.funcs[f]? = some fn/\fn.body.isSome=true/\(fn.name == "runtime.NumGoroutine")=false) (hob:H8 ids st.regs ids=some objs) (hny:Df objs=true) (hd:F0 ids=true) (hr1:BN ids first=some as) (hr2:BN ids caps=some bs) (hol:objs.length=ids.length)
 (hgh:Nat.blt gh 1000=true) (hng:A1 st.regs gh=none) (hil:Nat.blt ids.length 1000=true) (hts:F0 ts=true) (hlen:∀t:T,(enc t).length=ps.size)
 (hle:Le idl ⟨R8 ts (ts.map (get st.env)),K9 ids (ids.map fun _=>false) st.regs⟩ (s a0)) (hk:∀a,(s a).env.map (·.1)=ts) (hn:∀a,A1 (s a).regs gh=none)
 (hround:∀(t:T) (next:St->Prop) (self:A->Option R) (a:A),(∀(st st1:St) (cs:List AV) (idl:List (Nat×Nat)) (a:A),Le idl st st1->A1 st1.regs gh=some (.ghost cs)->cs.length=ts.length->A1 (del gh st1.regs) gh=none->(⟨R8 ts cs,del gh st1.regs⟩:St)=s a->self a=some r->G S P (CH S gh ts next (kp S P K F)) (.pop .normal [] st)) ->
  mb self t a=some r->G S P (An S P body gh ts next (kp S P K F)) (.code asg [] ⟨Gx ps.toList (enc t) (s a).env,ins gh (.ghost ((s a).env.map (·.2))) (s a).regs⟩))
 (hend:∀a,mk a=some r->G S P F (.pop (endP p) K (s a))):G S P F (.code (.rangeFunc g ps asg body) K st):=by
 refine XW hS ids ts gh (L.map enc) s (fun rest a=>∃L',rest=L'.map enc/\Y9 L' mb mk a=some r) a0 idl hp hfn hob hny hd hr1 hr2 hol (by simpa[Nat.blt_eq]using hgh) hng (by simpa[Nat.blt_eq]using hil) hts (fun ys hy=>?_) hF hle ⟨L,rfl,h⟩ hk hn ?_ ?_
 ·obtain⟨t,_,rfl⟩:=List.mem_map.1 hy;exact hlen t
 ·rintro ys rest a ⟨L',hL,hx⟩;cases L' with
  |nil=>cases hL
  |cons t L'=>simp only[List.map_cons,List.cons.injEq]at hL;obtain⟨rfl,rfl⟩:=hL;refine hround t _ (Y9 L' mb mk) a (fun st st1 cs idl a hle h1 h2 h3 h4 h5=>?_) hx;exact QO hS st1 a idl hle h1 h2 h3 h4 ⟨L',rfl,h5⟩
 ·rintro a ⟨L',hL,hx⟩;cases L' with
  |nil=>exact hend a hx
  |cons t L'=>cases hL
theorem SS (hS:F4 S P)(hc:pr){f:FuncId}{as bs:List AV}{objs:List Obj}{R T A:Type}{enc:T->List PV}{L:List T}{p:Option PV}{mb:(A->Option R)->T->A->Option R}{mk:A->Option R}{a0:A}{r:R}
 (ids ts:List Nat) (gh:Nat) (s:A->St) {idl:List (Nat×Nat)}(h:Y9 L mb mk a0=some r) (hF:JI S f as bs objs (L.map enc) p)
 (hlen:∀t:T,(enc t).length=(FC (stp P g)).size) (hk:∀a,(s a).env.map (·.1)=ts) (hn:∀a,A1 (s a).regs gh=none) (hb0:∀a,(⟨R8 ts ((s a).env.map (·.2)),del gh (ins gh (.ghost ((s a).env.map (·.2))) (s a).regs)⟩:St)=s a)
 (hround:∀(t:T) (next:St->Prop) (self:A->Option R) (a:A),
  (∀(g' : Cfg) (ids:List (Nat×Nat)) (pr:Prop) (a:A),pr->self a=some r->(hp:pr=D0 (cnd P g'):=by kernel_rfl)->(he:stp P g' = .pop .normal [] (stp P g').st:=by kernel_rfl)->(hle:KLe ids (stp P g').st (rst gh (s a)):=by exact kl)->KG S P (CH S gh ts next (kp S P (stp P g).k F)) g') ->
  mb self t a=some r->KG S P (An S P (Pq (stp P g)) gh ts next (kp S P (stp P g).k F)) (.code (Pp (stp P g)) [] (Ps gh (FC (stp P g)) (enc t) (s a))))
 (hend:∀a,mk a=some r->KG S P F (.pop (endP p) (stp P g).k (s a)))
 (hp:pr=D0 (cnd P g):=by kernel_rfl) (he:Po P ids (stp P g)=some (f,as,bs,objs):=by kernel_rfl) (hgh:Nat.blt gh 1000=true:=by kernel_rfl) (hng:A1 (stp P g).st.regs gh=none:=by kernel_rfl) (hts:F0 ts=true:=by kernel_rfl)
 (hle:KLe idl (Pr ids ts (stp P g)) (s a0):=by exact kl):KG S P F g:=by
 refine⟨Er hS hc ?_ hp⟩;have hfn:=(Fn he).2;replace he:=(Fn he).1;generalize stp P g=g1 at hlen hround hend he hng hle;unfold JH at he;split at he
 ·rename_i op ps asg body K st;split at he
  ·rename_i f' first caps hpo
   split at he
   ·rename_i objs' as' bs' h2 h3 h4;split at he
    ·rename_i hh;simp only[Option.some.injEq,Prod.mk.injEq]at he;obtain⟨rfl,rfl,rfl,rfl⟩:=he;simp only[Bool.and_eq_true,Bool.not_eq_true',beq_iff_eq]at hh;obtain⟨⟨⟨e3,e4⟩,e5⟩,e6⟩:=hh;refine XX hS ids ts gh s idl h hF hpo hfn h2 e3 e4 h3 h4 e5 hgh hng e6 hts hlen hle.out hk hn (fun t next self a hb hm=>?_) (fun a hm=>(hend a hm).out);refine (hround t next self a (fun g' ids' pr a hc hself hp he hle=>⟨Er hS hc ?_ hp⟩) hm).out;rw[he];have hl:((s a).env.map (·.2)).length=ts.length:=by rw[<- hk a];simp
     refine hb _ (rst gh (s a)) ((s a).env.map fun p=>p.2) ids' a hle.out (EJ gh (s a)) hl ?_ (hb0 a) hself
     have:=congrArg St.regs (hb0 a)
     simp only at this;show A1 (del gh (ins gh _ _)) gh=none;rw[this];exact hn a
    ·cases he
   ·cases he
  ·cases he
 ·cases he
theorem We (hS:F4 S P){f:FuncId}{fn:Func}{first caps:List AV}{objs:List Obj}{L:List (List PV)}{p:Option PV}(hf:P.funcs[f]? = some fn)
 (h:KG S P (AX S P (objs++[Obj.yld L true]).length fn.results.toList fun r objs' ks=>∃b,objs'[objs.length]? = some (.yld [] b)/\ks[objs.length]? = some true/\(b=true->ZZ p r)/\(b=false->∃a,r=.ret a)) (.code (fn.body.getD .skip) [] { env:=argEnv (first ++ .yf objs.length::caps),regs:=objRegs (objs++[Obj.yld L true]) }))
 (hc:fn.body.isSome=true:=by kernel_rfl) (hn:Nat.ble (first ++ .yf objs.length::caps).length fn.ntmps=true:=by kernel_rfl) (ho:Nat.blt (objs++[Obj.yld L true]).length 1000=true:=by kernel_rfl)
 (hco:X2 fn.ntmps (fn.body.getD .skip)=true:=by kernel_rfl) (hnm:(fn.name == "runtime.NumGoroutine")=false:=by kernel_rfl):JI S f first caps objs L p:=by
 obtain⟨code,hcode⟩:=Option.isSome_iff_exists.1 hc;rw[hcode,Option.getD_some]at hco h;exact HH hS hf hcode (Nat.le_of_ble_eq_true hn) (by simpa[Nat.blt_eq]using ho) rfl hco hnm h.out
theorem XY (hS:F4 S P){f:FuncId}{fn:Func}{args:List AV}{objs:List Obj}{Q:Je->List Obj->List Bool->Prop}(hf:P.funcs[f]? = some fn)
 (h:KG S P (AX S P objs.length fn.results.toList Q) (.code (fn.body.getD .skip) [] { env:=argEnv args,regs:=objRegs objs }))
 (hc:fn.body.isSome=true:=by kernel_rfl) (hn:Nat.ble args.length fn.ntmps=true:=by kernel_rfl) (ho:Nat.blt objs.length 1000=true:=by kernel_rfl)
 (hco:X2 fn.ntmps (fn.body.getD .skip)=true:=by kernel_rfl) (hnm:(fn.name == "runtime.NumGoroutine")=false:=by kernel_rfl):S.F f args objs Q:=by
 obtain⟨code,hcode⟩:=Option.isSome_iff_exists.1 hc;rw[hcode,Option.getD_some]at hco h;exact HH hS hf hcode (Nat.le_of_ble_eq_true hn) (by simpa[Nat.blt_eq]using ho) rfl hco hnm h.out
def panE:Cfg->Option PV
 |.ops all (o::_) _ st=>match By all st.env o,o.op with
  |some true,.panic x=>match aev st.env x with
   |.p (.iface t y)=>some (.iface t y)
   |_=>none
  |_,_=>none
 |_=>none
def panC (x:PV):Cfg->Cfg
 |.ops _ _ K st=>.pop (.panic x) K st
 |g=>g
theorem Aa0 (hS:F4 S P)(hc:pr){x:PV}(hk:KG S P F (panC x (stp P g)))(hp:pr=D0 (cnd P g):=by kernel_rfl)(he:panE (stp P g)=some x:=by kernel_rfl):KG S P F g:=by
 refine⟨Er hS hc ?_ hp⟩;have hk:=hk.out;generalize stp P g=g1 at hk he;unfold panE at he;split at he
 ·rename_i all o rest K st;split at he
  ·rename_i y hg ho;split at he
   ·rename_i t z hx;cases he;exact ZE hS hg ho hx hk
   ·cases he
  ·cases he
 ·cases he
def XZ:Cfg->Option PV
 |.pop (.panic x) [] _=>some x
 |_=>none
theorem YR (hS:F4 S P)(hc:pr){n:Nat}{rs:List ResultVar}{Q:Je->List Obj->List Bool->Prop}{x:PV}{objs:List Obj}(outs:List Nat)(hQ:Q (.panic x) objs (Ee n outs))(hp:pr=D0 (cnd P g):=by kernel_rfl)
 (he:XZ (stp P g)=some x:=by kernel_rfl) (hd:F0 outs=true:=by kernel_rfl) (hr:H8 outs (stp P g).st.regs outs=some objs:=by kernel_rfl):KG S P (AX S P n rs Q) g:=by
 refine⟨Er hS hc ?_ hp⟩;generalize stp P g=g1 at he hr;unfold XZ at he;split at he
 ·cases he;exact⟨outs,objs,hd,hr,hQ⟩
 ·cases he
theorem Ah9 {k:Nat}{g:Nat->List PV}:AV.p (.v (.slice none 0 0))=.p (.sl false k 0 g) \/ ∃x y,AV.p (.v (.slice none 0 0))=.p x/\AV.p (.sl false k 0 g)=.p y/\leQ x y:=
 .inr ⟨_,_,rfl,rfl,.inl (.inr (.inr (.inl ⟨_,_,rfl,rfl⟩)))⟩
theorem Aa1 (hS:F4 S P){all rest:List Oper}{o:Oper}{c:Call}{f:Operand}{as:List AV}{regs:C4}{fn:FuncId}{as' args:List AV}{objs objs' : List Obj}{ks:List Bool}{x:PV}(ids:List Nat)
 (hg:By all st.env o=some true) (ho:o.op=.call c) (hf:c.callee=.value f) (ha:KS st.regs (c.args.toList.map (aev st.env))=some (as,regs))
 (hw:Qt st.env f as=some (fn,as')) (hr:BN ids as' = some args) (hob:H8 ids regs ids=some objs) (hF:S.F fn args objs fun res o k=>res=.panic x/\o=objs' /\ k=ks)
 (hd:F0 ids=true) (hy:Df objs=true) (hn:BW regs ids ks (o.dst.getD 0) objs'.length=true)
 (hk:G S P F (.pop (.panic x) K { env:=st.env,regs:=UR (K8 (o.dst.getD 0) ids ks objs'.length) (K8 (o.dst.getD 0) ids ks objs'.length) objs' (K9 ids ks regs) })) :
 G S P F (.ops all (o::rest) K st):=by
 refine Dg hS hg ?_;unfold wOp;obtain⟨callee,cargs,types⟩:=c;simp only at hf ha;subst hf;rw[ho];refine .inl ⟨as,regs,_,_,.inl ha,hw,ids,args,objs,hd,hr,hob,hy,hS.monoF _ _ _ _ _ ?_ hF⟩;rintro _ _ _ ⟨rfl,rfl,rfl⟩;exact⟨hn,hk⟩
def YS (ids:List Nat)(ks:List Bool)(x:PV)(objs' : List Obj):Cfg->Cfg
 |.ops all (o::rest) K st=>match o.op with
  |.call c=>match KS st.regs (c.args.toList.map (aev st.env))with
   |some (_,regs)=>mkO st.env (UR (K8 (o.dst.getD 0) ids ks objs'.length) (K8 (o.dst.getD 0) ids ks objs'.length) objs' (K9 ids ks regs)) fun env regs=>.pop (.panic x) K ⟨env,regs⟩
   |none=>.ops all (o::rest) K st
  |_=>.ops all (o::rest) K st
 |g=>g
theorem Aa2 (hS:F4 S P)(ids:List Nat)(hc:pr){fn:FuncId}{args:List AV}{objs objs' : List Obj}{x:PV}{ks:List Bool}(hF:S.F fn args objs fun res o k=>res=.panic x/\o=objs' /\ k=ks)
 (hk:KG S P F (YS ids ks x objs' (stp P g))) (hp:pr=D0 (cnd P g):=by kernel_rfl) (he:TT ids (stp P g)=some (fn,args,objs):=by kernel_rfl) (hn:TU ids ks objs'.length (stp P g)=true:=by kernel_rfl):KG S P F g:=by
 refine⟨Er hS hc ?_ hp⟩;replace hk:=hk.out;generalize stp P g=g' at he hn hk;unfold TT at he;split at he
 ·split at he
  ·rename_i hg ho;split at he
   ·rename_i hcl;split at he
    ·rename_i ha;split at he
     ·rename_i hw;split at he
      ·rename_i hr hob;split at he
       ·rename_i hdy;cases he;simp only[Bool.and_eq_true]at hdy;simp only[YS,TU,ho,ha,Dn]at hk hn;exact Aa1 hS ids hg ho hcl ha hw hr hob hF hdy.1 hdy.2 hn hk
       ·cases he
      ·cases he
     ·cases he
    ·cases he
   ·cases he
  ·cases he
 ·cases he
def Mr (S:X1)(R:St->Prop)(X:PV->St->Prop):H6
 |.normal,st=>S.up st R
 |.panic x,st=>X x st
 |_,_=>False
theorem K_upN (hS:F4 S P)(hc:pr){R:St->Prop}{X:PV->St->Prop}(st:St){ids:List (Nat×Nat)}(hR:R st)(hp:pr=D0 (cnd P g):=by kernel_rfl)(he:stp P g=.pop .normal [] (stp P g).st:=by kernel_rfl)
 (hle:KLe ids (stp P g).st st:=by exact kl):KG S P (Mr S R X) g:=by
 refine⟨Er hS hc ?_ hp⟩;rw[he];exact hS.le ids _ _ R hle.out hR
theorem K_upP (hS:F4 S P)(hc:pr){R:St->Prop}{X:PV->St->Prop}{x:PV}(hX:X x (stp P g).st)(hp:pr=D0 (cnd P g):=by kernel_rfl)(he:XZ (stp P g)=some x:=by kernel_rfl):KG S P (Mr S R X) g:=by
 refine⟨Er hS hc ?_ hp⟩;generalize stp P g=g1 at he hX;unfold XZ at he;split at he
 ·cases he;exact hX
 ·cases he
end
end Go.AM
namespace Go.AM
section
variable {S:X1}{P:Program}{F:H6}{K:List It}{g:Cfg}{pr:Prop}
end
end Go.AM
namespace Go.AM
open Go.RowKit Go.ChangeShapes Go.Deep
mutual
inductive LeD:PV->PV->Prop
 |refl (x:PV):LeD x x
 |sl {k n:Nat}{f g:Nat->List PV}(h:∀i,i<n->LeDs (f i) (g i)):LeD (.sl false k n f) (.sl false k n g)
inductive LeDs:List PV->List PV->Prop
 |nil:LeDs [] []
 |cons {x y:PV}{l r:List PV}(h:LeD x y) (h' : LeDs l r):LeDs (x::l) (y::r)
end
theorem LeDs.refl:∀l:List PV,LeDs l l
 |[]=>.nil
 |x::l=>.cons (.refl x) (LeDs.refl l)
theorem LeDs.length {l r:List PV}(h:LeDs l r):l.length=r.length:=by
 induction l generalizing r with
 |nil=>cases h;rfl
 |cons x l ih=>cases h with|cons _ h'=>simp[ih h']
theorem LeDs.get {l r:List PV}(h:LeDs l r):∀i,LeD (l.getD i default) (r.getD i default):=by
 induction l generalizing r with
 |nil=>cases h;exact fun i=>.refl _
 |cons x l ih=>
  cases h with
  |cons h h'=>
   intro i;cases i with
   |zero=>exact h
   |succ i=>simpa using ih h' i
theorem LeDs.append {a b c d:List PV}(h:LeDs a b)(h' : LeDs c d):LeDs (a++c) (b++d):=by
 induction a generalizing b with
 |nil=>cases h;exact h'
 |cons x l ih=>cases h with|cons h1 h2=>exact .cons h1 (ih h2)
theorem RepP.leD {w:World}{Pi:Nat->Nat->Prop}{v:Value}{x:PV}(h:RepP w Pi v x):∀{y:PV},LeD x y->RepP w Pi v y:=by
 induction h with
 |slnil k f=>intro y hy;cases hy with
  |refl=>exact .slnil _ _
  |sl h=>exact .slnil _ _
 |sl nn b off cap k n f c hn hk hc h sp hsp ih=>
  intro y hy;cases hy with
  |refl=>exact .sl nn b off cap k n f c hn hk hc h sp hsp
  |sl h'=>exact .sl false b off cap k n _ c hn (fun i hi=>by rw[<- (h' i hi).length];exact hk i hi) hc (fun i j hi hj=>ih i j hi hj ((h' i hi).get j)) sp hsp
 |v x=>intro y hy;cases hy;exact .v x
 |bb b=>intro y hy;cases hy;exact .bb b
 |str l=>intro y hy;cases hy;exact .str l
 |agg vs cs hs h1 h ih=>intro y hy;cases hy;exact .agg vs cs hs h1 h
 |ptr b off cs c hc h ih=>intro y hy;cases hy;exact .ptr b off cs c hc h
 |iface t x a h ih=>intro y hy;cases hy;exact .iface t x a h
 |fn f x y a b hx hy ha hb iha ihb=>intro y hy;cases hy;exact .fn f x _ a b hx ‹_› ha hb
theorem CRep.leD {W:World}{cs:List Value}{p q:List PV}(h:CRep W cs p)(hl:LeDs p q):CRep W cs q:=
 ⟨by rw[h.1,hl.length],fun i hi=>⟨(h.2 i (by rw[hl.length];exact hi)).1.leD (hl.get i),(h.2 i (by rw[hl.length];exact hi)).2⟩⟩
section
variable {P:Program}{t e:TypeId}{m:Nat}{pvs:List PV}
def FD (f:Nat->Nat):Nat->Nat
 |0=>0
 |k+1=>FD f k+f k
theorem Aa3 (f:Nat->Nat){k n:Nat}(h:k<=n):FD f k<=FD f n:=by
 induction h with
 |refl=>exact Nat.le_refl _
 |step _ ih=>simp only[FD];omega
theorem Nv (f:Nat->Nat){k n:Nat}(h:k<n):f k<=FD f n:=by
 have:=Aa3 f (show k+1<=n from h)
 simp only[FD]at this;omega
theorem Pu {f g:Nat->Nat}:∀{n:Nat},(∀i,i<n->f i<=g i)->FD f n<=FD g n
 |0,_=>Nat.le_refl _
 |n+1,h=>by have h1:=Pu (n:=n) fun i hi=>h i (by omega);have h2:=h n (by omega);simp only[FD];omega
theorem Ms (f:Nat->Nat):∀n,Qr ((List.range n).map f)=FD f n:=by
 have app:∀a b:List Nat,Qr (a++b)=Qr a+Qr b:=by
  intro a b
  induction a with
  |nil=>simp[Qr]
  |cons x r ih=>simp only[List.cons_append,Pf,ih];omega
 intro n
 induction n with
 |zero=>rfl
 |succ n ih=>rw[List.range_succ,List.map_append,app,ih];simp[FD,Qr]
def JJ (P:Program)(t:TypeId){T:Type}(c:T->List PV)(W:T->Prop)(sz:T->Nat):Prop:=
 ∀(m:Nat) (pvs:List PV),Ge P m t pvs->∃x:T,LeDs pvs (c x)/\W x/\sz x<=m
theorem P8 {k:IntKind}(ht:P.underlying t=some (.int k)):JJ P t (cI k) (fun n=>(Lit.int k n).wf=true) (fun _=>1):=by
 intro m pvs h;cases h with
 |bool ht'=>rw[ht]at ht';cases ht'
 |str ht'=>rw[ht]at ht';cases ht'
 |slice _ ht'=>rw[ht]at ht';cases ht'
 |arr ht'=>rw[ht]at ht';cases ht'
 |struct ht'=>rw[ht]at ht';cases ht'
 |int ht' hw hm=>rw[ht]at ht';cases ht';exact⟨_,LeDs.refl _,hw,hm⟩
theorem TY (ht:P.underlying t=some .bool):JJ P t cB (fun _=>True) (fun _=>1):=by
 intro m pvs h;cases h with
 |int ht'=>rw[ht]at ht';cases ht'
 |str ht'=>rw[ht]at ht';cases ht'
 |slice _ ht'=>rw[ht]at ht';cases ht'
 |arr ht'=>rw[ht]at ht';cases ht'
 |struct ht'=>rw[ht]at ht';cases ht'
 |bool ht' hm=>exact⟨_,LeDs.refl _,trivial,hm⟩
theorem Pv (ht:P.underlying t=some .string):JJ P t cS (fun _=>True) (fun l=>l.length+1):=by
 intro m pvs h;cases h with
 |int ht'=>rw[ht]at ht';cases ht'
 |bool ht'=>rw[ht]at ht';cases ht'
 |slice _ ht'=>rw[ht]at ht';cases ht'
 |arr ht'=>rw[ht]at ht';cases ht'
 |struct ht'=>rw[ht]at ht';cases ht'
 |str ht' hm=>exact⟨_,LeDs.refl _,trivial,hm⟩
theorem AF {T:Type}[Inhabited T]{c:T->List PV}{W:T->Prop}{sz:T->Nat}{k:Nat}(ht:P.underlying t=some (.slice e))(hk:P.cellsOf e=k)(h:JJ P e c W sz) :JJ P t (cL k c) (fun s=>∀i,i<s.n->W (s.g i)) (fun s=>FD (fun i=>sz (s.g i)) s.n+1):=by
 intro m pvs hs;cases hs with
 |int ht'=>rw[ht]at ht';cases ht'
 |bool ht'=>rw[ht]at ht';cases ht'
 |str ht'=>rw[ht]at ht';cases ht'
 |arr ht'=>rw[ht]at ht';cases ht'
 |struct ht'=>rw[ht]at ht';cases ht'
 | @slice _ _ e' n f ms ht' hl hel hm=>
  rw[ht]at ht';cases ht';obtain⟨g,hg⟩:=choose_lt (α:=T) (p:=fun i x=>LeDs (f i) (c x)/\W x/\sz x<=ms i) fun i hi=>h _ _ (hel i hi);refine⟨⟨n,g⟩,?_,fun i hi=>(hg i hi).2.1,?_⟩
  ·subst hk;exact .cons (.sl fun i hi=>(hg i hi).1) .nil
  ·have h1:=Pu (n:=n) fun i hi=>(hg i hi).2.2;rw[Ms]at hm;show FD (fun i=>sz (g i)) n+1<=m;omega
theorem Ac {fs:Array Field}(ht:P.underlying t=some (.struct fs))(h:Ge P m t pvs):∃m',ED P m' (fs.toList.map (·.type)) pvs/\m' + 1<=m:=by
 cases h with
 |int ht'=>rw[ht]at ht';cases ht'
 |bool ht'=>rw[ht]at ht';cases ht'
 |str ht'=>rw[ht]at ht';cases ht'
 |slice _ ht'=>rw[ht]at ht';cases ht'
 |arr ht'=>rw[ht]at ht';cases ht'
 |struct ht' h hm=>rw[ht]at ht';cases ht';exact⟨_,h,hm⟩
theorem C5 {ts:List TypeId}(h:ED P m (t::ts) pvs):∃a b p q,pvs=p++q/\Ge P a t p/\ED P b ts q/\a+b<=m:=by
 cases h with
 |cons h h' hm=>exact⟨_,_,_,_,rfl,h,h',hm⟩
theorem BP (h:ED P m [] pvs):pvs=[]:=by cases h;rfl
end
end Go.AM
