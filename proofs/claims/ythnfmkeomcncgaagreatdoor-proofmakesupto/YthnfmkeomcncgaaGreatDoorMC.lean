/- Part 3. -/
import Derived.Test.YthnfmkeomcncgaaGreatDoorMB
import Derived.KernelRfl
import Derived.Laws.IdiomRangeMap
set_option linter.defProp false
set_option linter.unusedSimpArgs false
set_option linter.unusedVariables false
set_option linter.unusedSectionVars false
namespace Go.AM
variable {N:Nat}
def S3:=True.intro
def Ci9:=@Nat.le_of_ble_eq_true
def Ck1:=@List.tail_cons
def Ck2:=@List.mem_singleton
def Cl1:=@List.range_succ
def Cl2:=@List.map_append
def Co8:=@List.mem_cons_self
def Cs2:=@Nat.blt_eq
def Ct4:=@Nat.lt_succ_self
def Cu9:=@List.getD_cons_succ
def Cv5:=@List.set_cons_succ
abbrev Str:=List UInt8
structure Sl (α : Type) where
 n:Nat
 g:Nat -> α
instance {α : Type} [Inhabited α]:Inhabited (Sl α):=⟨⟨0,λ_=>default⟩⟩
namespace Sl
variable {α : Type}
def toList (s:Sl α):List α:=(List.range s.n).map s.g
abbrev nil [Inhabited α]:Sl α:=⟨0,λ_=>default⟩
abbrev rep (n:Nat)(a : α):Sl α:=⟨n,λ_=>a⟩
abbrev sub (s:Sl α)(a b:Nat):Sl α:=⟨b-a,λi=>s.g (a+i)⟩
abbrev drop (s:Sl α)(a:Nat):Sl α:=⟨s.n-a,λi=>s.g (a+i)⟩
abbrev take (s:Sl α)(b:Nat):Sl α:=⟨b,s.g⟩
abbrev push (s:Sl α)(a : α):Sl α:=⟨s.n+1,λi=>ite (i<s.n) (s.g i) a⟩
abbrev app (s t:Sl α):Sl α:=⟨s.n+t.n,λi=>ite (i<s.n) (s.g i) (t.g (i-s.n))⟩
abbrev upd (s:Sl α)(k:Nat)(a : α):Sl α:=⟨s.n,λi=>ite (i=k) a (s.g i)⟩
abbrev of [Inhabited α](l:List α):Sl α:=⟨l.length,λi=>l.getD i default⟩
end Sl
abbrev vSl {α : Type}(k:Nat)(c : α -> List PV)(s:Sl α):PV:=.sl false k s.n λi=>c (s.g i)
abbrev pI (k:IntKind)(n:Int):PV:=.v (.int k n)
abbrev E9 (l:Str)(i:Int):Int:=(((l.getD i.toNat 0).toNat:Nat):Int)
abbrev pN (n:Int):AV:=.p (.v (.int .i64 n))
abbrev pU (n:Int):AV:=.p (.v (.int .u32 n))
abbrev pB (b:Bool):AV:=.p (.bb b)
abbrev BR6:PV:=.v (.pointer none)
abbrev I1:PV:=.v (.slice none 0 0)
section
variable {R:Type}
def N3 {A:Type}(N:Nat)(body:(A->Option R)->A->Option R):A->Option R:=match N with
 |0=>λ_=>none
 |N+1=>λa=>body (N3 N body) a
variable {A B C D E F G H:Type}
def U1 (N:Nat)(body:(A->B->Option R)->A->B->Option R)(a:A)(b:B):Option R:=N3 N (λc x=>body (λa b=>c (a,b)) x.1 x.2) (a,b)
def Bb8 (N:Nat)(body:(A->B->C->Option R)->A->B->C->Option R)(a:A)(b:B)(c:C):Option R:=N3 N (λd x=>body (λa b c=>d (a,b,c)) x.1 x.2.1 x.2.2) (a,b,c)
def AW9 (N:Nat)(body:(A->B->C->D->Option R)->A->B->C->D->Option R)(a:A)(b:B)(c:C)(d:D):Option R:=N3 N (λf x=>body (λa b c d=>f (a,b,c,d)) x.1 x.2.1 x.2.2.1 x.2.2.2) (a,b,c,d)
def fix6 (N:Nat)(body:(A->B->C->D->E->F->Option R)->A->B->C->D->E->F->Option R)(a:A)(b:B)(c:C)(d:D)(e:E)(f:F):Option R:=N3 N (λg x=>body (λa b c d e f=>g (a,b,c,d,e,f)) x.1 x.2.1 x.2.2.1 x.2.2.2.1 x.2.2.2.2.1 x.2.2.2.2.2) (a,b,c,d,e,f)
theorem U2 {body:(A->Option R)->A->Option R}{a:A}:N3 (N+1) body a=body (N3 N body) a:=rfl
def H4 {body:(A->B->Option R)->A->B->Option R}{a:A}{b:B}:U1 (N+1) body a b=body (U1 N body) a b:=rfl
def AO {body:(A->B->C->D->Option R)->A->B->C->D->Option R}{a:A}{b:B}{c:C}{d:D}:AW9 (N+1) body a b c d=body (AW9 N body) a b c d:=rfl
def lt {K:Type}(k:K)(f:K->Option R):Option R:=f k
end
section
variable {R X Y:Type}{r:R}
def itT {b:Bool}{x y:Option R}(hb:b=true)(h:(ite b x y)=some r):x=some r:=by rwa [Jk hb]at h
def itF {b:Bool}{x y:Option R}(hb:b=false)(h:(ite b x y)=some r):y=some r:=by rwa [Js (by grind)]at h
def C4 {p:Prop}[Decidable p]{x:Option R}(h:(ite p x none)=some r):p/\x=some r:=by
 grind
def E4 {x:Option X}{f:X->Option R}(h:x.bind f=some r):∃a,x=some a/\f a=some r:=Cn9.1 h
def A5 {a b:R}(h:some a=some b):a=b:=Ci5 h
end
section
variable {S:X4}{P:Program}{F:M0}{K:List It}{st:St}
def A3 (hS:H3 S P){n:Nat}{rs:List ResultVar}{Q:ARes->List Obj->List Bool->Prop}(s:St)(h:S.up s (Fk S P n rs Q .normal)):Fk S P n rs Q .normal s:=hS.trans _ _ h
def BV7 (hS:H3 S P){b:Code}{R A:Type}{body:(A->Option R)->A->Option R}{N:Nat}{a0:A}{r:R}(h:N3 N body a0=some r)(s:A->St)(ids:List (Nat×Nat))(hle:Le ids st (s a0))
 (d:∀(X:Type) (s' : X->St) (J:X->Prop) (m:X->Nat) (n:Nat) (c:A->Option R) (a:A),(∀st ids a,Le ids st (s a)->c a=some r->G S P F (.pop .normal (.lp X s' J m n::K) st))->body c a=some r->G S P F (.code b (.lp X s' J m n::K) (s a))) :
 G S P F (.code (.loop b) K st):=by
 refine AC2 hS (X:=Nat×A) (λx=>s x.2) (λx=>N3 x.1 body x.2=some r) (λx=>x.1) (N,a0) ids hle h ?_;rintro⟨n,a⟩ hx;cases n with
 |zero=>cases hx
 |succ n=>exact d _ _ _ _ _ (N3 n body) a (λst ids a hle h=>Ao3 hS (n,a) ids hle h (Ct4 n)) hx
def Bb9 (hS:H3 S P){all rest:List Oper}{o:Oper}(t:St)(ids:List (Nat×Nat))(hle:Le ids st t)(h:G S P F (.ops all (o::rest) K t)):G S P F (.ops all (o::rest) K st):=
 ZI hS (hS.le ids _ _ _ hle h)
end
def pm:(∀b,(true||b)=true)/\(∀b,(b||true)=true)/\(∀b,(false||b)=b)/\(∀b,(b||false)=b)/\(∀b,(true&&b)=b)/\(∀b,(b&&true)=b)/\(∀b,(false&&b)=false)/\(∀b,(b&&false)=false)/\((!true)=false)/\((!false)=true)/\((false=true)=False)/\((true=true)=True):=by refine (by grind)<;>simp
section
variable {Uu:C6}{ids:List (Nat×Nat)}
variable {env r:Env}{t:Nat}{a b:AV}{x y:PV}
def eP (b:get env t=a)(h:viewP Uu a=some y)(h' : Rn Uu ids env r):Rn Uu ids env ((t,.p y)::r):=BC1 b (le_p h) h'
def eM {i j:Nat}(a:get env t=.Uz i)(h:lk ids j=some i)(h' : Rn Uu ids env r):Rn Uu ids env ((t,.Uz j)::r):=BC1 a (AY2 h) h'
def app1 {α : Type}{c : α -> List PV}{n:Nat}{v:Sl α}{f:Nat->List PV}{z cs:List PV}{x : α}(h:∀i,i<n->f i=c (v.g i))(hn:n=v.n)(hx:cs=c x):∀i,i<n+1->DO n f (G9 z [(0,cs)]) i=c ((v.push x).g i):=by
 subst hn hx;intro i a;show (ite (i<v.n) (f i) (G9 z [(0,c x)] (i-v.n)))=c (ite (i<v.n) (v.g i) x);split
 .grind
 obtain rfl:i=v.n:=by omega
 simp[G9]
def Aq7 {α : Type}{c : α -> List PV}{n m:Nat}{v w:Sl α}{f g:Nat->List PV}(h:∀i,i<n->f i=c (v.g i))(hn:n=v.n)(h' : ∀i,i<m->g i=c (w.g i))(hm:m=w.n):∀i,i<n+m->DO n f g i=c ((v.app w).g i):=by
 subst hn hm;intro i a;show (ite (i<v.n) (f i) (g (i-v.n)))=c (ite (i<v.n) (v.g i) (w.g (i-v.n)))
 grind
def Zu {α : Type}{c : α -> List PV}{n k:Nat}{v:Sl α}{f:Nat->List PV}{e:Nat->List PV}{x : α}(h:∀i,i<n->f i=c (v.g i))(hx:k<n->e k=c x):∀i,i<n->(λl=>ite (l=k) (e l) (f l)) i=c ((v.upd k x).g i):=by
 grind
def same {n:Nat}{f:Nat->List PV}:∀i,i<n->f i=f i:=λ_ _=>rfl
end
abbrev cI (k:IntKind)(n:Int):List PV:=[.v (.int k n)]
abbrev cB (b:Bool):List PV:=[.bb b]
abbrev cS (s:Str):List PV:=[.str s]
abbrev cL {α : Type}(k:Nat)(c : α -> List PV)(s:Sl α):List PV:=[vSl k c s]
abbrev Aq8 (s:Sl Int):Str:=(List.range s.n).map λi=>UInt8.ofNat (s.g i).toNat
section
variable {S:X4}{P:Program}{F:M0}{K:List It}{st:St}
end
section
variable {Uu:C6}{ids:List (Nat×Nat)}
def le_yf {i j:Nat}(h:lk ids j=some i):leA Uu ids (.yf i) (.yf j):=by unfold leA;exact⟨i,h,rfl⟩
def BV8 {l m:List AV}(h:leL Uu ids l m):leA Uu ids (.tup l) (.tup m):=by unfold leA;exact⟨l,rfl,h⟩
def BV9 {l m:List AV}(h:leL Uu ids l m):leA Uu ids (.agr l) (.agr m):=by unfold leA;exact⟨l,rfl,h⟩
end
def DQ {κ ν : Type}(kP : κ -> PV)(vP : ν -> PV)(es:List (κ × ν)):List (PV×PV):=es.map λp=>(kP p.1,vP p.2)
def M7 {κ ν : Type}(eq : κ -> κ -> Bool)(k : κ):List (κ × ν)->Option ν
 |[]=>none
 |(a,v)::es=>ite (eq k a) (some v) (M7 eq k es)
def FZ {κ ν : Type}(eq : κ -> κ -> Bool)(k : κ)(v : ν):List (κ × ν)->List (κ × ν)
 |[]=>[(k,v)]
 |(a,x)::es=>ite (eq k a) ((k,v)::es) ((a,x)::FZ eq k v es)
def Aq9 {κ ν : Type}(kP : κ -> PV)(vP : ν -> PV)(es:List (κ × ν)):(DQ kP vP es).length=es.length:=by simp[DQ]
theorem Ab5 {κ ν : Type}{kP : κ -> PV}{vP : ν -> PV}{cmp:PV->PV->Option Bool}{eq : κ -> κ -> Bool}(hc:∀a b,cmp (kP a) (kP b)=some (eq a b))(k : κ):∀es:List (κ × ν),find cmp (kP k) (DQ kP vP es)=some ((M7 eq k es).map vP)
 |[]=>rfl
 |(a,v)::es=>by
  show (match cmp (kP k) (kP a)with|some true=>some (some (vP v))|some false=>find cmp (kP k) (DQ kP vP es)|none=>none)=some ((M7 eq k ((a,v)::es)).map vP);rw[hc];simp only[M7];cases h:eq k a
  .simpa using Ab5 hc k es
  rfl
def XB {κ ν : Type}{kP : κ -> PV}{vP : ν -> PV}{cmp:PV->PV->Option Bool}{eq : κ -> κ -> Bool}(hc:∀a b,cmp (kP a) (kP b)=some (eq a b))(k : κ)(x : ν):∀es:List (κ × ν),upd cmp (kP k) (vP x) (DQ kP vP es)=some (DQ kP vP (FZ eq k x es))
 |[]=>rfl
 |(a,v)::es=>by
  show (match cmp (kP k) (kP a)with|some true=>some ((kP k,vP x)::DQ kP vP es)|some false=>(upd cmp (kP k) (vP x) (DQ kP vP es)).map ((kP a,vP v) :: ·)|none=>none)=some (DQ kP vP (FZ eq k x ((a,v)::es)));rw[hc];simp only[FZ];cases h:eq k a
  .simp only[XB hc k x es,Cf0,Lp,Ce4];rfl
  rfl
abbrev eqS (a b:Str):Bool:=a==b
abbrev eqI (a b:Int):Bool:=a==b
def JD {X Y:Type}(o:Option X)(a:Y)(f:X->Y):Y:=match o with
 |none=>a
 |some x=>f x
def An6 {X R:Type}{r:R}{o:Option X}{a:Option R}{f:X->Option R}(b:o=none)(h:JD o a f=some r):a=some r:=by subst b;exact h
def Ab6 {X R:Type}{r:R}{o:Option X}{x:X}{a:Option R}{f:X->Option R}(b:o=some x)(h:JD o a f=some r):f x=some r:=by subst b;exact h
def K0 {X Y:Type}(a:Y)(f:X->Y):JD none a f=a:=rfl
def M2 {X Y:Type}(x:X)(a:Y)(f:X->Y):JD (some x) a f=f x:=rfl
section
variable {R T A B C D:Type}
def iter0 (L:List T)(body:Option R->T->Option R)(k:Option R):Option R:=match L with
 |[]=>k
 |t::L=>body (iter0 L body k) t
def T1 (L:List T)(body:(A->Option R)->T->A->Option R)(k:A->Option R)(a:A):Option R:=match L with
 |[]=>k a
 |t::L=>body (T1 L body k) t a
end
section
variable {S:X4}{P:Program}{F:M0}{K:List It}{st:St}
def BJ6 (hS:H3 S P){g:Operand}{ps:Array Tmp}{asg body:Code}{f:FuncId}{first caps as bs:List AV}{objs:List Obj}{R T A:Type}{enc:T->List PV}{L:List T}{mb:(A->Option R)->T->A->Option R}{mk:A->Option R}{a0:A}{r:R}
 (ids ts:List Nat) (gh:Nat) (s:A->St) (idl:List (Nat×Nat)) (h:T1 L mb mk a0=some r) (y:FY S f as bs objs (L.map enc))
 (hp:Hc st.env g=some (f,first,caps)) (j:∃fn,P.funcs[f]? = some fn/\fn.body.isSome=true/\(fn.name == "runtime.NumGoroutine")=false) (l:M9 ids st.Uu ids=some objs) (m:GM objs=true) (z:I5 ids=true) (n:Fc ids first=some as) (o:Fc ids caps=some bs) (q:objs.length=ids.length)
 (u:Nat.blt gh 1000=true) (v:A2 st.Uu gh=none) (w:Nat.blt ids.length 1000=true) (x:I5 ts=true) (d:∀t:T,(enc t).length=ps.size)
 (hle:Le idl ⟨AK ts (ts.map (get st.env)),K9 ids (ids.map λ_=>false) st.Uu⟩ (s a0)) (hk:∀a,(s a).env.map (·.1)=ts) (hn:∀a,A2 (s a).Uu gh=none)
 (b:∀(t:T) (next:St->Prop) (c:A->Option R) (a:A),(∀(st st1:St) (cs:List AV) (idl:List (Nat×Nat)) (a:A),Le idl st st1->A2 st1.Uu gh=some (.ghost cs)->cs.length=ts.length->A2 (del gh st1.Uu) gh=none->(⟨AK ts cs,del gh st1.Uu⟩:St)=s a->c a=some r->G S P (Hd S gh ts next (kp S P K F)) (.pop .normal [] st)) ->
  mb c t a=some r->G S P (Dq S P body gh ts next (kp S P K F)) (.code asg [] ⟨MX ps.toList (enc t) (s a).env,ins gh (.ghost ((s a).env.map (·.2))) (s a).Uu⟩))
 (i:∀a,mk a=some r->G S P F (.pop .normal K (s a))):G S P F (.code (.rangeFunc g ps asg body) K st):=by
 refine Bb5 hS ids ts gh (L.map enc) s (λrest a=>∃L',rest=L'.map enc/\T1 L' mb mk a=some r) a0 idl hp j l m z n o q (by simpa[Cs2]using u) v (by simpa[Cs2]using w) x (λys hy=>?_) y hle ⟨L,rfl,h⟩ hk hn ?_ ?_
 .obtain⟨t,_,rfl⟩:=Cl0.1 hy;exact d t
 .rintro ys rest a ⟨L',hL,hx⟩;cases L' with
  |nil=>cases hL
  |cons t L'=>simp only[Cf8,Ck9]at hL;obtain⟨rfl,rfl⟩:=hL;refine b t _ (T1 L' mb mk) a (λst st1 cs idl a hle h1 h2 h3 h4 h5=>?_) hx;exact Aq4 hS st1 a idl hle h1 h2 h3 h4 ⟨L',rfl,h5⟩
 rintro a ⟨L',hL,hx⟩;cases L' with
 |nil=>exact i a hx
 |cons t L'=>cases hL
def Bs2 (hS:H3 S P){g:Operand}{ps:Array Tmp}{asg body:Code}{f:FuncId}{first caps as bs:List AV}{objs:List Obj}{R T A:Type}{enc:T->List PV}{L:List T}{mb:(A->Option R)->T->A->Option R}{mk:A->Option R}{a0:A}{r0:R}
 (ids ts:List Nat) (gh:Nat) (s:A->R->St) (idl:List (Nat×Nat)) (h:T1 L mb mk a0=some r0) (z:FY S f as bs objs (L.map enc))
 (hp:Hc st.env g=some (f,first,caps)) (j:∃fn,P.funcs[f]? = some fn/\fn.body.isSome=true/\(fn.name == "runtime.NumGoroutine")=false) (l:M9 ids st.Uu ids=some objs) (m:GM objs=true) (hd:I5 ids=true) (n:Fc ids first=some as) (o:Fc ids caps=some bs) (q:objs.length=ids.length)
 (u:Nat.blt gh 1000=true) (v:A2 st.Uu gh=none) (w:Nat.blt ids.length 1000=true) (y:I5 ts=true) (d:∀t:T,(enc t).length=ps.size)
 (hle:Le idl ⟨AK ts (ts.map (get st.env)),K9 ids (ids.map λ_=>false) st.Uu⟩ (s a0 r0)) (hk:∀a r,(s a r).env.map (·.1)=ts) (hn:∀a r,A2 (s a r).Uu gh=none)
 (b:∀(t:T) (next:St->Prop) (c:A->Option R) (a:A) (r:R),(∀(st st1:St) (cs:List AV) (idl:List (Nat×Nat)) (a:A) (r:R),Le idl st st1->A2 st1.Uu gh=some (.ghost cs)->cs.length=ts.length->A2 (del gh st1.Uu) gh=none->(⟨AK ts cs,del gh st1.Uu⟩:St)=s a r->c a=some r->G S P (Hd S gh ts next (kp S P K F)) (.pop .normal [] st)) ->
  mb c t a=some r->G S P (Dq S P body gh ts next (kp S P K F)) (.code asg [] ⟨MX ps.toList (enc t) (s a r).env,ins gh (.ghost ((s a r).env.map (·.2))) (s a r).Uu⟩))
 (i:∀a r,mk a=some r->G S P F (.pop .normal K (s a r))):G S P F (.code (.rangeFunc g ps asg body) K st):=by
 refine Bb5 hS ids ts gh (L.map enc) (λx:A×R=>s x.1 x.2) (λrest x=>∃L',rest=L'.map enc/\T1 L' mb mk x.1=some x.2) (a0,r0) idl hp j l m hd n o q (by simpa[Cs2]using u) v (by simpa[Cs2]using w) y (λys hy=>?_) z hle ⟨L,rfl,h⟩ (λx=>hk x.1 x.2) (λx=>hn x.1 x.2) ?_ ?_
 .obtain⟨t,_,rfl⟩:=Cl0.1 hy;exact d t
 .rintro ys rest ⟨a,r⟩ ⟨L',hL,hx⟩;cases L' with
  |nil=>cases hL
  |cons t L'=>simp only[Cf8,Ck9]at hL;obtain⟨rfl,rfl⟩:=hL;refine b t _ (T1 L' mb mk) a r (λst st1 cs idl a r hle h1 h2 h3 h4 h5=>?_) hx;exact Aq4 hS st1 (a,r) idl hle h1 h2 h3 h4 ⟨L',rfl,h5⟩
 rintro⟨a,r⟩ ⟨L',hL,hx⟩;cases L' with
 |nil=>exact i a r hx
 |cons t L'=>cases hL
end
section
variable {S:X4}{P:Program}{all:List Oper}{k:Env->C6->Prop}
def Ar0 {cls:List Cls}{o:Oper}{rest:List Oper}{env:Env}{Uu regs1:C6}{t:TypeId}{m q x:Operand}{key y:PV}{j:Nat}{es es' : List (PV×PV)}{kt e:TypeId}
 (b:AN all env o=some true) (a:o.op=.mapUpdate t m q x) (d:aev env q=.p key) (f:Fj Uu (aev env x)=some (y,regs1)) (hm:aev env m=.Uz j) (g:A2 regs1 j=some (.map es))
 (ht:tk P t=some (.map kt e)) (hk:Jp P kt (nP key)=true) (i:upd (Li P kt) (nP key) y es=some es') (hc:D2 (KN P kt))
 (hn:MU S P all cls rest (QZ o.dst Qy env) (ins j (.map es') regs1) k):MU S P all (.w::cls) (o::rest) env Uu k:=by
 refine AE4 (c:=KN P kt) (v:=Qy) (regs':=ins j (.map es') regs1) b ?_ hc ?_ hn
 .rw[a];grind[aop]
 rw[a];rfl
def AE9 {cl:Cls}{cls:List Cls}{o:Oper}{rest:List Oper}{env:Env}{Uu regs1:C6}{t:TypeId}{m q:Operand}{ok:Bool}{key:PV}{j:Nat}{es:List (PV×PV)}{kt e:TypeId}{x:PV}{b:Bool}{fd:Option PV}
 (d:AN all env o=some true) (f:o.op=.lookup t m q ok) (g:Fj Uu (aev env q)=some (key,regs1)) (hm:aev env m=.Uz j) (i:A2 regs1 j=some (.map es))
 (ht:tk P t=some (.map kt e)) (hk:Jp P kt key=true) (l:find (Li P kt) key es=some fd) (hx:(match fd with|some x=>some (x,true)|none=>(Lt P e).map λz=>(z,false))=some (x,b)) (hc:D2 (KN P kt)) (a:Aa9 cl env (o.dst.getD 0) o.op=true)
 (hn:MU S P all cls rest (QZ o.dst (ite ok (.tup [.p x,.bool b]) (.p x)) env) regs1 k):MU S P all (cl::cls) (o::rest) env Uu k:=by
 refine AE4 (c:=KN P kt) (v:=ite ok (.tup [.p x,.bool b]) (.p x)) (regs':=regs1) d ?_ hc a hn;rw[f];simp only[aop,g,hm,Ib,ht,hk,i,l]
 grind
end
section
variable (P:Program)
def stp (g:Cfg):Cfg:=(run P none 400 [] g).cfg
def cnd (g:Cfg):List Prop:=(run P none 400 [] g).conds
def HZ (d:Nat)(g:Cfg):Cfg:=(run P (some d) 400 [] g).cfg
def BJ7 (d:Nat)(g:Cfg):List Prop:=(run P (some d) 400 [] g).conds
def Cfg.st:Cfg->St
 |.code _ _ s=>s
 |.ops _ _ _ s=>s
 |.pop _ _ s=>s
def Cfg.k:Cfg->List It
 |.code _ K _=>K
 |.ops _ _ K _=>K
 |.pop _ K _=>K
def mkO {R:Type _}(env:Env)(Uu:C6)(κ : Env->C6->R):R:=fE env λenv=>fR Uu λregs=>κ env Uu
theorem GR {R:Type _}(env:Env)(Uu:C6)(κ : Env->C6->R):mkO env Uu κ = κ env Uu:=by grind[mkO,fE_eq,BH0]
def AN5 {R:Type _}(d:Option Nat)(a:AV)(env:Env)(Uu:C6)(κ : St->R):R:=match d with
 |some d=>mkO (ins d a env) Uu λenv Uu=>κ ⟨env,Uu⟩
 |none=>mkO env Uu λenv Uu=>κ ⟨env,Uu⟩
theorem He {R:Type _}(d:Option Nat)(a:AV)(env:Env)(Uu:C6)(κ : St->R):AN5 d a env Uu κ = κ (put ⟨env,Uu⟩ d a):=by cases d<;>simp only[AN5,GR,put]
def kps (e:Env)(ks:List Nat)(r:C6)(rs:List Nat)(st:St):St:= mkO (e.foldr (λq l=>ins q.1 q.2 l) (st.env.filter λq=>ks.any (Nat.beq q.1))) (r.foldr (λq l=>ins q.1 q.2 l) (st.Uu.filter λq=>rs.any (Nat.beq q.1))) λenv Uu=>⟨env,Uu⟩
def Ar1:Cfg->Option Bool
 |.code (.cond c _ _) _ st=>match aev st.env c with
  |.p (.bb b)=>some b
  |_=>none
 |_=>none
def Bc0:Cfg->Cfg
 |.code (.cond _ t _) K st=>.code t K st
 |g=>g
def Bc1:Cfg->Cfg
 |.code (.cond _ _ e) K st=>.code e K st
 |g=>g
def AF0:Cfg->Option Bool
 |.ops all (o::_) _ st=>match o.guard with
  |some (j,_)=>match BU0 all j with
   |some d=>match get st.env d with
    |.p (.bb b)=>some b
    |_=>none
   |none=>none
  |none=>none
 |_=>none
def RM (b:Bool):Cfg->Cfg
 |.ops all (o::rest) K st=>match o.guard with
  |some (j,_)=>match BU0 all j with
   |some d=>AN5 (some d) (.p (.v (.bool b))) st.env st.Uu λst=>.ops all (o::rest) K st
   |none=>.ops all (o::rest) K st
  |none=>.ops all (o::rest) K st
 |g=>g
def AN6 (ids:List Nat):Cfg->Option (FuncId×List AV×List Obj)
 |.ops all (o::_) _ st=>match BW all st.env o,o.op with
  |some true,.call c=>match c.callee with
   |.value f=>match Jt st.Uu (c.args.toList.map (aev st.env))with
    |some (as,Uu)=>match Zt st.env f as with
     |some (fn,as')=>match Fc ids as',M9 ids Uu ids with
      |some a,some ob=>if I5 ids&&GM ob then some (fn,a,ob)else none
      |_,_=>none
     |none=>none
    |none=>none
   |_=>none
  |_,_=>none
 |_=>none
def AN7 (ids:List Nat)(ks:List Bool)(n:Nat):Cfg->Bool
 |.ops _ (o::_) _ st=>match o.op with
  |.call c=>match Jt st.Uu (c.args.toList.map (aev st.env))with
   |some (_,Uu)=>Z6 Uu ids ks (o.dst.getD 0) n
   |none=>false
  |_=>false
 |_=>false
def Bs3 (ids:List Nat)(ks:List Bool)(r:AV)(objs' : List Obj):Cfg->Cfg
 |.ops all (o::rest) K st=>match o.op with
  |.call c=>match Jt st.Uu (c.args.toList.map (aev st.env))with
   |some (_,Uu)=>AN5 o.dst (unA (I3 (o.dst.getD 0) ids ks objs'.length) r) st.env
    (back (I3 (o.dst.getD 0) ids ks objs'.length) (I3 (o.dst.getD 0) ids ks objs'.length) objs' (K9 ids ks Uu)) λst=>.ops all rest K st
   |none=>.ops all (o::rest) K st
  |_=>.ops all (o::rest) K st
 |g=>g
structure BW0 where
 kt:TypeId
 e:TypeId
 key:PV
 es:List (PV×PV)
def Bs4:Cfg->Option BW0
 |.ops all (o::_) _ st=>match BW all st.env o,o.op with
  |some true,.lookup t m k _=>match Fj st.Uu (aev st.env k),aev st.env m with
   |some (key,Uu),.Uz j=>match A2 Uu j,tk P t with
    |some (.map es),some (.map kt e)=>if Jp P kt key then some ⟨kt,e,key,es⟩else none
    |_,_=>none
   |_,_=>none
  |_,_=>none
 |_=>none
def AN8 (e:TypeId):Option PV->Option (PV×Bool)
 |some x=>some (x,true)
 |none=>(Lt P e).map λz=>(z,false)
def Bs5 (x:PV)(b:Bool):Cfg->Cfg
 |.ops all (o::rest) K st=>match o.op with
  |.lookup _ _ k ok=>match Fj st.Uu (aev st.env k)with
   |some (_,Uu)=>AN5 o.dst (ite ok (.tup [.p x,.bool b]) (.p x)) st.env Uu λst=>.ops all rest K st
   |none=>.ops all (o::rest) K st
  |_=>.ops all (o::rest) K st
 |g=>g
def updE:Cfg->Option (TypeId×PV×PV×List (PV×PV))
 |.ops all (o::_) _ st=>match BW all st.env o,o.op with
  |some true,.mapUpdate t m k x=>match aev st.env k,aev st.env m,Fj st.Uu (aev st.env x)with
   |.p key,.Uz j,some (y,Uu)=>match A2 Uu j,tk P t with
    |some (.map es),some (.map kt _)=>if Jp P kt (nP key) then some (kt,nP key,y,es)else none
    |_,_=>none
   |_,_,_=>none
  |_,_=>none
 |_=>none
def updK (es' : List (PV×PV)):Cfg->Cfg
 |.ops all (o::rest) K st=>match o.op with
  |.mapUpdate _ m _ x=>match aev st.env m,Fj st.Uu (aev st.env x)with
   |.Uz j,some (_,Uu)=>AN5 o.dst Qy st.env (ins j (.map es') Uu) λst=>.ops all rest K st
   |_,_=>.ops all (o::rest) K st
  |_=>.ops all (o::rest) K st
 |g=>g
def JE:Cfg->Bool
 |.code (.loop _) _ _=>true
 |_=>false
def Uk:Cfg->Code
 |.code (.loop b) _ _=>b
 |_=>.skip
def popSt:Cfg->Option St
 |.pop .normal _ st=>some st
 |_=>none
def Ab7 (M:It):Nat->List It->List It
 |0,K=>M::K
 |n+1,i::K=>i::Ab7 M n K
 |_+1,[]=>[M]
def midC (n:Nat)(M:St->Prop):Cfg->Cfg
 |.code c K st=>.code c (Ab7 (.mid M) n K) st
 |.ops all rest K st=>.ops all rest (Ab7 (.mid M) n K) st
 |.pop e K st=>.pop e (Ab7 (.mid M) n K) st
def Lm:Cfg->Bool
 |.ops _ (_::_) _ _=>true
 |_=>false
def opsS (st:St):Cfg->Cfg
 |.ops all rest K _=>.ops all rest K st
 |g=>g
def BR7:Cfg->Option St
 |.pop .ret [] st=>some st
 |.pop .normal [] st=>some st
 |_=>none
inductive X9 where
 |eq (x y:PV)
 |fn (n m:Nat) (f g:Nat->List PV)
 |mp (x y:List (PV×PV))
 |yl (x y:List (List PV)) (b c:Bool)
 |nt (a b:Nat)
 |ob (n:Nat) (f g:Nat->Obj)
inductive LV where
 |eq (x:PV)
 |fn (n:Nat) (f:Nat->List PV)
 |mp (x:List (PV×PV))
 |yl (x:List (List PV)) (b:Bool)
 |nt (a:Nat)
 |ob (f:Nat->Obj)
def X9.src:X9->LV
 |.eq x _=>.eq x
 |.fn n _ f _=>.fn n f
 |.mp x _=>.mp x
 |.yl x _ b _=>.yl x b
 |.nt a _=>.nt a
 |.ob _ f _=>.ob f
def X9.tgt:X9->LV
 |.eq _ y=>.eq y
 |.fn _ m _ g=>.fn m g
 |.mp _ y=>.mp y
 |.yl _ y _ c=>.yl y c
 |.nt _ b=>.nt b
 |.ob _ _ g=>.ob g
def X9.ok:X9->Prop
 |.eq x y=>x=y
 |.fn n m f g=>n=m/\∀i,i<n->f i=g i
 |.mp x y=>x=y
 |.yl x y b c=>x=y/\b=c
 |.nt a b=>a=b
 |.ob n f g=>∀i,i<n->f i=g i
theorem X9.ok_of {l:X9}(h:l.src=l.tgt):l.ok:=by
 cases l with
 |eq x y=>simp only[X9.src,X9.tgt,LV.eq.injEq]at h;exact h
 |fn n m f g=>simp only[X9.src,X9.tgt,LV.fn.injEq]at h;obtain⟨rfl,rfl⟩:=h;exact⟨rfl,λ_ _=>rfl⟩
 |mp x y=>simp only[X9.src,X9.tgt,LV.mp.injEq]at h;exact h
 |yl x y b c=>simp only[X9.src,X9.tgt,LV.yl.injEq]at h;exact h
 |nt a b=>simp only[X9.src,X9.tgt,LV.nt.injEq]at h;exact h
 |ob n f g=>simp only[X9.src,X9.tgt,LV.ob.injEq]at h;subst h;exact λ_ _=>rfl
def BJ8:PV->PV->X9
 |.v (.bool b),.bb c=>.eq (.bb b) (.bb c)
 |.v (.slice none 0 0),.sl false _ n f=>.fn 0 n f f
 |.sl nn k n f,.sl false l m g=>if k=l then .fn n m f g else .eq (.sl nn k n f) (.sl false l m g)
 |x,y=>.eq x y
mutual
def Nn (Uu:C6)(ids:List (Nat×Nat))(a b:AV):Option (List X9):=
 match b with
 |.top=>some []
 |.p y=>match viewP Uu a with
  |some x=>some [BJ8 x y]
  |none=>none
 |.reg j off=>match a with | .reg i off'=>if lk ids j=some i/\off=off' then some []else none|_=>none
 |.vec j=>match a with
  |.vec i=>if lk ids j=some i then some []else none
  |.p (.v (.slice none 0 0))=>if lk ids j=none then some []else none
  |_=>none
 |.vecp j n=>match a with | .vecp i m=>if lk ids j=some i/\n=m then some []else none|_=>none
 |.elt j k n off=>match a with | .elt i k' n' off'=>if lk ids j=some i/\k=k' /\ n=n' /\ off=off' then some []else none|_=>none
 |.Uz j=>match a with | .Uz i=>if lk ids j=some i then some []else none|_=>none
 |.yf j=>match a with | .yf i=>if lk ids j=some i then some []else none|_=>none
 |.clo f x y=>match a with
  |.clo f' x' y'=>match Ul Uu ids x' x,Ul Uu ids y' y with|some l,some m=>some (.nt f' f::l++m)|_,_=>none
  |_=>none
 |.tup l=>match a with | .tup l'=>Ul Uu ids l' l|_=>none
 |.agr l=>match a with | .agr l'=>Ul Uu ids l' l|_=>none
def Ul (Uu:C6)(ids:List (Nat×Nat))(a b:List AV):Option (List X9):=
 match b with
 |[]=>match a with | []=>some [] | _=>none
 |y::s=>match a with
  |x::r=>match Nn Uu ids x y,Ul Uu ids r s with|some l,some m=>some (l++m)|_,_=>none
  |[]=>none
end
def Bs6 (Uu:C6)(ids:List (Nat×Nat))(env:Env):Env->Option (List X9)
 |[]=>some []
 |(t,b)::r=>match Nn Uu ids (get env t) b,Bs6 Uu ids env r with|some l,some m=>some (l++m)|_,_=>none
def RN (Uu:C6)(ids:List (Nat×Nat))(o p:Obj):Option (List X9):=
 match p with
 |.cells cs=>match o with | .cells cs'=>Ul Uu ids cs' cs|_=>none
 |.vec e k n f vw=>match o with
  |.vec e' k' m g vw'=>if e=e' /\ k=k' /\ (vw' = true->vw=true)then some [.fn m n g f]else none
  |_=>none
 |.map es=>match o with | .map es'=>some [.mp es' es] | _=>none
 |.arr n f=>match o with | .arr m g=>some [.fn m n (λi=>[g i]) (λi=>[f i])] | _=>none
 |.blk l jr=>match o with | .blk l' jr'=>if lk ids jr=some jr' then some [.ob 1 (λ_=>.blk l' 0) (λ_=>.blk l 0)]else none|_=>none
 |.ghost cs=>match o with | .ghost cs'=>Ul Uu ids cs' cs|_=>none
 |.yld r b=>match o with | .yld r' b'=>some [.yl r' r b' b] | _=>none
 |.fam e n jr x=>match o with
  |.fam e' m jr' x'=>if e=e' /\ lk ids jr=some jr' then (match x,x' with
   |none,none=>some [.nt m n]
   |some (i,a),some (i',a')=>match nov a' a,Nn Uu ids a' a with
    |true,some l=>some (.nt m n :: .nt i' i::l)
    |_,_=>none
   |_,_=>none)else none
  |_=>none
 |.rows n g=>match o with | .rows m g'=>some [.nt m n,.ob n g' g] | _=>none
 |.dead=>some []
def Bs7 (Uu:C6)(ids:List (Nat×Nat)):C6->Option (List X9)
 |[]=>some []
 |(j,p)::r=>match (match lk ids j with
  |some i=>match A2 Uu i with
   |some o=>RN Uu ids o p
   |none=>none
  |none=>match p with
   |.vec _ _ n f _=>some [.fn 0 n f f]
   |_=>none:Option (List X9)),Bs7 Uu ids r with
  |some l,some m=>some (l++m)
  |_,_=>none
def leK (ids:List (Nat×Nat))(s t:St):Option (List X9):=
 if (wf t&&I5 (ids.map (·.2))&&AK7 ids&&Vo ids t.Uu&&Px ids (seen s.env t.env++MZ ids s.Uu t.Uu) t.Uu) then
  match Bs6 s.Uu ids s.env t.env,Bs7 s.Uu ids t.Uu with
  |some l,some m=>some (l++m)
  |_,_=>none
 else none
def Bs8 {x y:PV}(h:(BJ8 x y).ok):leP x y:=by
 unfold BJ8 at h;split at h
 .simp only[X9.ok,PV.bb.injEq]at h;subst h;exact .inr (by grind)
 .obtain⟨rfl,_⟩:=h;exact .inr (by grind)
 .split at h
  .rename_i hk;subst hk;obtain⟨rfl,h⟩:=h;exact .inr (by grind)
  exact .inl h
 exact .inl h
def RO {l m:List X9}(h:∀x∈l++m,x.ok):(∀x∈l,x.ok)/\∀x∈m,x.ok:=
 (by grind)
mutual
theorem XC {Uu:C6}{ids:List (Nat×Nat)}{a:AV}(b:AV){L:List X9}(h:Nn Uu ids a b=some L)(hL:∀x∈L,x.ok):leA Uu ids a b:=by
 cases b with
 |top=>unfold leA;trivial
 |p y=>
  unfold Nn at h;split at h
  .rename_i x hx;cases h;unfold leA;exact⟨x,hx,Bs8 (hL _ (by simp))⟩
  cases h
 |reg j off=>
  unfold Nn at h;split at h
  .split at h
   .rename_i c;obtain⟨h1,rfl⟩:=c;exact BU3 h1
   cases h
  cases h
 |vec j=>
  unfold Nn at h;split at h
  .split at h
   .rename_i h1;exact BU2 h1
   cases h
  .split at h
   .rename_i h1;exact BH5 h1
   cases h
  cases h
 |vecp j n=>
  unfold Nn at h;split at h
  .split at h
   .rename_i c;obtain⟨h1,rfl⟩:=c;unfold leA;exact⟨_,h1,rfl⟩
   cases h
  cases h
 |elt j k n off=>
  unfold Nn at h;split at h
  .split at h
   .rename_i c;obtain⟨h1,rfl,rfl,rfl⟩:=c;unfold leA;exact⟨_,h1,rfl⟩
   cases h
  cases h
 |Uz j=>
  unfold Nn at h;split at h
  .split at h
   .rename_i h1;exact AY2 h1
   cases h
  cases h
 |yf j=>
  unfold Nn at h;split at h
  .split at h
   .rename_i h1;exact le_yf h1
   cases h
  cases h
 |clo f x y=>
  unfold Nn at h;split at h
  .split at h
   .rename_i l m h1 g;cases h;have d:=hL _ (Co8 ..);simp only[X9.ok]at d;subst d;obtain⟨i,o⟩:=RO λx hx=>hL x (Ci7 _ hx);exact BU4 (Io x h1 i) (Io y g o)
   cases h
  cases h
 |tup l=>
  unfold Nn at h;split at h
  .exact BV8 (Io l h hL)
  cases h
 |agr l=>
  unfold Nn at h;split at h
  .exact BV9 (Io l h hL)
  cases h
theorem Io {Uu:C6}{ids:List (Nat×Nat)}{a:List AV}(b:List AV){L:List X9}(h:Ul Uu ids a b=some L)(hL:∀x∈L,x.ok):leL Uu ids a b:=by
 cases b with
 |nil=>
  unfold Ul at h;split at h
  .exact BH6
  cases h
 |cons y s=>
  unfold Ul at h;split at h
  .split at h
   .rename_i l m h1 c;cases h;obtain⟨d,f⟩:=RO hL;exact Bo4 (XC y h1 d) (Io s c f)
   cases h
  cases h
end
theorem AF1 {Uu:C6}{ids:List (Nat×Nat)}{env:Env}:∀(t:Env) {L:List X9},Bs6 Uu ids env t=some L->(∀x∈L,x.ok)->Rn Uu ids env t
 |[],_,_,_=>trivial
 |(t,b)::r,L,h,hL=>by
  simp only[Bs6]at h;split at h
  .rename_i l m h1 a;cases h;obtain⟨c,d⟩:=RO hL;exact⟨XC b h1 c,AF1 r a d⟩
  grind
theorem Bs9 {Uu:C6}{ids:List (Nat×Nat)}{o p:Obj}{L:List X9}(h:RN Uu ids o p=some L)(hL:∀x∈L,x.ok):leO Uu ids o p:=by
 cases p with
 |cells cs=>
  simp only[RN]at h
  grind[Bo5,Io]
 |vec e k n f vw=>
  simp only[RN]at h
  repeat' split at h<;>try contradiction
  rename_i c;obtain⟨rfl,rfl,i⟩:=c;cases h;obtain⟨rfl,h1⟩:=hL _ (Ck2.2 rfl);exact⟨_,_,rfl,h1,i⟩
 |map es=>
  simp only[RN]at h;split at h
  .cases h
   have:=hL _ (Ck2.2 rfl)
   simp only[X9.ok]at this;subst this;rfl
  grind
 |blk l jr=>
  simp only[RN]at h
  repeat' split at h<;>try contradiction
  rename_i c;cases h;have h1:=hL _ (Ck2.2 rfl);have j:=h1 0 (Ct4 0);cases j;exact⟨_,rfl,c⟩
 |arr n f=>
  simp only[RN]at h;split at h
  .cases h;obtain⟨rfl,h1⟩:=hL _ (Ck2.2 rfl);exact⟨_,rfl,by grind⟩
  grind
 |ghost cs=>
  simp only[RN]at h;split at h
  .exact⟨_,rfl,Io cs h hL⟩
  grind
 |yld r b=>
  simp only[RN]at h;split at h
  .cases h;obtain⟨rfl,rfl⟩:=hL _ (Ck2.2 rfl);rfl
  grind
 |fam e n jr x=>
  simp only[RN]at h;split at h
  .split at h
   .rename_i m;obtain⟨rfl,d⟩:=m;split at h
    .cases h;have a:=hL _ (Co8 ..);simp only[X9.ok]at a;subst a;exact⟨_,_,rfl,d,rfl⟩
    .split at h
     .rename_i hn hl;cases h;have a:=hL _ (Co8 ..);have h1:=hL _ (Ci7 _ (Co8 ..));simp only[X9.ok]at a h1;subst a h1;exact⟨_,_,rfl,d,_,rfl,hn,XC _ hl (by grind)⟩
     grind
    grind
   grind
  grind
 |rows n g=>
  simp only[RN]at h;split at h
  .cases h;have a:=hL _ (Co8 ..);simp only[X9.ok]at a;subst a;exact⟨_,rfl,hL (.ob _ _ _) (by simp)⟩
  grind
 |dead=>trivial
theorem AF2 {Uu:C6}{ids:List (Nat×Nat)}:∀(t:C6) {L:List X9},Bs7 Uu ids t=some L->(∀x∈L,x.ok)->ZD Uu ids t
 |[],_,_,_=>trivial
 |(j,p)::r,L,h,hL=>by
  simp only[Bs7]at h;split at h
  .rename_i l m h1 a;cases h;obtain⟨b,c⟩:=RO hL;refine⟨?_,AF2 r a c⟩;split at h1
   .grind[Bs9]
   rename_i d;split at h1
   .cases h1;obtain⟨rfl,_⟩:=b _ (Ck2.2 rfl)
    grind
   grind
  grind
def BC9 {ids:List (Nat×Nat)}{s t:St}{L:List X9}(h:leK ids s t=some L)(hL:∀x∈L,x.ok):Le ids s t:=by
 unfold leK at h
 repeat' split at h<;>try contradiction
 rename_i hw _ _ l m h1 a;cases h;obtain⟨b,c⟩:=RO hL
 grind[le_mk,AF1,AF2]
def kle {ids:List (Nat×Nat)}{s t:St}(h:(leK ids s t).map (·.map X9.src)=(leK ids s t).map (·.map X9.tgt):=by kernel_rfl)(h1:(leK ids s t).isSome=true:=by kernel_rfl):Le ids s t:=by
 obtain⟨L,hL⟩:=Cf3.1 h1;rw[hL]at h;simp only[Cf0,Cd9]at h;refine BC9 hL λx hx=>?_;obtain⟨i,a,rfl⟩:=Cm8.1 hx
 have:=congrArg (·[i]?) h
 grind[List.getElem?_eq_getElem,Option.some.injEq,X9.ok_of]
def Bt0 (is:List Nat)(f:X9->LV)(L:List X9):List (Option LV):=L.zipIdx.map λq=>ite (is.contains q.2) none (some (f q.1))
def kleR {ids:List (Nat×Nat)}{s t:St}(rs:List (Nat×X9))(c:∀q∈rs,q.2.ok)(h:(leK ids s t).map (Bt0 (rs.map (·.1)) X9.src)=(leK ids s t).map (Bt0 (rs.map (·.1)) X9.tgt):=by kernel_rfl)
 (a:(leK ids s t).map (λL=>rs.map λq=>L[q.1]?)=some (rs.map λq=>some q.2):=by kernel_rfl):Le ids s t:=by
 cases hL:leK ids s t with
 |none=>rw[hL]at a;grind
 |some L=>
  rw[hL]at h a;simp only[Cf0,Cd9]at h a;refine BC9 hL λx hx=>?_;obtain⟨i,d,rfl⟩:=Cm8.1 hx;by_cases hm:(rs.map (·.1)).contains i=true
  .simp only[Ch6,Lq,Cl0]at hm;obtain⟨q,b,rfl⟩:=hm;obtain⟨k,hk,rfl⟩:=Cm8.1 b
   have:=congrArg (·[k]?) a
   grind
  have:=congrArg (·[i]?) h
  simp_all[Bt0,X9.ok_of]
end
section
variable {P:Program}
variable {S:X4}{F:M0}{g:Cfg}{pr:Prop}
def GK (hS:H3 S P)(hc:pr)(h:G S P F (stp P g))(hp:pr=D2 (cnd P g):=by kernel_rfl):G S P F g:=
 (Ig (F:=F) hS 400 [] g (by subst hp;exact hc)).2 h
end
section
variable {S:X4}{P:Program}{F:M0}{g:Cfg}{pr:Prop}
theorem No (hS:H3 S P){K1 K2:List It}(h:∀e s,kp S P K1 F e s->kp S P K2 F e s):∀(K:List It) (e:Rk) (s:St),kp S P (K++K1) F e s->kp S P (K++K2) F e s
 |[],e,s,hk=>h e s hk
 |.code c::K,e,s,hk=>by simp only[Ce9,kp]at hk⊢;exact XA hS (λt=>Dr hS c (No hS h K)) (No hS h K) e s hk
 |.blk id::K,e,s,hk=>by
  simp only[Ce9,kp]at hk⊢;cases e with
  |exit i=>
   simp only[blk]at hk⊢;split at hk
   .rename_i a;rw[Jk a];exact No hS h K _ _ hk
   rename_i a;rw[Js a];exact No hS h K _ _ hk
  |_=>exact No hS h K _ _ hk
 |.lp X s' J m n::K,e,s,hk=>by
  simp only[Ce9,kp]at hk⊢;cases e with
  |normal=>exact hk
  |_=>exact No hS h K _ _ hk
 |.mid M::K,e,s,hk=>by simp only[Ce9,kp]at hk⊢;exact XA hS (λt h=>h) (No hS h K) e s hk
 |.scp::K,e,s,hk=>by
  simp only[Ce9,kp]at hk⊢;cases e with
  |goto l=>exact hk
  |_=>exact No hS h K _ _ hk
def AF3 (M:It):∀(n:Nat) (K:List It),n<=K.length->Ab7 M n K=K.take n++M::K.drop n
 |0,K,_=>by simp[Ab7]
 |n+1,i::K,h=>by simp only[Ab7,Cp7,List.drop_succ_cons,Ce9,AF3 M n K (by grind)]
 |n+1,[],h=>by grind
def BD0 (hS:H3 S P)(a:∀s,S.up s (F .normal)->F .normal s)(n:Nat)(hn:n<=g.k.length){M:St->Prop}(b:∀t,M t->G S P F (.pop .normal (g.k.drop n) t))(h:G S P F (midC n M g)):G S P F g:=by
 have hk:∀e s,kp S P (Ab7 (.mid M) n g.k) F e s->kp S P g.k F e s:=by
  intro e s;rw[AF3 _ _ _ hn]
  conv=>rhs;rw[<- Cp1 n g.k]
  grind[No,BV6]
 cases g with
 |code c K st=>exact Dr hS c hk h
 |ops all rest K st=>exact JC hS hk rest h
 |pop e K st=>exact hk e st h
def XD {g:Cfg}(h:JE g=true):g=.code (.loop (Uk g)) g.k g.st:=by
 unfold JE at h;split at h
 .rfl
 grind
def AN9 (P:Program)(st:St)(rs:List ResultVar)(outs:List Nat):Option (AV×List Obj):=match Jv P st rs with
 |some l=>match Zs outs (one l),M9 outs st.Uu outs with
  |some a,some o=>if I5 outs then some (a,o)else none
  |_,_=>none
 |none=>none
def BJ9 (hS:H3 S P){f:FuncId}{fn:Func}{args:List AV}{objs objs' : List Obj}{ks:List Bool}{r:AV}(d:P.funcs[f]? = some fn)
 (h:G S P (Fk S P objs.length fn.results.toList λres o k=>res=.ret r/\o=objs' /\ k=ks) (.code (fn.body.getD .skip) [] { env:=Yl args,Uu:=Uv objs }))
 (hc:fn.body.isSome=true:=by kernel_rfl) (hn:Nat.ble args.length fn.ntmps=true:=by kernel_rfl) (g:Nat.blt objs.length 1000=true:=by kernel_rfl)
 (b:BV fn.ntmps (fn.body.getD .skip)=true:=by kernel_rfl) (c:(fn.name == "runtime.NumGoroutine")=false:=by kernel_rfl):Uw S f args objs r objs' ks:=by
 obtain⟨code,a⟩:=Cf3.1 hc;rw[a,Ce6]at b h;exact AY3 hS d a (Ci9 hn) (by simp_all) rfl b c h
def al0:∀q∈([]:List (Nat×X9)),q.2.ok:=λ_ h=>by cases h
def al1 {i:Nat}{l:X9}{rs:List (Nat×X9)}(h:l.ok)(t:∀q∈rs,q.2.ok):∀q∈(i,l)::rs,q.2.ok:=by grind
structure SC where
 all:List Oper
 cls:List Cls
 rest:List Oper
 env:Env
 Uu:C6
 kn:List Nat
def SG (S:X4)(P:Program)(sc:SC)(k:Env->C6->Prop):Prop:=MU S P sc.all sc.cls sc.rest sc.env sc.Uu k
def Ds (P:Program)(sc:SC):SC:=match Uc P sc.kn sc.all sc.cls sc.rest [] sc.env sc.Uu with
 |⟨_,cls,rest,env,Uu⟩=>⟨sc.all,cls,rest,env,Uu,sc.kn⟩
def VK (P:Program)(sc:SC):List Prop:=(Uc P sc.kn sc.all sc.cls sc.rest [] sc.env sc.Uu).conds
def DW:Cfg->Bool
 |.code (.region _ _ true) _ _=>true
 |_=>false
def JF:Cfg->SC
 |.code (.region _ ops true) _ st=>⟨ops.toList,ops.toList.map λo=>Cc5 o.op,ops.toList,st.env,st.Uu,[]⟩
 |_=>⟨[],[],[],[],[],[]⟩
def BK0 (hS:H3 S P)(hc:pr)
 (h:SG S P (JF (stp P g)) λenv Uu=>G S P F (.pop .normal (stp P g).k ⟨env,Uu⟩)) (hp:pr=D2 (cnd P g):=by kernel_rfl) (c:DW (stp P g)=true:=by kernel_rfl) (a:P.follows .mixedOrders=true:=by kernel_rfl) (b:PE (JF (stp P g)).all (JF (stp P g)).cls=true:=by kernel_rfl):G S P F g:=by
 refine GK hS hc ?_ hp;generalize stp P g=g' at c b h;unfold DW at c;split at c
 .exact Br7 hS a rfl b h
 grind
section
variable {sc:SC}{k:Env->C6->Prop}
def Bc2 (hc:pr)(h:SG S P (Ds P sc) k)(hp:pr=D2 (VK P sc):=by kernel_rfl):SG S P sc k:=by
 subst hp;unfold Ds at h;unfold VK at hc;unfold SG at *;generalize a:Uc P sc.kn sc.all sc.cls sc.rest [] sc.env sc.Uu=r at h hc;obtain⟨c,cls,rest,env,Uu⟩:=r
 grind[s_go]
def C_end (hc:pr)(h:k (Ds P sc).env (Ds P sc).Uu)(hp:pr=D2 (VK P sc):=by kernel_rfl)(a:(Ds P sc).rest.isEmpty=true:=by kernel_rfl):SG S P sc k:=by
 refine Bc2 hc ?_ hp;generalize Ds P sc=s at a h;obtain⟨all,cls,rest,env,Uu,kn⟩:=s;cases rest with
 |nil=>exact s_end h
 |cons=>grind
def Bt1 {R:Type _}(d:Option Nat)(a:AV)(env:Env)(Uu:C6)(κ : Env->C6->R):R:=match d with
 |some d=>mkO (ins d a env) Uu κ
 |none=>mkO env Uu κ
def Ga {R:Type _}(d:Option Nat)(a:AV)(env:Env)(Uu:C6)(κ : Env->C6->R):Bt1 d a env Uu κ = κ (QZ d a env) Uu:=by cases d<;>simp only[Bt1,GR,QZ]
def BD1:∀{env:Env}{i d:Nat}{b:AV},Bo0 ((i,b)::env)=true->get env d ≠ .top->d<i
 |[],_,_,_,_,h=>Ke rfl h
 |(j,c)::r,i,d,b,hd,h=>by
  simp only[Bo0,Ce2,Lq]at hd;by_cases e:j=d
  .omega
  simp only[get,e,Lp]at h;exact Nat.lt_trans (BD1 hd.2 h) hd.1
def XE:∀{env:Env}{d:Nat}{a:AV},Bo0 env=true->get env d=a->a ≠ .top->ins d a env=env
 |[],_,_,_,h,hn=>Ke h.symm hn
 |(i,b)::r,d,a,hd,h,hn=>by
  by_cases e:i=d
  .simp_all[get,Lo,ins]
  simp only[get,e,Lp]at h;have c:=BD1 hd (by rw[h];omega);have f:Bo0 r=true:=by
   cases r with
   |nil=>rfl
   |cons p r=>simp_all[Bo0,Ce2]
  simp only[ins,show ¬i<d by omega,e,Lp,XE f h hn]
def XF (sc:SC):Option Bool:=match sc.rest with
 |o::_=>match o.guard with
  |some (j,_)=>match BU0 sc.all j with
   |some d=>match get sc.env d with
    |.p (.bb b)=>if Bo0 sc.env then some b else none
    |_=>none
   |none=>none
  |none=>none
 |[]=>none
def RQ (v:Bool)(sc:SC):SC:=match sc.rest with
 |o::_=>match o.guard with
  |some (j,_)=>match BU0 sc.all j with
   |some d=>mkO (ins d (.p (.bb v)) sc.env) sc.Uu λenv Uu=>⟨sc.all,sc.cls,sc.rest,env,Uu,j::sc.kn⟩
   |none=>sc
  |none=>sc
 |[]=>sc
def VL (ids:List Nat)(sc:SC):Option (FuncId×List AV×List Obj):=match sc.rest with
 |o::_=>match AN sc.all sc.env o,o.op with
  |some true,.call c=>match c.callee with
   |.value f=>match Jt sc.Uu (c.args.toList.map (aev sc.env))with
    |some (as,Uu)=>match Zt sc.env f as with
     |some (fn,as')=>match Fc ids as',M9 ids Uu ids with
      |some a,some ob=>if I5 ids&&GM ob then some (fn,a,ob)else none
      |_,_=>none
     |none=>none
    |none=>none
   |_=>none
  |_,_=>none
 |[]=>none
def Bt2 (js:List Nat):AV->Bool
 |.vec j=>js.contains j
 |.vecp j _=>js.contains j
 |_=>true
def AF4 {js:List Nat}{regs' : C6}:∀{l:List AV}{Uu:C6}{as:List AV},l.all (Bt2 js)=true->Jt Uu l=some (as,regs')->∀q,q ∉ js->A2 regs' q=A2 Uu q
 |[],Uu,as,_,h,q,_=>by grind[Jt,Option.some.injEq,Prod.mk.injEq]
 |a::r,Uu,as,hl,h,q,hq=>by
  simp only[Cm3,Ce2]at hl;simp only[Jt]at h
  repeat' split at h<;>try contradiction
  rename_i x R1 h1 _ l1 R2 c;simp at h;obtain⟨_,rfl⟩:=h;rw[AF4 hl.2 c q hq];cases a with
  |vec j=>
   simp only at h1;split at h1
   .rename_i x2 R3 b;cases h1;exact Xz (by grind[inJ,Bt2]) b q hq
   grind
  |vecp j m=>
   simp only at h1;split at h1
   .rename_i x2 R3 b;cases h1;exact Xz (by grind[inJ,Bt2]) b q hq
   grind
  |_=>cases h1;rfl
def BW1 (R:C6)(a:AV):Option (AV×C6):=match a with | .vec _ | .vecp _ _=>(match Fj R a with|some (x,Uu)=>some (AV.p x,Uu)|none=>none)|a=>some (a,R)
def Bc3 (R:C6)(a:AV)(r:List AV):Jt R (a::r)=match BW1 R a with
 |some (a,Uu)=>match Jt Uu r with
  |some (l,Uu)=>some (a::l,Uu)
  |none=>none
 |none=>none:=rfl
def Bt3 {js:List Nat}{a x:AV}{R R2 R' : C6}(hl:inJ js a=true)(b:∀q∈js,A2 R2 q=A2 R q)(hx:BW1 R a=some (x,R')):∃R3,BW1 R2 a=some (x,R3)/\(∀q∈js,A2 R3 q=A2 R' q)/\∀q,q ∉ js->A2 R3 q=A2 R2 q:=by
 have up:∀(i:Nat) (o:Obj),i∈js->(∀q∈js,A2 (ins i o R2) q=A2 (ins i o R) q)/\∀q,q ∉ js->A2 (ins i o R2) q=A2 R2 q:=λi o f=>
  ⟨λq c=>by rw[O4,O4,b q c],λq c=>by rw[O4,Js (by grind)]⟩
 cases a with
 |p y=>cases hx;exact⟨R2,rfl,b,λ_ _=>rfl⟩
 |vec j=>
  have d:j∈js:=by grind[inJ]
  grind[BW1,Fj]
 |vecp j m=>
  have d:j∈js:=by grind[inJ]
  grind[BW1,Fj]
 |_=>cases hl
def XG {js:List Nat}:∀{l:List AV}{R R2 R1:C6}{as:List AV},l.all (inJ js)=true->(∀q∈js,A2 R2 q=A2 R q)->Jt R l=some (as,R1) ->
 ∃R3,Jt R2 l=some (as,R3)/\(∀q∈js,A2 R3 q=A2 R1 q)/\∀q,q ∉ js->A2 R3 q=A2 R2 q
 |[],R,R2,R1,as,_,h2,h=>by simp only[Jt,Cd9,Cf2]at h;obtain⟨rfl,rfl⟩:=h;exact⟨R2,rfl,h2,λ_ _=>rfl⟩
 |a::r,R,R2,R1,as,hl,h2,h=>by
  simp only[Cm3,Ce2]at hl;simp only[Bc3]at h⊢;split at h
  .rename_i x R' hx;obtain⟨R3,e1,e2,e3⟩:=Bt3 hl.1 h2 hx;split at h
   .rename_i l1 R'' b;simp at h;obtain⟨rfl,rfl⟩:=h;obtain⟨R4,f1,f2,f3⟩:=XG hl.2 e2 b
    simp_all
   grind
  grind
def RR {m:List Nat}:∀{ids:List Nat}{objs:List Obj}{A B:C6}{q:Nat},A2 A q=A2 B q->A2 (back m ids objs A) q=A2 (back m ids objs B) q
 |[],_,_,_,_,h=>h
 |_::_,[],_,_,_,h=>h
 |j::ids,o::objs,A,B,q,h=>by simp only[back];exact RR (by rw[O4,O4,h])
def BK1 {all:List Oper}{k:Env->C6->Prop}{js:List Nat}{cls:List Cls}{o:Oper}{rest:List Oper}{env:Env}{Uu regs1:C6}{c:Call}{f:Operand}{as:List AV}{fn:FuncId}{as' args:List AV}{objs' : List Obj}{ks:List Bool}{r:AV}
 (j:AN all env o=some true) (l:o.op=.call c) (m:c.callee=.value f) (d:(c.args.toList.map (aev env)).all (inJ js)=true)
 (ha:Jt Uu (c.args.toList.map (aev env))=some (as,regs1)) (hw:Zt env f as=some (fn,as')) (n:Fc [] as' = some args) (s:Uw S fn args [] r objs' ks)
 (g:((I3 (o.dst.getD 0) [] ks objs'.length).all λq=>js.contains q)=true) (hn:Z6 regs1 [] ks (o.dst.getD 0) objs'.length=true)
 (hk:MU S P all cls rest (QZ o.dst (unA (I3 (o.dst.getD 0) [] ks objs'.length) r) env) (back (I3 (o.dst.getD 0) [] ks objs'.length) (I3 (o.dst.getD 0) [] ks objs'.length) objs' (K9 [] ks regs1)) k) :
 MU S P all (.a js::cls) (o::rest) env Uu k:=by
 have i:∀q,q ∉ js->q ∉ I3 (o.dst.getD 0) [] ks objs'.length:=(by grind);refine⟨true,j,?_⟩;rw[Jk rfl];refine⟨_,_,.inr (.inr (.inr (.inr ⟨js,rfl,λq b=>?_,λR2 t=>?_⟩))),hk⟩
 .rw[KS (i q b)];obtain⟨R3,e1,_,e3⟩:=XG (R2:=Uu) d (λ_ _=>rfl) ha;rw[ha]at e1;cases e1;exact e3 q b
 obtain⟨R3,e1,e2,e3⟩:=XG d t ha;refine⟨_,⟨c,f,as,R3,fn,as',args,[],objs',ks,r,[],l,m,e1,hw,n,rfl,s,rfl,rfl,?_,rfl,rfl⟩,λq b=>RR (e2 q b),λq b=>(KS (i q b)).trans (e3 q b)⟩;unfold Z6 at hn⊢;rw[Ce8]at hn⊢;intro p hp;have h1:=hn p hp;have u:nid (o.dst.getD 0) p∈js:=by
  have:=Ce8.1 g (nid (o.dst.getD 0) p) (by unfold I3;exact Cl0.2 ⟨p,hp,rfl⟩)
  simpa using this
 show (A2 R3 (nid (o.dst.getD 0) p)).isNone=true;rw[e2 _ u];exact h1
def VM (ids:List Nat)(ks:List Bool)(n:Nat)(sc:SC):Bool:=match sc.cls,sc.rest with
 |.w::_,o::_=>match o.op with
  |.call c=>match Jt sc.Uu (c.args.toList.map (aev sc.env))with
   |some (_,Uu)=>Z6 Uu ids ks (o.dst.getD 0) n
   |none=>false
  |_=>false
 |.b js::_,o::_=>match o.op with
  |.call c=>match Jt sc.Uu (c.args.toList.map (aev sc.env))with
   |some (_,Uu)=>((c.args.toList.map (aev sc.env)).all (Bt2 js)&&ids.isEmpty)&&(((I3 (o.dst.getD 0) ids ks n).all λq=>js.contains q)&&Z6 Uu ids ks (o.dst.getD 0) n)
   |none=>false
  |_=>false
 |.a js::_,o::_=>match o.op with
  |.call c=>match Jt sc.Uu (c.args.toList.map (aev sc.env))with
   |some (_,Uu)=>((c.args.toList.map (aev sc.env)).all (inJ js)&&ids.isEmpty)&&(((I3 (o.dst.getD 0) ids ks n).all λq=>js.contains q)&&Z6 Uu ids ks (o.dst.getD 0) n)
   |none=>false
  |_=>false
 |_,_=>false
def VN (ids:List Nat)(ks:List Bool)(r:AV)(objs' : List Obj)(sc:SC):SC:=match sc.rest with
 |o::rest=>match o.op with
  |.call c=>match Jt sc.Uu (c.args.toList.map (aev sc.env))with
   |some (_,Uu)=>Bt1 o.dst (unA (I3 (o.dst.getD 0) ids ks objs'.length) r) sc.env
    (back (I3 (o.dst.getD 0) ids ks objs'.length) (I3 (o.dst.getD 0) ids ks objs'.length) objs' (K9 ids ks Uu)) λenv Uu=>⟨sc.all,sc.cls.tail,rest,env,Uu,sc.kn⟩
   |none=>sc
  |_=>sc
 |[]=>sc
def AF5 (sc:SC):Bool:=match sc.cls,sc.rest with
 |_::_,o::_=>match o.op with
  |.call c=>(c.args.toList.map (aev sc.env)).all Ba9
  |_=>false
 |_,_=>false
def AF6 (sc:SC):Option (FuncId×List AV):=match sc.rest with
 |o::_=>match AN sc.all sc.env o,o.op with
  |some true,.call c=>match c.callee with
   |.value f=>match Zt sc.env f (c.args.toList.map (aev sc.env))with
    |some (fn,as')=>match Fc [] as' with
     |some a=>some (fn,a)
     |none=>none
    |none=>none
   |_=>none
  |_,_=>none
 |[]=>none
def Bc4 (r:AV)(sc:SC):SC:=match sc.rest with
 |o::rest=>Bt1 o.dst (unA [] r) sc.env sc.Uu λenv Uu=>⟨sc.all,sc.cls.tail,rest,env,Uu,sc.kn⟩
 |[]=>sc
def Mx (P:Program)(sc:SC):Option (List Prop×PV):=match sc.cls,sc.rest with
 |_::_,o::_=>match AN sc.all sc.env o with
  |some true=>Zr P sc.env o.op
  |_=>none
 |_,_=>none
def Bc5 (x:PV)(sc:SC):SC:=match sc.rest with
 |o::rest=>Bt1 o.dst (.p x) sc.env sc.Uu λenv Uu=>⟨sc.all,sc.cls.tail,rest,env,Uu,sc.kn⟩
 |[]=>sc
def VO (P:Program)(sc:SC):Option BW0:=match sc.cls,sc.rest with
 |cl::_,o::_=>match AN sc.all sc.env o,o.op with
  |some true,.lookup t m q _=>match Fj sc.Uu (aev sc.env q),aev sc.env m with
   |some (key,Uu),.Uz j=>match A2 Uu j,tk P t with
    |some (.map es),some (.map kt e)=>if (Jp P kt key&&Aa9 cl sc.env (o.dst.getD 0) o.op) then some ⟨kt,e,key,es⟩else none
    |_,_=>none
   |_,_=>none
  |_,_=>none
 |_,_=>none
def AF7 (x:PV)(b:Bool)(sc:SC):SC:=match sc.rest with
 |o::rest=>match o.op with
  |.lookup _ _ q ok=>match Fj sc.Uu (aev sc.env q)with
   |some (_,Uu)=>Bt1 o.dst (ite ok (.tup [.p x,.bool b]) (.p x)) sc.env Uu λenv Uu=>⟨sc.all,sc.cls.tail,rest,env,Uu,sc.kn⟩
   |none=>sc
  |_=>sc
 |[]=>sc
def AO0 (P:Program)(sc:SC):Option (TypeId×PV×PV×List (PV×PV)):=match sc.cls,sc.rest with
 |.w::_,o::_=>match AN sc.all sc.env o,o.op with
  |some true,.mapUpdate t m q x=>match aev sc.env q,aev sc.env m,Fj sc.Uu (aev sc.env x)with
   |.p key,.Uz j,some (y,Uu)=>match A2 Uu j,tk P t with
    |some (.map es),some (.map kt _)=>if Jp P kt (nP key) then some (kt,nP key,y,es)else none
    |_,_=>none
   |_,_,_=>none
  |_,_=>none
 |_,_=>none
def BK2 (es' : List (PV×PV))(sc:SC):SC:=match sc.rest with
 |o::rest=>match o.op with
  |.mapUpdate _ m _ x=>match aev sc.env m,Fj sc.Uu (aev sc.env x)with
   |.Uz j,some (_,Uu)=>Bt1 o.dst Qy sc.env (ins j (.map es') Uu) λenv Uu=>⟨sc.all,sc.cls.tail,rest,env,Uu,sc.kn⟩
   |_,_=>sc
  |_=>sc
 |[]=>sc
end
end
structure KG (S:X4) (P:Program) (F:M0) (g:Cfg):Prop where
 out:G S P F g
structure DG (S:X4) (P:Program) (sc:SC) (k:Env->C6->Prop):Prop where
 out:SG S P sc k
mutual
def idA (a b:AV):List (Nat×Nat):=
 match b with
 |.reg j _=>(match a with | .reg i _=>[(j,i)] | _=>[])
 |.vec j=>(match a with | .vec i=>[(j,i)] | _=>[])
 |.vecp j _=>(match a with | .vecp i _=>[(j,i)] | _=>[])
 |.elt j _ _ _=>(match a with | .elt i _ _ _=>[(j,i)] | _=>[])
 |.Uz j=>(match a with | .Uz i=>[(j,i)] | _=>[])
 |.yf j=>(match a with | .yf i=>[(j,i)] | _=>[])
 |.clo _ x y=>(match a with | .clo _ x' y'=>idL x' x++idL y' y|_=>[])
 |.tup l=>(match a with | .tup l'=>idL l' l|_=>[])
 |.agr l=>(match a with | .agr l'=>idL l' l|_=>[])
 |_=>[]
def idL (a b:List AV):List (Nat×Nat):=
 match b with
 |[]=>[]
 |y::s=>(match a with|x::r=>idA x y++idL r s | []=>[])
end
def idO (o p:Obj):List (Nat×Nat):=
 match p,o with
 |.cells l,.cells l'=>idL l' l
 |.ghost l,.ghost l'=>idL l' l
 |.blk _ j,.blk _ i=>[(j,i)]
 |.fam _ _ j x,.fam _ _ i y=>(j,i)::(match x,y with|some (_,b),some (_,a)=>idA a b|_,_=>[])
 |_,_=>[]
def idC (r q:C6):Nat->List (Nat×Nat)->List (Nat×Nat)->List (Nat×Nat)
 |0,_,l=>l
 |_+1,[],l=>l
 |n+1,(j,i)::w,l=>ite (l.any (λx=>Nat.beq x.1 j)) (idC r q n w l) (idC r q n ((match A2 r i,A2 q j with|some o,some p=>idO o p|_,_=>[])++w) ((j,i)::l))
def idsOf (s t:St):List (Nat×Nat):= t.Uu.foldr (λx l=>ite (l.any (λy=>Nat.beq y.1 x.1)) l (ite ((A2 s.Uu x.1).isSome) ((x.1,x.1)::l) l)) (idC s.Uu t.Uu 300 ((t.env.flatMap λx=>idA (get s.env x.1) x.2)++(t.Uu.filter λx=>Nat.blt x.1 1000).map λx=>(x.1,x.1)) [])
abbrev leI (s t:St):Option (List X9):=leK (idsOf s t) s t
structure KLe (s t:St):Prop where
 out:∃ids,Le ids s t
section
variable {S:X4}{P:Program}{F:M0}{g:Cfg}{pr:Prop}
def kl {s t:St}(h:(leI s t).map (·.map X9.src)=(leI s t).map (·.map X9.tgt):=by kernel_rfl)(h1:(leI s t).isSome=true:=by kernel_rfl):KLe s t:=⟨_,kle h h1⟩
def klR {s t:St}(rs:List (Nat×X9))(a:∀q∈rs,q.2.ok)(h:(leI s t).map (Bt0 (rs.map (·.1)) X9.src)=(leI s t).map (Bt0 (rs.map (·.1)) X9.tgt):=by kernel_rfl)
 (b:(leI s t).map (λL=>rs.map λq=>L[q.1]?)=some (rs.map λq=>some q.2):=by kernel_rfl):KLe s t:=⟨_,kleR rs a h b⟩
def O0 (hS:H3 S P)(hc:pr){b:Bool}(ht:b=true->KG S P F (Bc0 (stp P g)))(a:b=false->KG S P F (Bc1 (stp P g)))(hp:pr=D2 (cnd P g):=by kernel_rfl)(hb:Ar1 (stp P g)=some b:=by kernel_rfl):KG S P F g:=by
 refine⟨?_⟩;replace ht:=λh=>(ht h).out;replace a:=λh=>(a h).out;refine GK hS hc ?_ hp;generalize stp P g=g' at hb ht a;unfold Ar1 at hb;split at hb
 .split at hb
  .rename_i hc;cases hb;exact BT9 hc ht a
  grind
 grind
def Ip (hS:H3 S P)(hc:pr){b:Bool}(ht:b=true->KG S P F (RM true (stp P g)))(a:b=false->KG S P F (RM false (stp P g)))(hp:pr=D2 (cnd P g):=by kernel_rfl)(hb:AF0 (stp P g)=some b:=by kernel_rfl):KG S P F g:=by
 refine⟨?_⟩;replace ht:=λh=>(ht h).out;replace a:=λh=>(a h).out;refine GK hS hc ?_ hp;generalize stp P g=g' at hb ht a;unfold AF0 at hb
 repeat' split at hb<;>try contradiction
 grind[RM,He,put,BH2]
def D6 (hS:H3 S P)(ids:List Nat)(hc:pr){fn:FuncId}{args:List AV}{objs objs' : List Obj}{r:AV}{ks:List Bool}(b:Uw S fn args objs r objs' ks)(hk:KG S P F (Bs3 ids ks r objs' (stp P g)))
 (hp:pr=D2 (cnd P g):=by kernel_rfl) (a:AN6 ids (stp P g)=some (fn,args,objs):=by kernel_rfl) (hn:AN7 ids ks objs'.length (stp P g)=true:=by kernel_rfl):KG S P F g:=by
 refine⟨?_⟩;replace hk:=hk.out;refine GK hS hc ?_ hp;generalize stp P g=g' at a hn hk;unfold AN6 at a
 repeat' split at a<;>try contradiction
 grind[Bs3,AN7,He,BH3]
def AF8 (hS:H3 S P)(hc:pr){kt e:TypeId}{key:PV}{es:List (PV×PV)}{x:PV}{b:Bool}{fd:Option PV}(j:find (Li P kt) key es=some fd)(a:D2 (KN P kt))(hk:KG S P F (Bs5 x b (stp P g)))
 (hp:pr=D2 (cnd P g):=by kernel_rfl) (c:Bs4 P (stp P g)=some ⟨kt,e,key,es⟩:=by kernel_rfl) (hx:AN8 P e fd=some (x,b):=by kernel_rfl):KG S P F g:=by
 refine⟨?_⟩;replace hk:=hk.out;refine GK hS hc ?_ hp;generalize stp P g=g' at c hk;unfold Bs4 at c
 repeat' split at c<;>try contradiction
 rename_i l f _ _ _ _ _ i hm _ _ _ _ _ m ht d;simp at c;obtain⟨rfl,rfl,rfl,rfl⟩:=c;simp only[Bs5,f,i,He]at hk;cases fd with
 |some y=>exact AE8 (fd:=some y) hS l f i hm m ht d j hx a hk
 |none=>exact AE8 (fd:=none) hS l f i hm m ht d j hx a hk
def Bt4 (hS:H3 S P)(hc:pr){kt:TypeId}{key y:PV}{es es' : List (PV×PV)}(d:upd (Li P kt) key y es=some es')(b:D2 (KN P kt))(hk:KG S P F (updK es' (stp P g)))
 (hp:pr=D2 (cnd P g):=by kernel_rfl) (a:updE P (stp P g)=some (kt,key,y,es):=by kernel_rfl):KG S P F g:=by
 refine⟨?_⟩;replace hk:=hk.out;refine GK hS hc ?_ hp;generalize stp P g=g' at a hk;unfold updE at a
 repeat' split at a<;>try contradiction
 rename_i f i _ _ _ _ _ _ _ h1 j l _ _ _ _ _ m ht c;simp at a;obtain⟨rfl,rfl,rfl,rfl⟩:=a
 grind[updK,He,Aq6]
def Np (hS:H3 S P)(hc:pr)(st:St->St)(hk:KG S P F (opsS (st (stp P g).st) (stp P g)))(hp:pr=D2 (cnd P g):=by kernel_rfl)(a:Lm (stp P g)=true:=by kernel_rfl)(hle:KLe (stp P g).st (st (stp P g).st):=by exact kl):KG S P F g:=by
 refine⟨?_⟩;replace hk:=hk.out;obtain⟨ids,hle⟩:=hle.out;refine GK hS hc ?_ hp;generalize stp P g=g' at a hle hk;unfold Lm at a;split at a
 .exact Bb9 hS _ ids hle hk
 grind
def Ab8 (hS:H3 S P)(hc:pr)(b:∀s,S.up s (F .normal)->F .normal s)(n:Nat)(s:St->St)
 (h1:∀{M:St->Prop},(∀{g' : Cfg}{pr:Prop},pr->(hp:pr=D2 (cnd P g'):=by kernel_rfl)->(a:stp P g' = .pop .normal (.mid M::(stp P g).k.drop n) (stp P g').st:=by kernel_rfl)->(hle:KLe (stp P g').st (s (stp P g).st):=by exact kl)->KG S P F g')->KG S P F (midC n M (stp P g)))
 (c:KG S P F (.pop .normal ((stp P g).k.drop n) (s (stp P g).st))) (hp:pr=D2 (cnd P g):=by kernel_rfl) (hn:Nat.ble n (stp P g).k.length=true:=by kernel_rfl):KG S P F g:=by
 refine⟨GK hS hc ?_ hp⟩;refine BD0 hS b n (Ci9 hn) (M:=λt=>t=s (stp P g).st) (λt e=>e ▸ c.out) (h1 λhc hp a hle=>⟨GK hS hc ?_ hp⟩).out;obtain⟨_,hle⟩:=hle.out;rw[a];exact hS.le _ _ _ _ hle rfl
def GN (hS:H3 S P)(hc:pr)(c:∀s,S.up s (F .normal)->F .normal s){R A:Type}{f:(A->Option R)->Option R}{k0:A->Option R}{r:R}(h:lt k0 f=some r)(n:Nat)(s:A->St->St)
 (h1:∀{M:St->Prop}(k:A->Option R),(∀{g' : Cfg}{pr:Prop}{a:A},pr->k a=some r->(hp:pr=D2 (cnd P g'):=by kernel_rfl)->(b:stp P g' = .pop .normal (.mid M::(stp P g).k.drop n) (stp P g').st:=by kernel_rfl)->(hle:KLe (stp P g').st (s a (stp P g).st):=by exact kl)->KG S P F g')->f k=some r->KG S P F (midC n M (stp P g)))
 (d:∀a,k0 a=some r->KG S P F (.pop .normal ((stp P g).k.drop n) (s a (stp P g).st))) (hp:pr=D2 (cnd P g):=by kernel_rfl) (hn:Nat.ble n (stp P g).k.length=true:=by kernel_rfl):KG S P F g:=by
 refine⟨GK hS hc ?_ hp⟩;refine BD0 hS c n (Ci9 hn) (M:=λt=>∃a,t=s a (stp P g).st/\k0 a=some r) (λt ⟨a,e,hk⟩=>e ▸ (d a hk).out) (h1 k0 (λhc hk hp b hle=>⟨GK hS hc ?_ hp⟩) h).out;obtain⟨_,hle⟩:=hle.out;rw[b];exact hS.le _ _ _ _ hle ⟨_,rfl,hk⟩
def E2 (hS:H3 S P)(hc:pr){R A:Type}{body:(A->Option R)->A->Option R}{N:Nat}{a0:A}{r:R}(h:N3 N body a0=some r)(s:A->St->St)
 (i:∀{X:Type}{s' : X->St}{J:X->Prop}{m:X->Nat}{n:Nat}(b:A->Option R) (a:A),
  (∀{g' : Cfg}{pr:Prop}{a:A},pr->b a=some r->(hp:pr=D2 (cnd P g'):=by kernel_rfl)->(f:stp P g' = .pop .normal (.lp X s' J m n::(stp P g).k) (stp P g').st:=by kernel_rfl)->(hle:KLe (stp P g').st (s a (stp P g).st):=by exact kl)->KG S P F g') ->
  body b a=some r->KG S P F (.code (Uk (stp P g)) (.lp X s' J m n::(stp P g).k) (s a (stp P g).st))) (hp:pr=D2 (cnd P g):=by kernel_rfl) (hl:JE (stp P g)=true:=by kernel_rfl) (hle:KLe (stp P g).st (s a0 (stp P g).st):=by exact kl):KG S P F g:=by
 refine⟨GK hS hc ?_ hp⟩;rw[XD hl];obtain⟨ids,hle⟩:=hle.out;refine BV7 hS h (λa=>s a (stp P g).st) ids hle λX s' J m n b a hb c=>(i b a (λhc d hp f hle=>⟨GK hS hc ?_ hp⟩) c).out;obtain⟨_,hle⟩:=hle.out;rw[f];exact hb _ _ _ hle d
def E8 (hS:H3 S P)(hc:pr){R A B:Type}{body:(A->B->Option R)->A->B->Option R}{N:Nat}{a0:A}{b0:B}{r:R}(h:U1 N body a0 b0=some r)(s:A->B->St->St)
 (d:∀{X:Type}{s' : X->St}{J:X->Prop}{m:X->Nat}{n:Nat}(c:A->B->Option R) (a:A) (b:B),
  (∀{g' : Cfg}{pr:Prop}{a:A}{b:B},pr->c a b=some r->(hp:pr=D2 (cnd P g'):=by kernel_rfl)->(o:stp P g' = .pop .normal (.lp X s' J m n::(stp P g).k) (stp P g').st:=by kernel_rfl)->(hle:KLe (stp P g').st (s a b (stp P g).st):=by exact kl)->KG S P F g') ->
  body c a b=some r->KG S P F (.code (Uk (stp P g)) (.lp X s' J m n::(stp P g).k) (s a b (stp P g).st))) (hp:pr=D2 (cnd P g):=by kernel_rfl) (hl:JE (stp P g)=true:=by kernel_rfl) (hle:KLe (stp P g).st (s a0 b0 (stp P g).st):=by exact kl):KG S P F g:=
 E2 hS hc h (λx=>s x.1 x.2) (λc a hb=>d (λa b=>c (a,b)) a.1 a.2 λh1 f i j l=>hb h1 f i j l) hp hl hle
def Nq (hS:H3 S P)(hc:pr){R A B C:Type}{body:(A->B->C->Option R)->A->B->C->Option R}{N:Nat}{a0:A}{b0:B}{c0:C}{r:R}(h:Bb8 N body a0 b0 c0=some r)(s:A->B->C->St->St)
 (f:∀{X:Type}{s' : X->St}{J:X->Prop}{m:X->Nat}{n:Nat}(d:A->B->C->Option R) (a:A) (b:B) (c:C),
  (∀{g' : Cfg}{pr:Prop}{a:A}{b:B}{c:C},pr->d a b c=some r->(hp:pr=D2 (cnd P g'):=by kernel_rfl)->(q:stp P g' = .pop .normal (.lp X s' J m n::(stp P g).k) (stp P g').st:=by kernel_rfl)->(hle:KLe (stp P g').st (s a b c (stp P g).st):=by exact kl)->KG S P F g') ->
  body d a b c=some r->KG S P F (.code (Uk (stp P g)) (.lp X s' J m n::(stp P g).k) (s a b c (stp P g).st))) (hp:pr=D2 (cnd P g):=by kernel_rfl) (hl:JE (stp P g)=true:=by kernel_rfl) (hle:KLe (stp P g).st (s a0 b0 c0 (stp P g).st):=by exact kl):KG S P F g:=
 E2 hS hc h (λx=>s x.1 x.2.1 x.2.2) (λd a hb=>f (λa b c=>d (a,b,c)) a.1 a.2.1 a.2.2 λh1 i j l o=>hb h1 i j l o) hp hl hle
def AF9 (hS:H3 S P)(hc:pr){R A B C D:Type}{body:(A->B->C->D->Option R)->A->B->C->D->Option R}{N:Nat}{a0:A}{b0:B}{c0:C}{d0:D}{r:R}(h:AW9 N body a0 b0 c0 d0=some r)(s:A->B->C->D->St->St)
 (i:∀{X:Type}{s' : X->St}{J:X->Prop}{m:X->Nat}{n:Nat}(f:A->B->C->D->Option R) (a:A) (b:B) (c:C) (d:D),
  (∀{g' : Cfg}{pr:Prop}{a:A}{b:B}{c:C}{d:D},pr->f a b c d=some r->(hp:pr=D2 (cnd P g'):=by kernel_rfl)->(t:stp P g' = .pop .normal (.lp X s' J m n::(stp P g).k) (stp P g').st:=by kernel_rfl)->(hle:KLe (stp P g').st (s a b c d (stp P g).st):=by exact kl)->KG S P F g') ->
  body f a b c d=some r->KG S P F (.code (Uk (stp P g)) (.lp X s' J m n::(stp P g).k) (s a b c d (stp P g).st))) (hp:pr=D2 (cnd P g):=by kernel_rfl) (hl:JE (stp P g)=true:=by kernel_rfl) (hle:KLe (stp P g).st (s a0 b0 c0 d0 (stp P g).st):=by exact kl):KG S P F g:=
 E2 hS hc h (λx=>s x.1 x.2.1 x.2.2.1 x.2.2.2) (λf a hb=>i (λa b c d=>f (a,b,c,d)) a.1 a.2.1 a.2.2.1 a.2.2.2 λh1 j l o q=>hb h1 j l o q) hp hl hle
def BW2 (hS:H3 S P)(hc:pr){R A B C D E F' : Type}{body:(A->B->C->D->E->F' -> Option R)->A->B->C->D->E->F' -> Option R}{N:Nat}{a0:A}{b0:B}{c0:C}{d0:D}{e0:E}{f0:F'}{r:R}(h:fix6 N body a0 b0 c0 d0 e0 f0=some r)(s:A->B->C->D->E->F' -> St->St)
 (j:∀{X:Type}{s' : X->St}{J:X->Prop}{m:X->Nat}{n:Nat}(i:A->B->C->D->E->F' -> Option R) (a:A) (b:B) (c:C) (d:D) (e:E) (f:F'),
  (∀{g' : Cfg}{pr:Prop}{a:A}{b:B}{c:C}{d:D}{e:E}{f:F'},pr->i a b c d e f=some r->(hp:pr=D2 (cnd P g'):=by kernel_rfl)->(u:stp P g' = .pop .normal (.lp X s' J m n::(stp P g).k) (stp P g').st:=by kernel_rfl)->(hle:KLe (stp P g').st (s a b c d e f (stp P g).st):=by exact kl)->KG S P F g') ->
  body i a b c d e f=some r->KG S P F (.code (Uk (stp P g)) (.lp X s' J m n::(stp P g).k) (s a b c d e f (stp P g).st))) (hp:pr=D2 (cnd P g):=by kernel_rfl) (hl:JE (stp P g)=true:=by kernel_rfl) (hle:KLe (stp P g).st (s a0 b0 c0 d0 e0 f0 (stp P g).st):=by exact kl):KG S P F g:=
 E2 hS hc h (λx=>s x.1 x.2.1 x.2.2.1 x.2.2.2.1 x.2.2.2.2.1 x.2.2.2.2.2) (λi a hb=>j (λa b c d e f=>i (a,b,c,d,e,f)) a.1 a.2.1 a.2.2.1 a.2.2.2.1 a.2.2.2.2.1 a.2.2.2.2.2 λh1 l o q t=>hb h1 l o q t) hp hl hle
def Bc6 (hS:H3 S P)(hc:pr){n:Nat}{rs:List ResultVar}{Q:ARes->List Obj->List Bool->Prop}{a:AV}{objs:List Obj}(outs:List Nat)(d:Q (.ret a) objs (Jw n outs))(hp:pr=D2 (cnd P g):=by kernel_rfl)
 (c:(BR7 (stp P g)).bind (λst=>AN9 P st rs outs)=some (a,objs):=by kernel_rfl):KG S P (Fk S P n rs Q) g:=by
 refine⟨?_⟩;refine GK hS hc ?_ hp;generalize stp P g=g' at c;obtain⟨st,h1,b⟩:=Cn9.1 c;unfold AN9 at b
 repeat' split at b<;>try contradiction
 rename_i l hl _ _ _ _ f i j;cases b;unfold BR7 at h1;split at h1
 .cases h1;exact hS.refl _ _ (by grind)
 .cases h1;exact hS.refl _ _ (by grind)
 grind
def I9 (hS:H3 S P)(hc:pr){n:Nat}{rs:List ResultVar}{Q:ARes->List Obj->List Bool->Prop}{a:AV}{objs:List Obj}(st:St)(outs:List Nat)(f:Q (.ret a) objs (Jw n outs))(hp:pr=D2 (cnd P g):=by kernel_rfl)
 (c:(BR7 (stp P g)).isSome=true:=by kernel_rfl) (hle:KLe (stp P g).st st:=by exact kl) (d:AN9 P st rs outs=some (a,objs):=by kernel_rfl):KG S P (Fk S P n rs Q) g:=by
 refine⟨?_⟩;obtain⟨ids,hle⟩:=hle.out;refine GK hS hc ?_ hp;generalize stp P g=g' at c hle;have b:=d;unfold AN9 at b;split at b
 .rename_i l hl;split at b
  .rename_i d i;split at b
   .rename_i j;cases b;unfold BR7 at c;split at c
    .exact hS.le ids _ _ _ hle (by grind)
    .exact hS.le ids _ _ _ hle (by grind)
    grind
   grind
  grind
 grind
def A1 (hS:H3 S P){f:FuncId}{fn:Func}{args:List AV}{objs objs' : List Obj}{ks:List Bool}{r:AV}(c:P.funcs[f]? = some fn)
 (h:KG S P (Fk S P objs.length fn.results.toList λres o k=>res=.ret r/\o=objs' /\ k=ks) (.code (fn.body.getD .skip) [] { env:=Yl args,Uu:=Uv objs }))
 (hc:fn.body.isSome=true:=by kernel_rfl) (hn:Nat.ble args.length fn.ntmps=true:=by kernel_rfl) (d:Nat.blt objs.length 1000=true:=by kernel_rfl)
 (a:BV fn.ntmps (fn.body.getD .skip)=true:=by kernel_rfl) (b:(fn.name == "runtime.NumGoroutine")=false:=by kernel_rfl):Uw S f args objs r objs' ks:=BJ9 hS c h.out hc hn d a b
def Gb (hS:H3 S P)(hc:pr)(h:DG S P (JF (stp P g)) λenv Uu=>KG S P F (.pop .normal (stp P g).k ⟨env,Uu⟩))(hp:pr=D2 (cnd P g):=by kernel_rfl)(c:DW (stp P g)=true:=by kernel_rfl)(a:P.follows .mixedOrders=true:=by kernel_rfl)
 (b:PE (JF (stp P g)).all (JF (stp P g)).cls=true:=by kernel_rfl):KG S P F g:=by
 have e:(λenv Uu=>KG S P F (.pop .normal (stp P g).k ⟨env,Uu⟩))=λenv Uu=>G S P F (.pop .normal (stp P g).k ⟨env,Uu⟩):=by funext env Uu;exact propext ⟨λh=>h.out,λh=>⟨h⟩⟩
 rw[e]at h;exact⟨BK0 hS hc h.out hp c a b⟩
section
variable {sc:SC}{k:Env->C6->Prop}
def D5 (hc:pr)(h:k (Ds P sc).env (Ds P sc).Uu)(hp:pr=D2 (VK P sc):=by kernel_rfl)(a:(Ds P sc).rest.isEmpty=true:=by kernel_rfl):DG S P sc k:=⟨C_end hc h hp a⟩
def XH (hc:pr){b:Bool}(ht:b=true->DG S P (RQ true (Ds P sc)) k)(a:b=false->DG S P (RQ false (Ds P sc)) k)(hp:pr=D2 (VK P sc):=by kernel_rfl)(hb:XF (Ds P sc)=some b:=by kernel_rfl):DG S P sc k:=by
 refine⟨?_⟩;replace ht:=λh=>(ht h).out;replace a:=λh=>(a h).out;refine Bc2 hc ?_ hp;generalize Ds P sc=s at hb ht a;obtain⟨all,cls,rest,env,Uu,kn⟩:=s;cases rest with
 |nil=>grind[XF]
 |cons o rest=>
  simp only[XF]at hb
  repeat' split at hb<;>try contradiction
  rename_i j w g _ d i _ b' c f;simp at hb;subst hb;simp only[RQ,g,i,GR]at ht a;cases b' with
  |true=>have:=ht rfl;rwa [XE f c (by simp)]at this
  |false=>have:=a rfl;rwa [XE f c (by simp)]at this
def GS (ids:List Nat)(hc:pr){fn:FuncId}{args:List AV}{objs objs' : List Obj}{r:AV}{ks:List Bool}(u:Uw S fn args objs r objs' ks)(hk:DG S P (VN ids ks r objs' (Ds P sc)) k)
 (hp:pr=D2 (VK P sc):=by kernel_rfl) (t:VL ids (Ds P sc)=some (fn,args,objs):=by kernel_rfl) (hn:VM ids ks objs'.length (Ds P sc)=true:=by kernel_rfl):DG S P sc k:=by
 refine⟨?_⟩;replace hk:=hk.out;refine Bc2 hc ?_ hp;generalize Ds P sc=s at t hn hk;obtain⟨all,cls,rest,env,Uu,kn⟩:=s;cases rest with
 |nil=>grind[VL]
 |cons o rest=>
  simp only[VL]at t
  repeat' split at t<;>try contradiction
  rename_i c v f _ _ g _ _ _ ha _ _ _ hw _ _ _ _ x i d;cases t;simp at d;cases cls with
  |nil=>grind[VM]
  |cons cl cls=>
   cases cl with
   |w=>simp only[VM,f,ha]at hn;simp only[VN,f,ha,Ga,Ck1]at hk;exact Bb4 ids (.inl rfl) v f g ha hw x i u d.1 d.2 hn hk
   |b js=>simp only[VM,f,ha,Ce2,List.isEmpty_iff]at hn;obtain⟨⟨j,l⟩,n,m⟩:=hn;subst l;simp only[VN,f,ha,Ga,Ck1]at hk;refine Bb4 [] (.inr ⟨js,rfl,λq y=>?_⟩) v f g ha hw x i u d.1 d.2 m hk;rw[KS (by grind)];exact AF4 j ha q y
   |a js=>simp only[VM,f,ha,Ce2,List.isEmpty_iff]at hn;obtain⟨⟨j,l⟩,n,m⟩:=hn;subst l;simp only[VN,f,ha,Ga,Ck1]at hk;cases i;exact BK1 v f g j ha hw x u n m hk
   |_=>simp[VM]at hn
def PH (hc:pr){fn:FuncId}{args:List AV}{r:AV}(f:Uw S fn args [] r [] [])(hk:DG S P (Bc4 r (Ds P sc)) k)(hp:pr=D2 (VK P sc):=by kernel_rfl)(a:AF6 (Ds P sc)=some (fn,args):=by kernel_rfl)(hn:AF5 (Ds P sc)=true:=by kernel_rfl):DG S P sc k:=by
 refine⟨?_⟩;replace hk:=hk.out;refine Bc2 hc ?_ hp;generalize Ds P sc=s at a hn hk;obtain⟨all,cls,rest,env,Uu,kn⟩:=s;cases rest with
 |nil=>grind[AF6]
 |cons o rest=>
  cases cls with
  |nil=>grind[AF5]
  |cons cl cls=>
   simp only[AF6]at a
   repeat' split at a<;>try contradiction
   rename_i c g d _ _ b _ _ _ hw _ _ i;cases a;simp only[AF5,d]at hn;simp only[Bc4,Ga,Ck1]at hk;exact BV4 g d b hn hw i f hk
def O3 (hc:pr){x:PV}(hk:DG S P (Bc5 x (Ds P sc)) k)(hp:pr=D2 (VK P sc):=by kernel_rfl)(b:(Mx P (Ds P sc)).map (·.2)=some x:=by kernel_rfl)(a:((Mx P (Ds P sc)).map λq=>D2 q.1)=some (true=true):=by kernel_rfl):DG S P sc k:=by
 refine⟨?_⟩;replace hk:=hk.out;refine Bc2 hc ?_ hp;generalize Ds P sc=s at b a hk;obtain⟨all,cls,rest,env,Uu,kn⟩:=s;cases rest with
 |nil=>cases cls<;>simp[Mx]at b
 |cons o rest=>
  cases cls with
  |nil=>grind[Mx]
  |cons cl cls=>
   cases d:AN all env o with
   |none=>grind[Mx]
   |some bb=>
    cases bb with
    |false=>grind[Mx]
    |true=>
     simp only[Mx,d]at b a;cases ha:Zr P env o.op with
     |none=>rw[ha]at b;grind
     |some q=>obtain⟨c,y⟩:=q;rw[ha]at b a;simp only[Cf0,Cd9]at b a;subst b;simp only[Bc5,Ga,Ck1]at hk;exact Br6 d ha (by rw[a];simp) hk
def AG0 (hc:pr){kt e:TypeId}{key:PV}{es:List (PV×PV)}{x:PV}{b:Bool}{fd:Option PV}(j:find (Li P kt) key es=some fd)(f:D2 (KN P kt))(hk:DG S P (AF7 x b (Ds P sc)) k)
 (hp:pr=D2 (VK P sc):=by kernel_rfl) (c:VO P (Ds P sc)=some ⟨kt,e,key,es⟩:=by kernel_rfl) (hx:AN8 P e fd=some (x,b):=by kernel_rfl):DG S P sc k:=by
 refine⟨?_⟩;replace hk:=hk.out;refine Bc2 hc ?_ hp;generalize Ds P sc=s at c hk;obtain⟨all,cls,rest,env,Uu,kn⟩:=s;cases rest with
 |nil=>cases cls<;>simp[VO]at c
 |cons o rest=>
  cases cls with
  |nil=>grind[VO]
  |cons cl cls=>
   simp only[VO]at c
   repeat' split at c<;>try contradiction
   rename_i l d _ _ _ _ _ g hm _ _ _ _ _ m ht a;simp at c;obtain⟨rfl,rfl,rfl,rfl⟩:=c;simp at a;simp only[AF7,d,g,Ga,Ck1]at hk;have i:=a.2;simp only[d]at i;cases fd with
   |some y=>exact AE9 (fd:=some y) l d g hm m ht a.1 j hx f (by rw[d];omega) hk
   |none=>exact AE9 (fd:=none) l d g hm m ht a.1 j hx f (by rw[d];omega) hk
def Bt5 (hc:pr){kt:TypeId}{key y:PV}{es es' : List (PV×PV)}(i:upd (Li P kt) key y es=some es')(b:D2 (KN P kt))(hk:DG S P (BK2 es' (Ds P sc)) k)
 (hp:pr=D2 (VK P sc):=by kernel_rfl) (a:AO0 P (Ds P sc)=some (kt,key,y,es):=by kernel_rfl):DG S P sc k:=by
 refine⟨?_⟩;replace hk:=hk.out;refine Bc2 hc ?_ hp;generalize Ds P sc=s at a hk;obtain⟨all,cls,rest,env,Uu,kn⟩:=s;cases rest with
 |nil=>grind[AO0]
 |cons o rest=>
  cases cls with
  |nil=>grind[AO0]
  |cons cl cls=>
   cases cl with
   |w=>
    simp only[AO0]at a
    repeat' split at a<;>try contradiction
    rename_i j d _ _ _ _ _ _ _ h1 f g _ _ _ _ _ l ht c;simp at a;obtain⟨rfl,rfl,rfl,rfl⟩:=a;simp only[BK2,d,f,g,Ga,Ck1]at hk;exact Ar0 j d h1 g f l ht c i b hk
   |_=>simp[AO0]at a
end
end
section
variable {S:X4}{P:Program}{F:M0}{g:Cfg}{pr:Prop}
def yldE:Cfg->Option (List PV×List (List PV))
 |.ops all (o::_) _ st=>match BW all st.env o,o.op with
  |some true,.call c=>match c.callee with
   |.value f=>match aev st.env f,Hq st.Uu (c.args.toList.map (aev st.env))with
    |.yf j,some (xs,Uu)=>match A2 Uu j with
     |some (.yld (ys::rest) true)=>if Ie j Uu=true/\xs.length=ys.length then some (xs,ys::rest)else none
     |_=>none
    |_,_=>none
   |_=>none
  |_,_=>none
 |_=>none
def BW3 (b:Bool)(rest:List (List PV)):Cfg->Cfg
 |.ops all (o::ops) K st=>match o.op with
  |.call c=>match c.callee with
   |.value f=>match aev st.env f,Hq st.Uu (c.args.toList.map (aev st.env))with
    |.yf j,some (_,Uu)=>AN5 o.dst (.p (.bb b)) st.env (ins j (.yld rest b) Uu) λst=>.ops all ops K st
    |_,_=>.ops all (o::ops) K st
   |_=>.ops all (o::ops) K st
  |_=>.ops all (o::ops) K st
 |g=>g
theorem Ab9:∀l:List PV,BG8 l l
 |[]=>trivial
 |x::l=>⟨.inl rfl,Ab9 l⟩
def BK3 (hS:H3 S P)(hc:pr){ys:List PV}{rest:List (List PV)}(ht:G S P F (BW3 true rest (stp P g)))(b:G S P F (BW3 false [] (stp P g)))(hp:pr=D2 (cnd P g))(a:yldE (stp P g)=some (ys,ys::rest)):G S P F g:=by
 refine GK hS hc ?_ hp;generalize stp P g=g' at a ht b;unfold yldE at a
 repeat' split at a<;>try contradiction
 rename_i f i _ _ c _ _ _ _ _ hy j _ _ _ l d;simp at a;obtain⟨rfl,rfl,rfl⟩:=a
 grind[BW3,He,BJ3,Ab9]
def DX (hS:H3 S P)(hc:pr){ys:List PV}{rest:List (List PV)}(ht:KG S P F (BW3 true rest (stp P g)))(a:KG S P F (BW3 false [] (stp P g)))(hp:pr=D2 (cnd P g):=by kernel_rfl)(b:yldE (stp P g)=some (ys,ys::rest):=by kernel_rfl):KG S P F g:=
 ⟨BK3 hS hc ht.out a.out hp b⟩
def BI {T:Type}(x:T)(o:Option (List T)):Option (List T):=o.map (x :: ·)
def OL {T:Type}{x:T}{o:Option (List T)}{L:List T}(h:BI x o=some L):∃L',L=x::L' /\ o=some L':=by
 grind[BI,Option.map_eq_some_iff]
def DY (hS:H3 S P)(hc:pr){R A:Type}{body:(A->Option R)->A->Option R}{N:Nat}{a0:A}{r0:R}(h:N3 N body a0=some r0)(s:A->R->St)
 (f:∀{X:Type}{s' : X->St}{J:X->Prop}{m:X->Nat}{n:Nat}(b:A->Option R) (a:A) (r:R),
  (∀{g' : Cfg}{pr:Prop}{a:A}{r:R},pr->b a=some r->(hp:pr=D2 (cnd P g'):=by kernel_rfl)->(d:stp P g' = .pop .normal (.lp X s' J m n::(stp P g).k) (stp P g').st:=by kernel_rfl)->(hle:KLe (stp P g').st (s a r):=by exact kl)->KG S P F g') ->
  body b a=some r->KG S P F (.code (Uk (stp P g)) (.lp X s' J m n::(stp P g).k) (s a r))) (hp:pr=D2 (cnd P g):=by kernel_rfl) (hl:JE (stp P g)=true:=by kernel_rfl) (hle:KLe (stp P g).st (s a0 r0):=by exact kl):KG S P F g:=by
 refine⟨GK hS hc ?_ hp⟩;rw[XD hl];obtain⟨ids,hle⟩:=hle.out;refine AC2 hS (X:=Nat×A×R) (λx=>s x.2.1 x.2.2) (λx=>N3 x.1 body x.2.1=some x.2.2) (λx=>x.1) (N,a0,r0) ids hle h ?_;rintro⟨n,a,r⟩ hx;cases n with
 |zero=>cases hx
 |succ n=>exact (f (N3 n body) a r (λ{_ _ a r} hc c hp d hle=>⟨GK hS hc (by obtain⟨_,hle⟩:=hle.out;rw[d];exact Ao3 hS (n,a,r) _ hle c (Ct4 n)) hp⟩) hx).out
def XJ (hS:H3 S P)(hc:pr){R A B:Type}{body:(A->B->Option R)->A->B->Option R}{N:Nat}{a0:A}{b0:B}{r0:R}(h:U1 N body a0 b0=some r0)(s:A->B->R->St)
 (d:∀{X:Type}{s' : X->St}{J:X->Prop}{m:X->Nat}{n:Nat}(c:A->B->Option R) (a:A) (b:B) (r:R),
  (∀{g' : Cfg}{pr:Prop}{a:A}{b:B}{r:R},pr->c a b=some r->(hp:pr=D2 (cnd P g'):=by kernel_rfl)->(o:stp P g' = .pop .normal (.lp X s' J m n::(stp P g).k) (stp P g').st:=by kernel_rfl)->(hle:KLe (stp P g').st (s a b r):=by exact kl)->KG S P F g') ->
  body c a b=some r->KG S P F (.code (Uk (stp P g)) (.lp X s' J m n::(stp P g).k) (s a b r))) (hp:pr=D2 (cnd P g):=by kernel_rfl) (hl:JE (stp P g)=true:=by kernel_rfl) (hle:KLe (stp P g).st (s a0 b0 r0):=by exact kl):KG S P F g:=
 DY hS hc h (λx r=>s x.1 x.2 r) (λc a r hb=>d (λa b=>c (a,b)) a.1 a.2 r λh1 f i j l=>hb h1 f i j l) hp hl hle
def Fv (hS:H3 S P){f:FuncId}{fn:Func}{first caps:List AV}{objs:List Obj}{L:List (List PV)}(i:P.funcs[f]? = some fn)
 (h:KG S P (Fk S P (objs++[Obj.yld L true]).length fn.results.toList λr objs' ks=>∃b,objs'[objs.length]? = some (.yld [] b)/\ks[objs.length]? = some true/\∃a,r=.ret a) (.code (fn.body.getD .skip) [] { env:=Yl (first ++ .yf objs.length::caps),Uu:=Uv (objs++[Obj.yld L true]) }))
 (hc:fn.body.isSome=true:=by kernel_rfl) (hn:Nat.ble (first ++ .yf objs.length::caps).length fn.ntmps=true:=by kernel_rfl) (j:Nat.blt (objs++[Obj.yld L true]).length 1000=true:=by kernel_rfl)
 (d:BV fn.ntmps (fn.body.getD .skip)=true:=by kernel_rfl) (g:(fn.name == "runtime.NumGoroutine")=false:=by kernel_rfl):FY S f first caps objs L:=by
 obtain⟨code,c⟩:=Cf3.1 hc;rw[c,Ce6]at d h;exact OJ hS i c (Ci9 hn) (by simp_all) rfl d g h.out
def Ac0 (P:Program)(ids:List Nat):Cfg->Option (FuncId×List AV×List AV×List Obj)
 |.code (.rangeFunc op _ _ _) _ st=>match Hc st.env op with
  |some (f,first,caps)=>match P.funcs[f]?,M9 ids st.Uu ids,Fc ids first,Fc ids caps with
   |some fn,some objs,some as,some bs=>if (fn.body.isSome && !(fn.name == "runtime.NumGoroutine")&&GM objs&&I5 ids&&(objs.length==ids.length)&&Nat.blt ids.length 1000) then some (f,as,bs,objs)else none
   |_,_,_,_=>none
  |none=>none
 |_=>none
def LD:Cfg->Array Tmp
 |.code (.rangeFunc _ ps _ _) _ _=>ps
 |_=>#[]
def Ac1:Cfg->Code
 |.code (.rangeFunc _ _ a _) _ _=>a
 |_=>.skip
def Ac2:Cfg->Code
 |.code (.rangeFunc _ _ _ b) _ _=>b
 |_=>.skip
def Ac3 (ids ts:List Nat)(g:Cfg):St:=⟨AK ts (ts.map (get g.st.env)),K9 ids (ids.map λ_=>false) g.st.Uu⟩
def rst (gh:Nat)(t:St):St:=⟨[],ins gh (.ghost (t.env.map (·.2))) t.Uu⟩
def Ac4 (gh:Nat)(ps:Array Tmp)(ys:List PV)(t:St):St:=⟨MX ps.toList ys t.env,ins gh (.ghost (t.env.map (·.2))) t.Uu⟩
def exitE:Cfg->Rk
 |.pop e _ _=>e
 |_=>.normal
def BD2:Cfg->Bool
 |.pop .ret [] _=>true
 |.pop (.exit _) [] _=>true
 |_=>false
theorem Bc7 (Uu:C6)(d:Nat)(x:Obj):A2 (ins d x Uu) d=some x:=by
 induction Uu with
 |nil=>simp[ins,A2]
 |cons p r ih=>
  obtain⟨i,b⟩:=p;simp only[ins];split
  .simp[A2]
  split
  all_goals simp_all[A2,Lp]
def JG (gh:Nat)(t:St):A2 (rst gh t).Uu gh=some (.ghost (t.env.map λp=>p.2)):=by grind[rst,Bc7]
def RU (ids:List Nat):Cfg->Option (FuncId×List AV×List AV×List Obj)
 |.code (.rangeFunc op _ _ _) _ st=>match Hc st.env op with
  |some (f,first,caps)=>match M9 ids st.Uu ids,Fc ids first,Fc ids caps with
   |some objs,some as,some bs=>if (GM objs&&I5 ids&&(objs.length==ids.length)&&Nat.blt ids.length 1000) then some (f,as,bs,objs)else none
   |_,_,_=>none
  |none=>none
 |_=>none
def KT {ids:List Nat}{g:Cfg}{q:FuncId×List AV×List AV×List Obj}(h:Ac0 P ids g=some q):RU ids g=some q/\∃fn,P.funcs[q.1]? = some fn/\fn.body.isSome=true/\(fn.name == "runtime.NumGoroutine")=false:=by
 unfold Ac0 at h
 repeat' split at h<;>try contradiction
 rename_i a _ _ _ _ fn objs' as' bs' h1 b c d f;cases h
 simp_all[Ce2,Cf6,beq_iff_eq,RU,beq_self_eq_true,Cp4,Lo]
def Rb (hS:H3 S P)(hc:pr){f:FuncId}{as bs:List AV}{objs:List Obj}{R T A:Type}{enc:T->List PV}{L:List T}{mb:(A->Option R)->T->A->Option R}{mk:A->Option R}{a0:A}{r:R}(o:∃fn,P.funcs[f]? = some fn/\fn.body.isSome=true/\(fn.name == "runtime.NumGoroutine")=false)
 (ids ts:List Nat) (gh:Nat) (s:A->St) (h:T1 L mb mk a0=some r) (x:FY S f as bs objs (L.map enc))
 (i:∀t:T,(enc t).length=(LD (stp P g)).size) (hk:∀a,(s a).env.map (·.1)=ts) (hn:∀a,A2 (s a).Uu gh=none) (m:∀a,(⟨AK ts ((s a).env.map (·.2)),del gh (ins gh (.ghost ((s a).env.map (·.2))) (s a).Uu)⟩:St)=s a)
 (c:∀{next:St->Prop}(t:T) (d:A->Option R) (a:A),
  (∀{g' : Cfg}{pr:Prop}{a:A},pr->d a=some r->(hp:pr=D2 (cnd P g'):=by kernel_rfl)->(b:stp P g' = .pop .normal [] (stp P g').st:=by kernel_rfl)->(hle:KLe (stp P g').st (rst gh (s a)):=by exact kl)->KG S P (Hd S gh ts next (kp S P (stp P g).k F)) g') ->
  mb d t a=some r->KG S P (Dq S P (Ac2 (stp P g)) gh ts next (kp S P (stp P g).k F)) (.code (Ac1 (stp P g)) [] (Ac4 gh (LD (stp P g)) (enc t) (s a))))
 (j:∀a,mk a=some r->KG S P F (.pop .normal (stp P g).k (s a)))
 (hp:pr=D2 (cnd P g):=by kernel_rfl) (b:RU ids (stp P g)=some (f,as,bs,objs):=by kernel_rfl) (q:Nat.blt gh 1000=true:=by kernel_rfl) (n:A2 (stp P g).st.Uu gh=none:=by kernel_rfl) (u:I5 ts=true:=by kernel_rfl)
 (hle:KLe (Ac3 ids ts (stp P g)) (s a0):=by exact kl):KG S P F g:=by
 refine⟨GK hS hc ?_ hp⟩;generalize stp P g=g1 at i c j b n hle;unfold RU at b;split at b
 .rename_i op ps asg body K st;split at b
  .rename_i f' first caps v
   split at b
   .rename_i objs' as' bs' y z h4;split at b
    .rename_i w;simp only[Cd9,Cf2]at b;obtain⟨rfl,rfl,rfl,rfl⟩:=b;simp only[Ce2,Cf6,beq_iff_eq]at w;obtain⟨⟨⟨e3,e4⟩,e5⟩,e6⟩:=w;obtain⟨idl,hle⟩:=hle.out;refine BJ6 hS ids ts gh s idl h x v o y e3 e4 z h4 e5 q n e6 u i hle hk hn (λt next d a hb hm=>?_) (λa hm=>(j a hm).out);refine (c t d a (λ{_ _ a} hc l hp b hle=>⟨GK hS hc ?_ hp⟩) hm).out;obtain⟨ids',hle⟩:=hle.out;rw[b];have hl:((s a).env.map (·.2)).length=ts.length:=by rw[<- hk a];simp
     refine hb _ (rst gh (s a)) ((s a).env.map λp=>p.2) ids' a hle (JG gh (s a)) hl ?_ (m a) l
     have:=congrArg St.Uu (m a)
     simp only at this;show A2 (del gh (ins gh _ _)) gh=none;rw[this];exact hn a
    cases b
   cases b
  cases b
 cases b
def JH (hS:H3 S P)(hc:pr){f:FuncId}{as bs:List AV}{objs:List Obj}{R T A:Type}{enc:T->List PV}{L:List T}{mb:(A->Option R)->T->A->Option R}{mk:A->Option R}{a0:A}{r:R}
 (ids ts:List Nat) (gh:Nat) (s:A->St) (h:T1 L mb mk a0=some r) (q:FY S f as bs objs (L.map enc))
 (d:∀t:T,(enc t).length=(LD (stp P g)).size) (hk:∀a,(s a).env.map (·.1)=ts) (hn:∀a,A2 (s a).Uu gh=none) (j:∀a,(⟨AK ts ((s a).env.map (·.2)),del gh (ins gh (.ghost ((s a).env.map (·.2))) (s a).Uu)⟩:St)=s a)
 (b:∀{next:St->Prop}(t:T) (c:A->Option R) (a:A),
  (∀{g' : Cfg}{pr:Prop}{a:A},pr->c a=some r->(hp:pr=D2 (cnd P g'):=by kernel_rfl)->(l:stp P g' = .pop .normal [] (stp P g').st:=by kernel_rfl)->(hle:KLe (stp P g').st (rst gh (s a)):=by exact kl)->KG S P (Hd S gh ts next (kp S P (stp P g).k F)) g') ->
  mb c t a=some r->KG S P (Dq S P (Ac2 (stp P g)) gh ts next (kp S P (stp P g).k F)) (.code (Ac1 (stp P g)) [] (Ac4 gh (LD (stp P g)) (enc t) (s a))))
 (i:∀a,mk a=some r->KG S P F (.pop .normal (stp P g).k (s a)))
 (hp:pr=D2 (cnd P g):=by kernel_rfl) (l:Ac0 P ids (stp P g)=some (f,as,bs,objs):=by kernel_rfl) (m:Nat.blt gh 1000=true:=by kernel_rfl) (n:A2 (stp P g).st.Uu gh=none:=by kernel_rfl) (o:I5 ts=true:=by kernel_rfl)
 (hle:KLe (Ac3 ids ts (stp P g)) (s a0):=by exact kl):KG S P F g:=
 Rb hS hc (KT l).2 ids ts gh s h q d hk hn j b i hp (KT l).1 m n o hle
def Bc8 (hS:H3 S P)(hc:pr){f:FuncId}{as bs:List AV}{objs:List Obj}{R T A:Type}{enc:T->List PV}{L:List T}{mb:(A->Option R)->T->A->Option R}{mk:A->Option R}{a0:A}{r0:R}(o:∃fn,P.funcs[f]? = some fn/\fn.body.isSome=true/\(fn.name == "runtime.NumGoroutine")=false)
 (ids ts:List Nat) (gh:Nat) (s:A->R->St) (h:T1 L mb mk a0=some r0) (x:FY S f as bs objs (L.map enc))
 (i:∀t:T,(enc t).length=(LD (stp P g)).size) (hk:∀a r,(s a r).env.map (·.1)=ts) (hn:∀a r,A2 (s a r).Uu gh=none) (m:∀a r,(⟨AK ts ((s a r).env.map (·.2)),del gh (ins gh (.ghost ((s a r).env.map (·.2))) (s a r).Uu)⟩:St)=s a r)
 (c:∀{next:St->Prop}(t:T) (d:A->Option R) (a:A) (r:R),
  (∀{g' : Cfg}{pr:Prop}{a:A}{r:R},pr->d a=some r->(hp:pr=D2 (cnd P g'):=by kernel_rfl)->(b:stp P g' = .pop .normal [] (stp P g').st:=by kernel_rfl)->(hle:KLe (stp P g').st (rst gh (s a r)):=by exact kl)->KG S P (Hd S gh ts next (kp S P (stp P g).k F)) g') ->
  mb d t a=some r->KG S P (Dq S P (Ac2 (stp P g)) gh ts next (kp S P (stp P g).k F)) (.code (Ac1 (stp P g)) [] (Ac4 gh (LD (stp P g)) (enc t) (s a r))))
 (j:∀a r,mk a=some r->KG S P F (.pop .normal (stp P g).k (s a r)))
 (hp:pr=D2 (cnd P g):=by kernel_rfl) (b:RU ids (stp P g)=some (f,as,bs,objs):=by kernel_rfl) (q:Nat.blt gh 1000=true:=by kernel_rfl) (n:A2 (stp P g).st.Uu gh=none:=by kernel_rfl) (u:I5 ts=true:=by kernel_rfl)
 (hle:KLe (Ac3 ids ts (stp P g)) (s a0 r0):=by exact kl):KG S P F g:=by
 refine⟨GK hS hc ?_ hp⟩;generalize stp P g=g1 at i c j b n hle;unfold RU at b;split at b
 .rename_i op ps asg body K st;split at b
  .rename_i f' first caps v
   split at b
   .rename_i objs' as' bs' y z h4;split at b
    .rename_i w;simp only[Cd9,Cf2]at b;obtain⟨rfl,rfl,rfl,rfl⟩:=b;simp only[Ce2,Cf6,beq_iff_eq]at w;obtain⟨⟨⟨e3,e4⟩,e5⟩,e6⟩:=w;obtain⟨idl,hle⟩:=hle.out;refine Bs2 hS ids ts gh s idl h x v o y e3 e4 z h4 e5 q n e6 u i hle hk hn (λt next d a r hb hm=>?_) (λa r hm=>(j a r hm).out);refine (c t d a r (λ{_ _ a r} hc l hp b hle=>⟨GK hS hc ?_ hp⟩) hm).out;obtain⟨ids',hle⟩:=hle.out;rw[b];have hl:((s a r).env.map (·.2)).length=ts.length:=by rw[<- hk a r];simp
     refine hb _ (rst gh (s a r)) ((s a r).env.map λp=>p.2) ids' a r hle (JG gh (s a r)) hl ?_ (m a r) l
     have:=congrArg St.Uu (m a r)
     simp only at this;show A2 (del gh (ins gh _ _)) gh=none;rw[this];exact hn a r
    cases b
   cases b
  cases b
 cases b
def Bt6 (hS:H3 S P)(hc:pr){f:FuncId}{as bs:List AV}{objs:List Obj}{R T A:Type}{enc:T->List PV}{L:List T}{mb:(A->Option R)->T->A->Option R}{mk:A->Option R}{a0:A}{r0:R}
 (ids ts:List Nat) (gh:Nat) (s:A->R->St) (h:T1 L mb mk a0=some r0) (q:FY S f as bs objs (L.map enc))
 (d:∀t:T,(enc t).length=(LD (stp P g)).size) (hk:∀a r,(s a r).env.map (·.1)=ts) (hn:∀a r,A2 (s a r).Uu gh=none) (j:∀a r,(⟨AK ts ((s a r).env.map (·.2)),del gh (ins gh (.ghost ((s a r).env.map (·.2))) (s a r).Uu)⟩:St)=s a r)
 (b:∀{next:St->Prop}(t:T) (c:A->Option R) (a:A) (r:R),
  (∀{g' : Cfg}{pr:Prop}{a:A}{r:R},pr->c a=some r->(hp:pr=D2 (cnd P g'):=by kernel_rfl)->(l:stp P g' = .pop .normal [] (stp P g').st:=by kernel_rfl)->(hle:KLe (stp P g').st (rst gh (s a r)):=by exact kl)->KG S P (Hd S gh ts next (kp S P (stp P g).k F)) g') ->
  mb c t a=some r->KG S P (Dq S P (Ac2 (stp P g)) gh ts next (kp S P (stp P g).k F)) (.code (Ac1 (stp P g)) [] (Ac4 gh (LD (stp P g)) (enc t) (s a r))))
 (i:∀a r,mk a=some r->KG S P F (.pop .normal (stp P g).k (s a r)))
 (hp:pr=D2 (cnd P g):=by kernel_rfl) (l:Ac0 P ids (stp P g)=some (f,as,bs,objs):=by kernel_rfl) (m:Nat.blt gh 1000=true:=by kernel_rfl) (n:A2 (stp P g).st.Uu gh=none:=by kernel_rfl) (o:I5 ts=true:=by kernel_rfl)
 (hle:KLe (Ac3 ids ts (stp P g)) (s a0 r0):=by exact kl):KG S P F g:=
 Bc8 hS hc (KT l).2 ids ts gh s h q d hk hn j b i hp (KT l).1 m n o hle
def Cc7 (t:Nat)(a:AV):Cfg->Cfg
 |.ops all rest K st=>mkO (ins t a st.env) st.Uu λenv Uu=>.ops all rest K ⟨env,Uu⟩
 |g=>g
def Ac5 (hS:H3 S P)(hc:pr)(t:Nat){k n:Nat}{f:Nat->List PV}(b:n=0->KG S P F (Cc7 t (.p (.v (.slice none 0 0))) (stp P g)))(h1:KG S P F (Cc7 t (.p (.sl true k n f)) (stp P g)))
 (hp:pr=D2 (cnd P g):=by kernel_rfl) (a:Lm (stp P g)=true:=by kernel_rfl) (c:get (stp P g).st.env t=.p (.sl false k n f):=by kernel_rfl):KG S P F g:=by
 refine⟨GK hS hc ?_ hp⟩;generalize stp P g=g1 at b h1 a c;unfold Lm at a;split at a
 .refine BU1 hS t c (λh=>?_) ?_
  .have:=(b h).out
   grind[Cc7,GR]
  have:=h1.out
  grind[Cc7,GR]
 grind
def frzC (j:Nat)(ps:List PV):Cfg->Cfg
 |.code c K st=>mkO (Bn6 j ps st.env) (ins j .dead st.Uu) λenv Uu=>.code c K ⟨env,Uu⟩
 |g=>g
def XK (hS:H3 S P)(hc:pr)(j:Nat)(ps:List PV)(hk:KG S P F (frzC j ps (stp P g)))(hp:pr=D2 (cnd P g):=by kernel_rfl)(c:DW (stp P g)=true:=by kernel_rfl)(b:P.follows .mixedOrders=true:=by kernel_rfl)
 (a:Ju (JF (stp P g)).all=true:=by kernel_rfl) (f:A2 (stp P g).st.Uu j=some (.cells (ps.map .p)):=by kernel_rfl):KG S P F g:=by
 refine⟨GK hS hc ?_ hp⟩;generalize stp P g=g1 at hk c a f;unfold DW at c;split at c
 .rename_i id ops K st;have hk:=hk.out;simp only[frzC,GR]at hk;show awp S P (.region id ops true) (kp S P K F) st;simp only[awp,Lo];have d : Ao1 S P ops.toList (kp S P K F) ⟨Bn6 j ps st.env,ins j .dead st.Uu⟩:=by
   have:awp S P (.region id ops true) (kp S P K F) ⟨Bn6 j ps st.env,ins j .dead st.Uu⟩:=hk
   simp_all[awp,Lo]
  exact AE7 hS b a (hS.frz st j ps _ f d)
 grind
def clsN (js:List Nat):Nat->List Oper->List Cls
 |_,[]=>[]
 |i,o::r=>(ite (js.contains i) (.n) (ite (js.contains (i+1000)) (.w) (Cc5 o.op)))::clsN js (i+1) r
def XL (js:List Nat):Cfg->SC
 |.code (.region _ ops true) _ st=>⟨ops.toList,clsN js 0 ops.toList,ops.toList,st.env,st.Uu,[]⟩
 |_=>⟨[],[],[],[],[],[]⟩
def B4 (hS:H3 S P)(hc:pr)(js:List Nat)(h:DG S P (XL js (stp P g)) λenv Uu=>KG S P F (.pop .normal (stp P g).k ⟨env,Uu⟩))(hp:pr=D2 (cnd P g):=by kernel_rfl)(c:DW (stp P g)=true:=by kernel_rfl)(a:P.follows .mixedOrders=true:=by kernel_rfl)
 (b:PE (XL js (stp P g)).all (XL js (stp P g)).cls=true:=by kernel_rfl):KG S P F g:=by
 have e:(λenv Uu=>KG S P F (.pop .normal (stp P g).k ⟨env,Uu⟩))=λenv Uu=>G S P F (.pop .normal (stp P g).k ⟨env,Uu⟩):=by funext env Uu;exact propext ⟨λh=>h.out,λh=>⟨h⟩⟩
 rw[e]at h;refine⟨GK hS hc ?_ hp⟩;have h:=h.out;generalize stp P g=g' at c b h;unfold DW at c;split at c
 .exact AE1 hS _ a b h
 grind
def Cc8 (ls:List (Nat×Cls)):Nat->List Oper->List Cls
 |_,[]=>[]
 |i,o::r=>(match ls.find? (λq=>q.1==i)with|some q=>q.2|none=>Cc5 o.op)::Cc8 ls (i+1) r
def XM (ls:List (Nat×Cls)):Cfg->SC
 |.code (.region _ ops true) _ st=>⟨ops.toList,Cc8 ls 0 ops.toList,ops.toList,st.env,st.Uu,[]⟩
 |_=>⟨[],[],[],[],[],[]⟩
def G1 (hS:H3 S P)(hc:pr)(ls:List (Nat×Cls))(h:DG S P (XM ls (stp P g)) λenv Uu=>KG S P F (.pop .normal (stp P g).k ⟨env,Uu⟩))(hp:pr=D2 (cnd P g):=by kernel_rfl)(c:DW (stp P g)=true:=by kernel_rfl)(a:P.follows .mixedOrders=true:=by kernel_rfl)
 (b:PE (XM ls (stp P g)).all (XM ls (stp P g)).cls=true:=by kernel_rfl):KG S P F g:=by
 have e:(λenv Uu=>KG S P F (.pop .normal (stp P g).k ⟨env,Uu⟩))=λenv Uu=>G S P F (.pop .normal (stp P g).k ⟨env,Uu⟩):=by funext env Uu;exact propext ⟨λh=>h.out,λh=>⟨h⟩⟩
 rw[e]at h;refine⟨GK hS hc ?_ hp⟩;have h:=h.out;generalize stp P g=g' at c b h;unfold DW at c;split at c
 .exact AE1 hS _ a b h
 grind
def Nr (hS:H3 S P)(hc:pr){body:Code}{gh:Nat}{ts:List Nat}{next:St->Prop}{Q:M0}(h:KG S P (Hd S gh ts next Q) (.code body [] (stp P g).st))(hp:pr=D2 (cnd P g):=by kernel_rfl)(a:stp P g=.pop .normal [] (stp P g).st:=by kernel_rfl):KG S P (Dq S P body gh ts next Q) g:=by refine⟨GK hS hc ?_ hp⟩;rw[a];exact G_asg hS h.out
def XN (hS:H3 S P)(hc:pr){K:List It}{gh:Nat}{ts:List Nat}{next:St->Prop}(t:St)(hk:KG S P F (.pop (exitE (stp P g)) K t))(hp:pr=D2 (cnd P g):=by kernel_rfl)(a:BD2 (stp P g)=true:=by kernel_rfl)
 (hle:KLe (stp P g).st (rst gh t):=by exact kl) (h1:t.env.map (·.1)=ts:=by kernel_rfl) (d:A2 t.Uu gh=none:=by kernel_rfl) (b:(⟨AK ts (t.env.map (·.2)),del gh (ins gh (.ghost (t.env.map (·.2))) t.Uu)⟩:St)=t:=by kernel_rfl):KG S P (Hd S gh ts next (kp S P K F)) g:=by
 refine⟨GK hS hc ?_ hp⟩;obtain⟨ids,hle⟩:=hle.out;generalize stp P g=g1 at hk a hle;have hl:(t.env.map (·.2)).length=ts.length:=by rw[<- h1];simp
 have c:A2 (del gh (ins gh (.ghost (t.env.map (·.2))) t.Uu)) gh=none:=by
  have:=congrArg St.Uu b
  grind
 unfold BD2 at a;split at a
 .exact AE5 hS S3 (rst gh t) ids hle (JG gh t) hl c (by rw[show (⟨AK ts (t.env.map (·.2)),del gh (rst gh t).Uu⟩:St)=t from b];exact hk.out)
 .exact AE5 hS S3 (rst gh t) ids hle (JG gh t) hl c (by rw[show (⟨AK ts (t.env.map (·.2)),del gh (rst gh t).Uu⟩:St)=t from b];exact hk.out)
 grind
end
section
variable {S:X4}{P:Program}{F:M0}{g:Cfg}{pr:Prop}
def Bt7 (j:Nat)(ps:List PV):Cfg->Cfg
 |.ops all rest K st=>mkO (Bn6 j ps st.env) (ins j .dead st.Uu) λenv Uu=>.ops all rest K ⟨env,Uu⟩
 |g=>g
def K_frzO (hS:H3 S P)(hc:pr)(j:Nat)(ps:List PV)(hk:KG S P F (Bt7 j ps (stp P g)))(hp:pr=D2 (cnd P g):=by kernel_rfl)(a:Lm (stp P g)=true:=by kernel_rfl)
 (b:A2 (stp P g).st.Uu j=some (.cells (ps.map .p)):=by kernel_rfl):KG S P F g:=by
 refine⟨GK hS hc ?_ hp⟩;generalize stp P g=g1 at hk a b;unfold Lm at a;split at a
 .have hk:=hk.out;simp only[Bt7,GR]at hk;exact ZI hS (hS.frz _ j ps _ b hk)
 grind
def BD3 (ids:List Nat):Cfg->Option (FuncId×List AV×List Obj)
 |.ops all (o::_) _ st=>match BW all st.env o,o.op with
  |some true,.call c=>match c.callee with
   |.value f=>match Zt st.env f (c.args.toList.map (aev st.env))with
    |some (fn,as')=>match Fc ids as',M9 ids st.Uu ids with
     |some a,some ob=>if I5 ids&&GM ob then some (fn,a,ob)else none
     |_,_=>none
    |none=>none
   |_=>none
  |_,_=>none
 |_=>none
def BD4 (ids:List Nat)(ks:List Bool)(n:Nat):Cfg->Bool
 |.ops _ (o::_) _ st=>Z6 st.Uu ids ks (o.dst.getD 0) n
 |_=>false
def BD5 (ids:List Nat)(ks:List Bool)(r:AV)(objs' : List Obj):Cfg->Cfg
 |.ops all (o::rest) K st=>AN5 o.dst (unA (I3 (o.dst.getD 0) ids ks objs'.length) r) st.env
  (back (I3 (o.dst.getD 0) ids ks objs'.length) (I3 (o.dst.getD 0) ids ks objs'.length) objs' (K9 ids ks st.Uu)) λst=>.ops all rest K st
 |g=>g
def BK4 (hS:H3 S P)(ids:List Nat)(hc:pr){fn:FuncId}{args:List AV}{objs objs' : List Obj}{r:AV}{ks:List Bool}(f:Uw S fn args objs r objs' ks)(hk:KG S P F (BD5 ids ks r objs' (stp P g)))
 (hp:pr=D2 (cnd P g):=by kernel_rfl) (a:BD3 ids (stp P g)=some (fn,args,objs):=by kernel_rfl) (hn:BD4 ids ks objs'.length (stp P g)=true:=by kernel_rfl):KG S P F g:=by
 refine⟨GK hS hc ?_ hp⟩;have hk:=hk.out;generalize stp P g=g' at a hn hk;unfold BD3 at a
 repeat' split at a<;>try contradiction
 rename_i i j _ _ c _ _ _ hw _ _ _ _ l d b;cases a;simp at b
 grind[BD5,BD4,He,BH4]
def unrT:List (St->Prop)->Nat->St->Prop
 |[],_,_=>False
 |a::_,0,t=>a t
 |_::l,i+1,t=>unrT l i t
def Bt8 (hS:H3 S P)(hc:pr)(n:Nat)(T:Nat->St->Prop)(s0:St)(o:T 0 s0)
 (j:∀{X:Type}{s' : X->St}{J:X->Prop}{m:X->Nat}{k:Nat}(i:Nat) (t:St),i<=n->T i t ->
  (∀{g' : Cfg}{pr:Prop}{t' : St},pr->Nat.ble (i+1) n=true->T (i+1) t' -> (hp:pr=D2 (cnd P g'):=by kernel_rfl)->(q:stp P g' = .pop .normal (.lp X s' J m k::(stp P g).k) (stp P g').st:=by kernel_rfl)->(hle:KLe (stp P g').st t':=by exact kl)->KG S P F g') ->
  KG S P F (.code (Uk (stp P g)) (.lp X s' J m k::(stp P g).k) t)) (hp:pr=D2 (cnd P g):=by kernel_rfl) (hl:JE (stp P g)=true:=by kernel_rfl) (hle:KLe (stp P g).st s0:=by exact kl):KG S P F g:=by
 refine⟨GK hS hc ?_ hp⟩;rw[XD hl];obtain⟨ids,hle⟩:=hle.out;refine AC2 hS (X:=Nat×St) (λx=>x.2) (λx=>x.1<=n/\T x.1 x.2) (λx=>n-x.1) (0,s0) ids hle (by grind) ?_;rintro⟨i,t⟩ ⟨l,ht⟩;refine (j (s':=λx:Nat×St=>x.2) (J:=λx=>x.1<=n/\T x.1 x.2) (m:=λx=>n-x.1) (k:=n-i) i t l ht λ{_ _ t'} b hn c d f a=>⟨GK hS b ?_ d⟩).out;obtain⟨ids',a⟩:=a.out;rw[f];have hn:i+1<=n:=Ci9 hn;exact hS.le ids' _ _ _ a ⟨(i+1,t'),rfl,⟨hn,c⟩,by grind⟩
end
section
variable {S:X4}{P:Program}{F:M0}{g:Cfg}{pr:Prop}
def I6 (hS:H3 S P)(hc:pr)(d:Nat)(st:St->St)(hk:KG S P F (opsS (st (HZ P d g).st) (HZ P d g)))(hp:pr=D2 (BJ7 P d g):=by kernel_rfl)(a:Lm (HZ P d g)=true:=by kernel_rfl)(hle:KLe (HZ P d g).st (st (HZ P d g).st):=by exact kl):KG S P F g:=by
 refine⟨(Ig (u:=some d) (F:=F) hS 400 [] g (by subst hp;exact hc)).2 ?_⟩;have hk:=hk.out;obtain⟨ids,hle⟩:=hle.out;show G S P F (HZ P d g);generalize HZ P d g=g' at a hle hk;unfold Lm at a;split at a
 .exact Bb9 hS _ ids hle hk
 grind
end
section
variable {S:X4}{P:Program}{F:M0}{g:Cfg}{pr:Prop}
def BW4 (S:X4)(P:Program)(pv:PV)(m:String)(as:List AV)(r:AV):Prop:=∃t y fn,pv=.iface t y/\ZC P t m=some fn/\ZH S fn (.p (nP y)::as) r
def invE:Cfg->Option (PV×String×List AV)
 |.ops all (o::_) _ st=>match BW all st.env o,o.op with
  |some true,.call c=>match c.callee with
   |.invoke rv m=>match Jt st.Uu (c.args.toList.map (aev st.env)),aev st.env rv with
    |some (as,_),.p pv=>match Fc [] as with
     |some as'=>some (pv,m,as')
     |none=>none
    |_,_=>none
   |_=>none
  |_,_=>none
 |_=>none
def invK (r:AV):Cfg->Cfg
 |.ops all (o::rest) K st=>match o.op with
  |.call c=>match Jt st.Uu (c.args.toList.map (aev st.env))with
   |some (_,Uu)=>AN5 o.dst (unA [] r) st.env Uu λst=>.ops all rest K st
   |none=>.ops all (o::rest) K st
  |_=>.ops all (o::rest) K st
 |g=>g
def Rc (hS:H3 S P)(hc:pr){pv:PV}{m:String}{as:List AV}{r:AV}(b:BW4 S P pv m as r)(hk:KG S P F (invK r (stp P g)))
 (hp:pr=D2 (cnd P g):=by kernel_rfl) (a:invE (stp P g)=some (pv,m,as):=by kernel_rfl):KG S P F g:=by
 obtain⟨t,y,fn,rfl,hm,b⟩:=b;refine⟨GK hS hc ?_ hp⟩;have hk:=hk.out;generalize stp P g=g' at a hk;unfold invE at a
 repeat' split at a<;>try contradiction
 rename_i i f _ _ _ c _ _ _ _ _ ha d _ _ j;cases a;simp only[invK,f,ha,He]at hk;refine Br8 hS i f c ha d hm (args:=.p (nP y)::_) ?_ b hk
 grind[Fc,Zs]
def C7 (hS:H3 S P)(hc:pr)(d j:Nat)(ps:List PV)(hk:KG S P F (Bt7 j ps (HZ P d g)))(hp:pr=D2 (BJ7 P d g):=by kernel_rfl)(a:Lm (HZ P d g)=true:=by kernel_rfl)
 (b:A2 (HZ P d g).st.Uu j=some (.cells (ps.map .p)):=by kernel_rfl):KG S P F g:=by
 refine⟨(Ig (u:=some d) (F:=F) hS 400 [] g (by subst hp;exact hc)).2 ?_⟩;have hk:=hk.out;show G S P F (HZ P d g);generalize HZ P d g=g' at a b hk;unfold Lm at a;split at a
 .simp only[Bt7,GR]at hk;exact ZI hS (hS.frz _ j ps _ b hk)
 grind
def Bt9 (j j' : Nat):AV->AV
 |.vecp i m=>if i=j then .vec j' else .vecp i m
 |a=>a
def Bu0 (j j' : Nat):List AV->List AV
 |[]=>[]
 |a::r=>Bt9 j j' a::Bu0 j j' r
def Bu1 (j j' : Nat):Env->Env
 |[]=>[]
 |(t,a)::r=>(t,Bt9 j j' a)::Bu1 j j' r
def AO1 (j j' : Nat):C6->C6
 |[]=>[]
 |(t,.cells cs)::r=>(t,.cells (Bu0 j j' cs))::AO1 j j' r
 |(t,o)::r=>(t,o)::AO1 j j' r
def msA (j:Nat)(r:List Nat):AV->List Nat
 |.vecp i m=>if i=j then m::r else r
 |_=>r
def msL (j:Nat):List AV->List Nat
 |[]=>[]
 |a::r=>msA j (msL j r) a
def msE (j:Nat):Env->List Nat
 |[]=>[]
 |(_,a)::r=>msA j (msE j r) a
def msR (j:Nat):C6->List Nat
 |[]=>[]
 |(_,.cells cs)::r=>msL j cs++msR j r
 |_::r=>msR j r
def Bc9 {j:Nat}{r:List Nat}{a:AV}:∀x∈r,x∈msA j r a:=by
 intro x hx;unfold msA
 grind
def AG1 {j n j' : Nat}{r:List Nat}{a:AV}(h:∀m∈msA j r a,m=n):Bo1 j n j' a=Bt9 j j' a:=by
 cases a with
 |vecp i m=>
  simp only[Bo1,Bt9];by_cases e:i=j
  all_goals simp_all[msA]
 |_=>rfl
def AG2 {j n j' : Nat}:∀{l:List AV},(∀m∈msL j l,m=n)->BB9 j n j' l=Bu0 j j' l
 |[],_=>rfl
 |a::r,h=>by simp only[BB9,Bu0,AG1 (r:=msL j r) h,AG2 λm hm=>h m (Bc9 m hm)]
def AG3 {j n j' : Nat}:∀{l:Env},(∀m∈msE j l,m=n)->BB8 j n j' l=Bu1 j j' l
 |[],_=>rfl
 |(t,a)::r,h=>by simp only[BB8,Bu1,AG1 (r:=msE j r) h,AG3 λm hm=>h m (Bc9 m hm)]
def XO {j n j' : Nat}:∀{l:C6},(∀m∈msR j l,m=n)->AC1 j n j' l=AO1 j j' l
 |[],_=>rfl
 |(t,o)::r,h=>by
  cases o with
  |cells cs=>simp only[AC1,AO1,BR0,AG2 λm hm=>h m (Ch7 _ hm),XO λm hm=>h m (Ci1 _ hm)]
  |_=>simp only[AC1,AO1,BR0,XO (l:=r) h]
def truC (j j' : Nat)(e:TypeId)(k n:Nat)(f:Nat->List PV):Cfg->Cfg
 |.ops all rest K st=>mkO (Bu1 j j' st.env) (ins j' (.vec e k n f false) (ins j .dead (AO1 j j' st.Uu))) λenv Uu=>.ops all rest K ⟨env,Uu⟩
 |g=>g
def BW5 (hS:H3 S P)(hc:pr)(d j n j' : Nat){e:TypeId}{k N:Nat}{f:Nat->List PV}(hn:n<=N)(hk:KG S P F (truC j j' e k n f (HZ P d g)))(hp:pr=D2 (BJ7 P d g):=by kernel_rfl)(b:Lm (HZ P d g)=true:=by kernel_rfl)
 (c:A2 (HZ P d g).st.Uu j=some (.vec e k N f false):=by kernel_rfl) (i:A2 (HZ P d g).st.Uu j' = none:=by kernel_rfl) (h1:Nat.ble 1000 j' = true:=by kernel_rfl)
 (hm:(msE j (HZ P d g).st.env++msR j (HZ P d g).st.Uu)=List.replicate (msE j (HZ P d g).st.env++msR j (HZ P d g).st.Uu).length n:=by kernel_rfl):KG S P F g:=by
 refine⟨(Ig (u:=some d) (F:=F) hS 400 [] g (by subst hp;exact hc)).2 ?_⟩;have hk:=hk.out;show G S P F (HZ P d g);generalize HZ P d g=g' at b c i hk hm;unfold Lm at b;split at b
 .rename_i st;have a:∀m∈msE j st.env++msR j st.Uu,m=n:=λm h=>by
   rw[show msE j st.env++msR j st.Uu=_ from hm]at h
   grind
  simp only[truC,GR]at hk;refine ZI hS (hS.trunc _ j j' n N k e f _ c hn i (Ci9 h1) ?_);rw[AG3 λm h=>a m (by grind),XO λm h=>a m (by grind)];omega
 grind
end
abbrev cA {α : Type}(n:Nat)(c : α -> PV)(f:Nat -> α):List PV:=Fa n (λi=>c (f i))
def H0 (n:Nat)(f:Nat->PV):(Fa n f).length=n:=by simp[Fa]
def Er (n:Nat)(f:Nat->PV):∀i,i<n->[(Fa n f).getD i default]=[f i]:=by
 grind[Fa]
def RV {n:Nat}{z:PV}{ps:List PV}(h:ps=List.replicate n z):∀i,i<n->[ps.getD i default]=[z]:=by
 grind
def AO2 {n:Nat}{f g:Nat->PV}(h:∀i,i<n->[f i]=[g i]):Fa n f=Fa n g:=by
 grind[Fa,List.map_congr_left]
abbrev Zv {α : Type}(f:Nat -> α)(k:Nat)(x : α):Nat -> α:=λi=>ite (i=k) x (f i)
def BK5 {α : Type}{c : α -> PV}{n k:Nat}{v:Nat -> α}{f:Nat->PV}{e:PV}{x : α}(h:∀i,i<n->[f i]=[c (v i)])(hx:e=c x):∀i,i<n->[ite (i=k) e (f i)]=[c (ite (i=k) x (v i))]:=by
 grind
def app1H {α : Type}{c : α -> List PV}{n:Nat}{v:Sl α}{f g:Nat->List PV}{z : α}(h:∀i,i<n->f i=c (v.g i))(hn:n=v.n):∀i,i<n+1->i≠v.n->DO n f g i=c ((v.push z).g i):=by
 subst hn;intro i b a;have hl:i<v.n:=by omega
 show (ite (i<v.n) (f i) (g (i-v.n)))=c (ite (i<v.n) (v.g i) z);rw[Jk hl,Jk hl];grind
def setH {α : Type}{c : α -> List PV}{n k:Nat}{v:Sl α}{f e:Nat->List PV}{x : α}(h:∀i,i<n->i≠k->f i=c (v.g i))(hx:k<n->e k=c x):∀i,i<n->(λl=>ite (l=k) (e l) (f l)) i=c ((v.upd k x).g i):=by
 grind
section
variable {S:X4}{P:Program}{F:M0}{g:Cfg}{R X:Type}{A B:Option R}{r:R}{b:Bool}
def kI (hS:H3 S P)(h:(ite b A B)=some r)(ht:A=some r->KG S P F (Bc0 (stp P g)))(a:B=some r->KG S P F (Bc1 (stp P g)))
 (hp:True=D2 (cnd P g):=by kernel_rfl) (hb:Ar1 (stp P g)=some b:=by kernel_rfl):KG S P F g:=
 O0 hS S3 (λc=>ht (itT c h)) (λc=>a (itF c h)) hp hb
def kG (hS:H3 S P)(h:(ite b A B)=some r)(ht:A=some r->KG S P F (RM true (stp P g)))(a:B=some r->KG S P F (RM false (stp P g)))
 (hp:True=D2 (cnd P g):=by kernel_rfl) (hb:AF0 (stp P g)=some b:=by kernel_rfl):KG S P F g:=
 Ip hS S3 (λc=>ht (itT c h)) (λc=>a (itF c h)) hp hb
def kR (hS:H3 S P){n:Nat}{rs:List ResultVar}{Q:ARes->List Obj->List Bool->Prop}{a:AV}{objs:List Obj}(b:Q (.ret a) objs (Jw n []):=by exact⟨rfl,rfl,rfl⟩)
 (hp:True=D2 (cnd P g):=by kernel_rfl) (c:(BR7 (stp P g)).bind (λst=>AN9 P st rs [])=some (a,objs):=by kernel_rfl):KG S P (Fk S P n rs Q) g:=
 Bc6 hS S3 [] b hp c
theorem Ym (hS:H3 S P)(h:(ite b A B)=some r)(a:B=some r->KG S P F (Bc1 (stp P g)))(ht:A=some r->KG S P F (Bc0 (stp P g)):=by intro h;cases h;exact kR (by assumption))
 (hp:True=D2 (cnd P g):=by kernel_rfl)(hb:Ar1 (stp P g)=some b:=by kernel_rfl):KG S P F g:=kI hS h ht a hp hb
def kC (hS:H3 S P){x:Option X}{f:X->Option R}(h:x.bind f=some r){fn:FuncId}{args:List AV}{objs:List Obj}{objs' : X->List Obj}{rr:X->AV}{ks:List Bool}
 (a:∀{y},x=some y->Uw S fn args objs (rr y) (objs' y) ks) (hk:∀y,f y=some r->KG S P F (Bs3 [] ks (rr y) (objs' y) (stp P g)))
 (hp:True=D2 (cnd P g):=by kernel_rfl) (b:AN6 [] (stp P g)=some (fn,args,objs):=by kernel_rfl) (hn:∀y,AN7 [] ks (objs' y).length (stp P g)=true:=by intro y;kernel_rfl):KG S P F g:=by
 obtain⟨y,e,h⟩:=E4 h;exact D6 hS [] S3 (a e) (hk y h) hp b (hn y)
end
inductive BT where
 |l (b:Bool)
 |n (b:Bool) (t f:BT)
def BT.ev:BT->Bool
 |.l b=>b
 |.n b t f=>ite b t.ev f.ev
inductive BE where
 |a (b:Bool)
 |n (x y:BE)
 |o (x y:BE)
def BE.den:BE->Bool
 |.a b=>b
 |.n x y=>x.den&&y.den
 |.o x y=>x.den||y.den
def BE.tr:BE->BT->BT->BT
 |.a b,t,f=>.n b t f
 |.n x y,t,f=>x.tr (y.tr t f) f
 |.o x y,t,f=>x.tr t (y.tr t f)
def BE.top:BE->BT
 |.a b=>.l b
 |.n x y=>x.tr y.top (.l false)
 |.o x y=>x.tr (.l true) y.top
def BE.tr_ev:∀(e:BE) (t f:BT),(e.tr t f).ev=if e.den then t.ev else f.ev
 |.a b,t,f=>rfl
 |.n x y,t,f=>by simp only[tr,den,x.tr_ev,y.tr_ev];by_cases h:x.den=true<;>simp[h]
 |.o x y,t,f=>by simp only[tr,den,x.tr_ev,y.tr_ev];by_cases h:x.den=true<;>simp[h]
def BE.top_ev:∀e:BE,e.top.ev=e.den
 |.a b=>rfl
 |.n x y=>by simp only[top,den,x.tr_ev,y.top_ev,BT.ev];by_cases h:x.den=true<;>simp[h]
 |.o x y=>by simp only[top,den,x.tr_ev,y.top_ev,BT.ev];by_cases h:x.den=true<;>simp[h]
def keeps:Op->Bool
 |.move _ | .assign _ | .pick .. | .load .. | .nilCheck _ | .binOp .. | .unOp .. | .convert .. | .fieldAddr .. | .field .. | .indexAddr .. | .index .. | .extract ..=>true
 |.call { callee:=.builtin .len,.. } | .call { callee:=.builtin .min,.. } | .call { callee:=.builtin .max,.. }=>true
 |_=>false
def AO3 {P:Program}{env:Env}{Uu:C6}{d:Nat}{o:Op}{out:Out}(hk:keeps o=true)(h:aop P env Uu d o=some out):out.Uu=Uu:=by unfold keeps at hk;split at hk<;>first|(cases hk;done)|(simp only[aop]at h;(repeat' split at h)<;>first|(cases h;rfl)|cases h)
def VP {o:Op}(hk:keeps o=true):BR1 o=true:=by unfold keeps at hk;split at hk<;>first|cases hk;done|rfl
def Bu2:List Prop->List Prop
 |[]=>[]
 |c=>[D2 c]
def bgo (P:Program)(Uu:C6)(o:Oper)(last:Bool)(rec:List Prop->Env->Option (BT×List Prop))(c:List Prop)(env:Env)(runs:Bool):Option (BT×List Prop):=match runs with
 |true=>match keeps o.op,o.dst with
  |true,some d=>match aop P env Uu d o.op with
   |some ⟨p,v,_⟩=>match last with
    |true=>match Rl v with
     |some b=>some (.l b,Bu2 (p++c))
     |none=>none
    |false=>fA v λv=>AY0 d v env λenv=>rec (p++c) env
   |none=>none
  |_,_=>none
 |false=>match last,o.dst with
  |false,some d=>AY0 d Dm env λenv=>rec c env
  |_,_=>none
def bev (P:Program)(all:List Oper)(Uu:C6):List Oper->List Prop->Env->Option (BT×List Prop)
 |[],_,_=>none
 |o::rest,c,env=>
  match o.guard with
  |none=>bgo P Uu o rest.isEmpty (λc env=>bev P all Uu rest c env) c env true
  |some (j,want)=>match get env (Id all j)with
   |.p (.v (.bool b))=>bgo P Uu o rest.isEmpty (λc env=>bev P all Uu rest c env) c env (b==want)
   |.p (.v (.tuple _))=>bgo P Uu o rest.isEmpty (λc env=>bev P all Uu rest c env) c env false
   |.p (.bb b)=>match AY0 (Id all j) (.p (.v (.bool true))) env λenv=>bgo P Uu o rest.isEmpty (λc env=>bev P all Uu rest c env) [] env want,
    AY0 (Id all j) (.p (.v (.bool false))) env λenv=>bgo P Uu o rest.isEmpty (λc env=>bev P all Uu rest c env) [] env !want with
    |some (t,ct),some (f,cf)=>some (.n b t f,Bu2 c++(ct.map (λp=>b=true->p)++cf.map (λp=>b=false->p)))
    |_,_=>none
   |_=>none
def AX0 (l:List Oper):List Nat:=l.filterMap (·.dst)
def BK6 (ks:List Nat)(env:Env):Env:=env.filter λq=>!ks.contains q.1
def AG4 (ks:List Nat)(env:Env)(x:Nat):get (BK6 ks env) x=ite (x∈ks) (.top) (get env x):=by
 induction env with
 |nil=>simp[BK6,get]
 |cons q r ih=>
  obtain⟨i,a⟩:=q;simp only[BK6,List.filter_cons];by_cases b:i∈ks
  .rw[Js (by grind)]
   have:=ih
   grind[BK6,get]
  rw[Jk (by grind)]
  grind[get,BK6]
def Ar2:List Oper->Option Nat
 |[]=>none
 |[o]=>o.dst
 |_::r=>Ar2 r
section
variable {S:X4}{P:Program}
def VQ {c:List Prop}(h:∀p∈Bu2 c,p):D2 c:=by
 cases c with
 |nil=>trivial
 |cons p r=>exact h _ (by simp[Bu2])
def BW6 (hS:H3 S P){all:List Oper}{Uu:C6}{Q:M0}{post:List Oper}{envF:Env}{V:Bool}{d:Nat}(hQ:∀s,S.up s (Lj S P all post Q)->Lj S P all post Q s)(hV:get envF d=.p (.bb V))
 (hw:Lj S P all post Q ⟨envF,Uu⟩) :
 ∀(L:List Oper) (c:List Prop) (env:Env) (T:BT) (C:List Prop),bev P all Uu L c env=some (T,C)->(∀p∈C,p)->T.ev=V->Ar2 L=some d ->
  (∀x,x≠d->Xh (get envF x) (get env x) \/ (x∈AX0 L/\get envF x=.top))->(∀x∈AX0 L,x≠d->get envF x=.top)->D2 c/\Lj S P all (L++post) Q ⟨env,Uu⟩:=by
 intro L
 induction L with
 |nil=>intro c env T C h;cases h
 |cons o rest ih=>
  intro c env T C h l a hd hl ht;simp only[bev,Mo]at h;have key:∀(c:List Prop) (env:Env) (runs:Bool) (T:BT) (C:List Prop),bgo P Uu o rest.isEmpty (λc env=>bev P all Uu rest c env) c env runs=some (T,C)->(∀p∈C,p)->T.ev=V ->
   (∀x,x≠d->Xh (get envF x) (get env x) \/ (x∈AX0 (o::rest)/\get envF x=.top)) ->
   D2 c/\(ite runs (wOp S P o (Lj S P all (rest++post) Q) Q ⟨env,Uu⟩) (Lj S P all (rest++post) Q (put ⟨env,Uu⟩ o.dst Dm))):=by
   intro c env runs T C h l a hl;have a0:rest.isEmpty=false->Ar2 rest=some d:=by
    grind[Ar2]
   have hds:∀{d'},o.dst=some d' -> AX0 (o::rest)=d' :: AX0 rest:=λg=>by grind[AX0]
   have i:∀d' (v:AV),o.dst=some d' -> ∀x,x≠d->Xh (get envF x) (get (ins d' v env) x) \/ (x∈AX0 rest/\get envF x=.top):=by
    intro d' v g x hx;rw[Fu];by_cases m:d' = x
    .subst m;exact .inl (.inl (by grind))
    grind
   cases runs with
   |true=>
    simp only[bgo,AK8,Mo,Lo]at h⊢;split at h
    .rename_i d' hk g;split at h
     .rename_i p v regs' ha;have hr:regs' = Uu:=AO3 hk ha;subst hr;have u : aop P env regs' (o.dst.getD 0) o.op=some ⟨p,v,regs'⟩:=by rw[g];grind
      split at h
      .rename_i w;split at h
       .rename_i b hb;cases h;have n:=VQ l;obtain⟨hc,hp⟩:=(FQ _ _).1 n;refine⟨hc,QW (VP hk) u hp ?_⟩;obtain rfl:rest=[]:=(by grind);simp only[Ar2]at hd;have e:d' = d:=by rw[g]at hd;grind
        subst e;refine hQ _ (hS.less _ ⟨envF,regs'⟩ _ (λx=>?_) (λ_=>by rw[g];rfl) (by omega));rw[g];show Xh (get envF x) (get (ins d' v env) x);rw[Fu];by_cases hx:d' = x
        .subst hx;rw[Jk rfl,hV];have a:b=V:=a;subst a;unfold Rl at hb;split at hb
         .cases hb;exact .inr (by grind)
         .cases hb;exact .inr (.inl rfl)
         grind
        rw[Js hx];rcases hl x (λe=>hx e.symm)with h|⟨_,h⟩
        .exact h
        exact .inl h
       grind
      rename_i w;have hn:∀x,x≠d->Xh (get envF x) (get (ins d' v env) x) \/ (x∈AX0 rest/\get envF x=.top):=i d' v g;obtain⟨n,r⟩:=ih _ _ _ _ h l a (by grind) hn (by grind);obtain⟨hc,hp⟩:=(FQ _ _).1 n;exact⟨hc,QW (VP hk) u hp (by rw[g];exact r)⟩
     grind
    grind
   |false=>
    simp only[bgo,Mo,Ce4,Lp]at h⊢;split at h
    .rename_i d' w g;have hn:∀x,x≠d->Xh (get envF x) (get (ins d' Dm env) x) \/ (x∈AX0 rest/\get envF x=.top):=i d' _ g;obtain⟨hc,r⟩:=ih _ _ _ _ h l a (by grind) hn (by grind);exact⟨hc,by rw[g];exact r⟩
    grind
  simp only[Ce9,Lj];cases hg:o.guard with
  |none=>simp only[hg]at h;obtain⟨hc,hk⟩:=key _ _ _ _ _ h l a hl;exact⟨hc,hS.refl _ _ (by grind)⟩
  |some q=>
   obtain⟨j,want⟩:=q;simp only[hg]at h;split at h
   .rename_i b hb;obtain⟨hc,hk⟩:=key _ _ _ _ _ h l a hl;refine⟨hc,hS.refl _ _ ⟨some b,by rw[hb];rfl,?_⟩⟩;have e:(some b=some want)↔(b==want)=true:=by simp
    grind
   .rename_i tt hb;obtain⟨hc,hk⟩:=key _ _ _ _ _ h l a hl;refine⟨hc,hS.refl _ _ ⟨none,by rw[hb];rfl,?_⟩⟩;rw[Js (by simp)];grind
   .rename_i b hb;split at h
    .rename_i t ct f cf h1 h2;cases h;have hc:D2 c:=VQ λp hp=>l p (by grind);refine⟨hc,hS.bool _ _ b _ hb ?_⟩;have z:∀x,x≠d->Xh (get envF x) (get (ins (Id all j) (.p (.v (.bool b))) env) x) \/ (x∈AX0 (o::rest)/\get envF x=.top):=by
      intro x hx;rw[Fu];by_cases m:Id all j=x
      .subst m;rw[Jk rfl];rcases hl _ hx with h|h
       .rw[hb]at h;rcases h with h|h|⟨y,h1,h2⟩
        .exact .inl (.inl h)
        .exact .inl (.inr (.inr ⟨b,h,rfl⟩))
        grind
       grind
      grind
     cases b with
     |true=>
      obtain⟨_,hk⟩:=key _ _ _ _ _ h1 (λp hp=>l (true=true->p) (by grind) rfl) a z;refine⟨some true,by show yv (get (ins _ _ _) _)=_;rw[Fu,Jk rfl];rfl,?_⟩
      grind
     |false=>
      obtain⟨_,hk⟩:=key _ _ _ _ _ h2 (λp hp=>l (false=false->p) (by grind) rfl) a z;refine⟨some false,by show yv (get (ins _ _ _) _)=_;rw[Fu,Jk rfl];rfl,?_⟩
      grind
    grind
   grind
end
def BK7 (P:Program)(m:Nat):Cfg->Option (BT×List Prop)
 |.ops all rest K st=>bev P all st.Uu (rest.take m) [] st.env
 |_=>none
def BW7 (m:Nat)(b:Bool):Cfg->Cfg
 |.ops all rest K st=>match Ar2 (rest.take m)with
  |some d=>mkO (ins d (.p (.bb b)) (BK6 (AX0 (rest.take m)) st.env)) st.Uu λenv Uu=>.ops all (rest.drop m) K ⟨env,Uu⟩
  |none=>.ops all rest K st
 |g=>g
def BW8 (m:Nat):Cfg->Bool
 |.ops all rest K st=>(Ar2 (rest.take m)).isSome
 |_=>false
def BW9:List Prop->Prop
 |[]=>True
 |p::r=>r.foldl And p
def Bu3 {l:List Prop}(h:BW9 l):∀p∈l,p:=by
 have:∀(r:List Prop) (p:Prop),r.foldl And p->p/\∀q∈r,q:=by
  intro r
  induction r<;>grind
 cases l with
 |nil=>grind
 |cons a r=>
  obtain⟨h1,b⟩:=this _ _ h
  grind
section
variable {S:X4}{P:Program}{F:M0}{g:Cfg}{pr pc:Prop}
def kB (hS:H3 S P)(n:∀s,S.up s (F .normal)->F .normal s)(hc:pr)(c:pc)(m:Nat)(E:BE)(hk:KG S P F (BW7 m E.den (stp P g)))
 (hp:pr=D2 (cnd P g):=by kernel_rfl) (a:(BK7 P m (stp P g)).map (·.1)=some E.top:=by kernel_rfl) (b:(BK7 P m (stp P g)).map (λx=>BW9 x.2)=some pc:=by kernel_rfl) (f:BW8 m (stp P g)=true:=by kernel_rfl):KG S P F g:=by
 refine⟨GK hS hc ?_ hp⟩;have hk:=hk.out;generalize stp P g=g' at hk a b f;unfold BK7 at a b;split at a
 .rename_i all rest K st;simp only[BW8,Cf3]at f;obtain⟨d,j⟩:=f;simp only[BW7,j,GR]at hk;cases hb:bev P all st.Uu (rest.take m) [] st.env with
  |none=>rw[hb]at a;grind
  |some q=>
   obtain⟨T,C⟩:=q;simp only[hb]at a b;simp only[Cf0,Cd9]at a b;subst a
   have:=(BW6 hS (Q:=kp S P K F) (post:=rest.drop m) (envF:=ins d (.p (.bb E.den)) (BK6 (AX0 (rest.take m)) st.env)) (V:=E.den) (d:=d) ?_ (by rw[Fu,Jk rfl]) hk (rest.take m) [] st.env E.top C hb
    (Bu3 (b ▸ c)) E.top_ev j (λx hx=>?_) (λx hx i=>?_)).2
   .rwa [Cp1]at this
   .intro s h;cases l:rest.drop m with
    |nil=>rw[l]at h;exact Bs1 hS n K s h
    |cons o r=>rw[l]at h;exact hS.trans _ _ h
   .rw[Fu,Js (λe=>hx e.symm),AG4];split
    .grind
    exact .inl (.inr (.inl rfl))
   rw[Fu,Js (λe=>i e.symm),AG4,Jk hx]
 grind
end
def famC (op:Xg):Cfg->List Prop
 |.ops _ _ _ st=>match X6 op st with
  |some (c,_)=>c
  |none=>[False]
 |_=>[False]
def famG (op:Xg):Cfg->Cfg
 |.ops all rest K st=>match X6 op st with
  |some (_,st)=>mkO st.env st.Uu λenv Uu=>.ops all rest K ⟨env,Uu⟩
  |none=>.ops all rest K st
 |g=>g
section
variable {S:X4}{P:Program}{F:M0}{g:Cfg}{pr pc:Prop}
def Dc (hS:H3 S P)(hc:pr)(d:Nat)(op:Xg)(b:pc)(hk:KG S P F (famG op (HZ P d g)))(hp:pr=D2 (BJ7 P d g):=by kernel_rfl)(f:Lm (HZ P d g)=true:=by kernel_rfl)
 (a:pc=D2 (famC op (HZ P d g)):=by kernel_rfl):KG S P F g:=by
 refine⟨(Ig (u:=some d) (F:=F) hS 400 [] g (by subst hp;exact hc)).2 ?_⟩;have hk:=hk.out;show G S P F (HZ P d g);generalize HZ P d g=g' at f a hk;unfold Lm at f;split at f
 .rename_i all o rest K st;simp only[famC]at a;simp only[famG]at hk;cases i:X6 op st with
  |none=>rw[i]at a;grind
  |some q=>obtain⟨c,st'⟩:=q;simp only[i,GR]at hk a;subst a;exact ZI hS (hS.fam op _ _ c _ i b hk)
 grind
end
def BX0 (j k n:Nat)(e:TypeId)(g:Nat->List PV)(vw:Bool):Cfg->Cfg
 |.ops all rest K st=>mkO st.env (ins j (.vec e k n g vw) st.Uu) λenv Uu=>.ops all rest K ⟨env,Uu⟩
 |g=>g
def Bd0 {S:X4}{P:Program}{F:M0}{g:Cfg}{pr:Prop}(hS:H3 S P)(hc:pr)(d j:Nat){k n:Nat}{e:TypeId}{vw:Bool}(f q:Nat->List PV)(c:∀i,i<n->leC (f i) (q i))(hk:KG S P F (BX0 j k n e q vw (HZ P d g)))
 (hp:pr=D2 (BJ7 P d g):=by kernel_rfl) (a:Lm (HZ P d g)=true:=by kernel_rfl) (b:A2 (HZ P d g).st.Uu j=some (.vec e k n f vw):=by kernel_rfl):KG S P F g:=by
 refine⟨(Ig (u:=some d) (F:=F) hS 400 [] g (by subst hp;exact hc)).2 ?_⟩;have hk:=hk.out;show G S P F (HZ P d g);generalize HZ P d g=g1 at hk a b;unfold Lm at a;split at a
 .simp only[BX0,GR]at hk;exact ZI hS (hS.vecq _ j n k e f q vw _ b c hk)
 grind
def leCn {k:Nat}{g:Nat->List PV}:leC [.v (.slice none 0 0)] [.sl false k 0 g]:=Ih BT7 Cc2
def leCr (l:List PV):leC l l:=⟨rfl,λ_=>.p (.inl rfl)⟩
def BX1 (op:Xg):Cfg->List Prop
 |.code _ _ st=>match X6 op st with
  |some (c,_)=>c
  |none=>[False]
 |_=>[False]
def BX2 (op:Xg):Cfg->Cfg
 |.code c K st=>match X6 op st with
  |some (_,st)=>mkO st.env st.Uu λenv Uu=>.code c K ⟨env,Uu⟩
  |none=>.code c K st
 |g=>g
def AG5 {S:X4}{P:Program}{F:M0}{g:Cfg}{pr pc:Prop}(hS:H3 S P)(hc:pr)(op:Xg)(f:pc)(hk:KG S P F (BX2 op (stp P g)))(hp:pr=D2 (cnd P g):=by kernel_rfl)(i:DW (stp P g)=true:=by kernel_rfl)(d:P.follows .mixedOrders=true:=by kernel_rfl)
 (b:Ju (JF (stp P g)).all=true:=by kernel_rfl) (a:pc=D2 (BX1 op (stp P g)):=by kernel_rfl):KG S P F g:=by
 refine⟨GK hS hc ?_ hp⟩;generalize stp P g=g1 at hk i b a;unfold DW at i;split at i
 .rename_i id ops K st;have hk:=hk.out;simp only[BX2]at hk;simp only[BX1]at a;cases j:X6 op st with
  |none=>rw[j]at a;grind
  |some q=>
   obtain⟨c,st'⟩:=q;simp only[j,GR]at hk a;subst a;show awp S P (.region id ops true) (kp S P K F) st;simp only[awp,Lo];have l : Ao1 S P ops.toList (kp S P K F) st':=by
    have:awp S P (.region id ops true) (kp S P K F) st':=hk
    simp_all[awp,Lo]
   exact AE7 hS d b (hS.fam op _ _ c _ j f l)
 grind
def Ac6 {P:Program}{f:FuncId}{vw:Bool}{args:List PV}{e:TypeId}{k n:Nat}{g:Nat->List PV}(r:∀as w,(callFunc f as).run P w=.ok (.enter f as) w)(hk:∀i,i<n->(g i).length=k)
 (h:∀(w:World) (Pi:Nat->Nat->Prop) (vs:Array Value),(∀b off,Pi b off->b<w.heap.size)->vs.size=args.length->(∀i,i<args.length->Uy w Pi (vs.getD i undef) (args.getD i default)) ->
  Calls P f vs w λx w'=>∃v,x=.returned v/\RowKit.Below w.heap.size w w' /\ ((v=.slice none 0 0/\n=0) \/ ∃b cap c,v=.slice (some ⟨b,0,none⟩) n cap/\w.heap.size<=b/\w'.heap[b]? = some (.cells c e (0,0))/\n<=cap/\c.size=cap*k/\cap<=maxLen /\
   ∀i j,i<n->j<k->Uy w Pi (c.getD (i*k+j) undef) ((g i).getD j default)/\(c.getD (i*k+j) undef).oneCell' = true)):Uw (Ia P) f (args.map .p) [] (.vec 0) [.vec e k n g vw] []:=by
 intro 𝒢 C w vs rho hG hs hsz;have hno0:∀j,A2 (Uv []) j=none:=λj=>by simp[Uv,Uv.go,A2]
 have h0:=h w (Prv C.X (A2 (Uv [])) rho) vs (λb off hp=>by
  rcases hp with hp|⟨j,o,d,_⟩
  .exact hs.hp.bound b off hp
  grind) (by grind) (λi z=>by
  have:=hs.env i
  rw[Da]at this;have e:(args.map AV.p).getD i .top=.p (args.getD i default):=by grind
  rw[e]at this;exact this.toP)
 refine⟨_,_,r _ _,callsIn_wide.2 (h0.mono ?_)⟩;rintro x w' ⟨v,rfl,hb,hv⟩;have hR:∀j o,A2 (Uv [Obj.vec e k n g vw]) j=some o->j=0/\o=.vec e k n g vw:=λj o d=>by
  simp only[Uv,Uv.go,A2]at d
  grind
 have hR0:A2 (Uv [Obj.vec e k n g vw]) 0=some (.vec e k n g vw):=rfl
 let rho' : Nat->Value:=λj=>if j=0 then v else rho j
 have hr0:rho' 0=v:=rfl;have q:∀b,G0 v (.vec e k n g vw) b->w.heap.size<=b/\b<w'.heap.size:=by
  intro b s;rcases hv with⟨rfl,_⟩ | ⟨b',cap,c,rfl,h1,h2,_⟩
  .cases s
  cases s;grind
 have t:∀b o,Prv C.X (A2 (Uv [Obj.vec e k n g vw])) rho' b o->C.X b o \/ w.heap.size<=b:=by
  rintro b o (y|⟨j,o',d,a,_⟩)
  all_goals grind
 have l:Ux w (Prv C.X (A2 (Uv [])) rho) w' (Prv C.X (A2 (Uv [Obj.vec e k n g vw])) rho'):=λb o u hp hc=>by
  have m:=Cj2 w ⟨b,o,none⟩ hc;refine⟨by rw[<- hc];exact Cg5 (hb.block b m),λhpp=>?_⟩;rcases t b o hpp with y|hge
  .exact hp (.inl y)
  grind
 refine⟨C,.ret (.vec 0),[.vec e k n g vw],[],rho',hG,⟨rfl,rfl,rfl⟩,?_,⟨v,rfl,?_⟩,by grind⟩
 .refine⟨⟨λj o d=>?_,by grind,λj o b off d a y=>?_,λb off hp=>Cf5 (hs.hp.bound b off hp) hb.size⟩,hs.ext.trans ⟨hb.os,hb.output⟩,Ch9 hs.size hb.size,λb m hE=>?_,hs.keep.trans l,λb a=>?_,by grind⟩
  .obtain⟨rfl,rfl⟩:=hR j o d;rw[hr0];rcases hv with hn|⟨b,cap,c,rfl,h1,h2,h3,h4,h5,h6⟩
   .exact .inl hn
   exact .inr ⟨b,cap,c,rfl,h2,h3,h4,h5,hk,λi j z d=>⟨(h6 i j z d).1.keeps l,(h6 i j z d).2⟩⟩
  .obtain⟨rfl,rfl⟩:=hR j o d;have h1:=(q b a).1;have h2:=hs.hp.bound b off y;omega
  .rw[hb.block b (Cf5 m hs.size)];exact hs.same b m hE
  obtain⟨j,o,d,a⟩:=a;obtain⟨rfl,rfl⟩:=hR j o d;exact .inr (Ch9 hs.size (q b a).1)
 rcases hv with⟨rfl,_⟩ | ⟨b,cap,c,rfl,_⟩
 .exact .vec 0 none 0 0 (by grind[Lv]) rfl
 exact .vec 0 _ n cap (by grind[Lv]) rfl
open Go.RowKit Go.ChangeShapes
section
variable {S:X4}{P:Program}{F:M0}{K:List It}{st:St}{g:Cfg}{pr:Prop}
def BK8 (p:Option PV)(r:ARes):Prop:=match p with
 |none=>∃a,r=.ret a
 |some x=>r=.panic x
def RW (S:X4)(f:FuncId)(first caps:List AV)(objs:List Obj)(L:List (List PV))(p:Option PV):Prop:= S.F f (first ++ .yf objs.length::caps) (objs++[.yld L true]) λr objs' ks=>∃b,objs'[objs.length]? = some (.yld [] b)/\ks[objs.length]? = some true/\(b=true->BK8 p r)/\(b=false->∃a,r=.ret a)
def endP:Option PV->Rk
 |none=>.normal
 |some x=>.panic x
def Bu4 (hS:H3 S P){g:Operand}{ps:Array Tmp}{asg body:Code}{f:FuncId}{first caps as bs:List AV}{objs:List Obj}(ids ts:List Nat)(gh:Nat)(L:List (List PV)){p:Option PV}{X:Type}(s:X->St)(J:List (List PV)->X->Prop)(x0:X)(idl:List (Nat×Nat))
 (hp:Hc st.env g=some (f,first,caps)) (m:∃fn,P.funcs[f]? = some fn/\fn.body.isSome=true/\(fn.name == "runtime.NumGoroutine")=false) (n:M9 ids st.Uu ids=some objs) (o:GM objs=true) (hd:I5 ids=true) (q:Fc ids first=some as) (t:Fc ids caps=some bs) (u:objs.length=ids.length)
 (v:gh<1000) (w:A2 st.Uu gh=none) (z:ids.length<1000) (a0:I5 ts=true) (d:∀ys∈L,ys.length=ps.size)
 (hF:RW S f as bs objs L p) (hle:Le idl ⟨AK ts (ts.map (get st.env)),K9 ids (ids.map λ_=>false) st.Uu⟩ (s x0)) (h0:J L x0) (hk:∀x,(s x).env.map (·.1)=ts) (hn:∀x,A2 (s x).Uu gh=none)
 (c:∀ys rest x,J (ys::rest) x->G S P (Dq S P body gh ts (Br9 s J rest) (kp S P K F)) (.code asg [] ⟨MX ps.toList ys (s x).env,ins gh (.ghost ((s x).env.map (·.2))) (s x).Uu⟩))
 (i:∀x,J [] x->G S P F (.pop (endP p) K (s x))):G S P F (.code (.rangeFunc g ps asg body) K st):=by
 have j:∀{l:List Nat},I5 l=true->l.Nodup:=by
  intro l
  induction l with
  |nil=>grind
  |cons a r ih=>
   simp_all[I5,Ce2,Cf6,Ch6,decide_eq_false_iff_not,Cj6]
 refine⟨f,first,caps,as,bs,objs,ids,ts,gh,L,Br9 s J,λb r=>b=true->BK8 p r,hp,m,o,hd,q,t,n,v,w,z,j a0,d,hS.le idl _ _ _ hle ⟨hk x0,hn x0,x0,rfl,h0⟩,?_,?_,?_⟩
 .rintro ys rest _ _ _ ⟨x,rfl,hJ⟩;have h:=c ys rest x hJ;have e:Dq S P body gh ts (Br9 s J rest) (kp S P K F)=λe s'=>match e with
   |.normal=>S.up s' λs'=>awp S P body (Hd S gh ts (Br9 s J rest) (kp S P K F)) s'
   |_=>False:=by funext e s';cases e<;>rfl
  rw[e]at h;exact h
 .rintro _ r _ _ ⟨x,rfl,hJ⟩ hf;have h1:=hf rfl;have h2:=i x hJ;cases p with
  |none=>obtain⟨a,rfl⟩:=h1;exact h2
  |some y=>cases h1;exact h2
 rw[<- u];refine hS.monoF _ _ _ _ _ ?_ hF
 grind
def Bu5 (hS:H3 S P){g:Operand}{ps:Array Tmp}{asg body:Code}{f:FuncId}{first caps as bs:List AV}{objs:List Obj}{R T A:Type}{enc:T->List PV}{L:List T}{p:Option PV}{mb:(A->Option R)->T->A->Option R}{mk:A->Option R}{a0:A}{r:R}
 (ids ts:List Nat) (gh:Nat) (s:A->St) (idl:List (Nat×Nat)) (h:T1 L mb mk a0=some r) (w:RW S f as bs objs (L.map enc) p)
 (hp:Hc st.env g=some (f,first,caps)) (i:∃fn,P.funcs[f]? = some fn/\fn.body.isSome=true/\(fn.name == "runtime.NumGoroutine")=false) (j:M9 ids st.Uu ids=some objs) (l:GM objs=true) (x:I5 ids=true) (m:Fc ids first=some as) (n:Fc ids caps=some bs) (o:objs.length=ids.length)
 (y:Nat.blt gh 1000=true) (q:A2 st.Uu gh=none) (z:Nat.blt ids.length 1000=true) (u:I5 ts=true) (v:∀t:T,(enc t).length=ps.size)
 (hle:Le idl ⟨AK ts (ts.map (get st.env)),K9 ids (ids.map λ_=>false) st.Uu⟩ (s a0)) (hk:∀a,(s a).env.map (·.1)=ts) (hn:∀a,A2 (s a).Uu gh=none)
 (b:∀(t:T) (next:St->Prop) (c:A->Option R) (a:A),(∀(st st1:St) (cs:List AV) (idl:List (Nat×Nat)) (a:A),Le idl st st1->A2 st1.Uu gh=some (.ghost cs)->cs.length=ts.length->A2 (del gh st1.Uu) gh=none->(⟨AK ts cs,del gh st1.Uu⟩:St)=s a->c a=some r->G S P (Hd S gh ts next (kp S P K F)) (.pop .normal [] st)) ->
  mb c t a=some r->G S P (Dq S P body gh ts next (kp S P K F)) (.code asg [] ⟨MX ps.toList (enc t) (s a).env,ins gh (.ghost ((s a).env.map (·.2))) (s a).Uu⟩))
 (d:∀a,mk a=some r->G S P F (.pop (endP p) K (s a))):G S P F (.code (.rangeFunc g ps asg body) K st):=by
 refine Bu4 hS ids ts gh (L.map enc) s (λrest a=>∃L',rest=L'.map enc/\T1 L' mb mk a=some r) a0 idl hp i j l x m n o (by simp_all) q (by simp_all) u (λys hy=>?_) w hle ⟨L,rfl,h⟩ hk hn ?_ ?_
 .grind
 .rintro ys rest a ⟨L',hL,hx⟩;cases L' with
  |nil=>grind
  |cons t L'=>simp at hL;obtain⟨rfl,rfl⟩:=hL;refine b t _ (T1 L' mb mk) a (λst st1 cs idl a hle h1 h2 h3 h4 h5=>?_) hx;exact Aq4 hS st1 a idl hle h1 h2 h3 h4 ⟨L',rfl,h5⟩
 rintro a ⟨L',hL,hx⟩;cases L' with
 |nil=>exact d a hx
 |cons t L'=>grind
def AG6 (hS:H3 S P)(hc:pr){f:FuncId}{as bs:List AV}{objs:List Obj}{R T A:Type}{enc:T->List PV}{L:List T}{p:Option PV}{mb:(A->Option R)->T->A->Option R}{mk:A->Option R}{a0:A}{r:R}
 (ids ts:List Nat) (gh:Nat) (s:A->St) (h:T1 L mb mk a0=some r) (x:RW S f as bs objs (L.map enc) p)
 (i:∀t:T,(enc t).length=(LD (stp P g)).size) (hk:∀a,(s a).env.map (·.1)=ts) (hn:∀a,A2 (s a).Uu gh=none) (m:∀a,(⟨AK ts ((s a).env.map (·.2)),del gh (ins gh (.ghost ((s a).env.map (·.2))) (s a).Uu)⟩:St)=s a)
 (c:∀{next:St->Prop}(t:T) (d:A->Option R) (a:A),
  (∀{g' : Cfg}{pr:Prop}{a:A},pr->d a=some r->(hp:pr=D2 (cnd P g'):=by kernel_rfl)->(b:stp P g' = .pop .normal [] (stp P g').st:=by kernel_rfl)->(hle:KLe (stp P g').st (rst gh (s a)):=by exact kl)->KG S P (Hd S gh ts next (kp S P (stp P g).k F)) g') ->
  mb d t a=some r->KG S P (Dq S P (Ac2 (stp P g)) gh ts next (kp S P (stp P g).k F)) (.code (Ac1 (stp P g)) [] (Ac4 gh (LD (stp P g)) (enc t) (s a))))
 (j:∀a,mk a=some r->KG S P F (.pop (endP p) (stp P g).k (s a)))
 (hp:pr=D2 (cnd P g):=by kernel_rfl) (b:Ac0 P ids (stp P g)=some (f,as,bs,objs):=by kernel_rfl) (o:Nat.blt gh 1000=true:=by kernel_rfl) (n:A2 (stp P g).st.Uu gh=none:=by kernel_rfl) (q:I5 ts=true:=by kernel_rfl)
 (hle:KLe (Ac3 ids ts (stp P g)) (s a0):=by exact kl):KG S P F g:=by
 refine⟨GK hS hc ?_ hp⟩;have u:=(KT b).2;replace b:=(KT b).1;generalize stp P g=g1 at i c j b n hle;unfold RU at b;split at b
 .rename_i op ps asg body K st;split at b
  .rename_i f' first caps v
   split at b
   .rename_i objs' as' bs' y z h4;split at b
    .rename_i w;simp only[Cd9,Cf2]at b;obtain⟨rfl,rfl,rfl,rfl⟩:=b;simp only[Ce2,Cf6,beq_iff_eq]at w;obtain⟨⟨⟨e3,e4⟩,e5⟩,e6⟩:=w;obtain⟨idl,hle⟩:=hle.out;refine Bu5 hS ids ts gh s idl h x v u y e3 e4 z h4 e5 o n e6 q i hle hk hn (λt next d a hb hm=>?_) (λa hm=>(j a hm).out);refine (c t d a (λ{_ _ a} hc l hp b hle=>⟨GK hS hc ?_ hp⟩) hm).out;obtain⟨ids',hle⟩:=hle.out;rw[b];have hl:((s a).env.map (·.2)).length=ts.length:=by rw[<- hk a];simp
     refine hb _ (rst gh (s a)) ((s a).env.map λp=>p.2) ids' a hle (JG gh (s a)) hl ?_ (m a) l
     have:=congrArg St.Uu (m a)
     simp only at this;show A2 (del gh (ins gh _ _)) gh=none;rw[this];exact hn a
    cases b
   cases b
  cases b
 cases b
def Bd1 (hS:H3 S P){f:FuncId}{fn:Func}{first caps:List AV}{objs:List Obj}{L:List (List PV)}{p:Option PV}(i:P.funcs[f]? = some fn)
 (h:KG S P (Fk S P (objs++[Obj.yld L true]).length fn.results.toList λr objs' ks=>∃b,objs'[objs.length]? = some (.yld [] b)/\ks[objs.length]? = some true/\(b=true->BK8 p r)/\(b=false->∃a,r=.ret a)) (.code (fn.body.getD .skip) [] { env:=Yl (first ++ .yf objs.length::caps),Uu:=Uv (objs++[Obj.yld L true]) }))
 (hc:fn.body.isSome=true:=by kernel_rfl) (hn:Nat.ble (first ++ .yf objs.length::caps).length fn.ntmps=true:=by kernel_rfl) (j:Nat.blt (objs++[Obj.yld L true]).length 1000=true:=by kernel_rfl)
 (d:BV fn.ntmps (fn.body.getD .skip)=true:=by kernel_rfl) (g:(fn.name == "runtime.NumGoroutine")=false:=by kernel_rfl):RW S f first caps objs L p:=by
 obtain⟨code,c⟩:=Cf3.1 hc;rw[c,Ce6]at d h;exact OJ hS i c (Ci9 hn) (by simp_all) rfl d g h.out
def Bu6 (hS:H3 S P){f:FuncId}{fn:Func}{args:List AV}{objs:List Obj}{Q:ARes->List Obj->List Bool->Prop}(d:P.funcs[f]? = some fn)
 (h:KG S P (Fk S P objs.length fn.results.toList Q) (.code (fn.body.getD .skip) [] { env:=Yl args,Uu:=Uv objs }))
 (hc:fn.body.isSome=true:=by kernel_rfl) (hn:Nat.ble args.length fn.ntmps=true:=by kernel_rfl) (g:Nat.blt objs.length 1000=true:=by kernel_rfl)
 (b:BV fn.ntmps (fn.body.getD .skip)=true:=by kernel_rfl) (c:(fn.name == "runtime.NumGoroutine")=false:=by kernel_rfl):S.F f args objs Q:=by
 obtain⟨code,a⟩:=Cf3.1 hc;rw[a,Ce6]at b h;exact OJ hS d a (Ci9 hn) (by simp_all) rfl b c h.out
def panE:Cfg->Option PV
 |.ops all (o::_) _ st=>match BW all st.env o,o.op with
  |some true,.panic x=>match aev st.env x with
   |.p (.iface t y)=>some (.iface t y)
   |_=>none
  |_,_=>none
 |_=>none
def panC (x:PV):Cfg->Cfg
 |.ops _ _ K st=>.pop (.panic x) K st
 |g=>g
def BK9 (hS:H3 S P)(hc:pr){x:PV}(hk:KG S P F (panC x (stp P g)))(hp:pr=D2 (cnd P g):=by kernel_rfl)(a:panE (stp P g)=some x:=by kernel_rfl):KG S P F g:=by
 refine⟨GK hS hc ?_ hp⟩;have hk:=hk.out;generalize stp P g=g1 at hk a;unfold panE at a
 repeat' split at a<;>try contradiction
 rename_i all o rest K st _ _ y b c _ t z hx;cases a;exact BJ4 hS b c hx hk
def Bu7:Cfg->Option PV
 |.pop (.panic x) [] _=>some x
 |_=>none
def BD6 (hS:H3 S P)(hc:pr){n:Nat}{rs:List ResultVar}{Q:ARes->List Obj->List Bool->Prop}{x:PV}{objs:List Obj}(outs:List Nat)(c:Q (.panic x) objs (Jw n outs))(hp:pr=D2 (cnd P g):=by kernel_rfl)
 (a:Bu7 (stp P g)=some x:=by kernel_rfl) (d:I5 outs=true:=by kernel_rfl) (b:M9 outs (stp P g).st.Uu outs=some objs:=by kernel_rfl):KG S P (Fk S P n rs Q) g:=by
 refine⟨GK hS hc ?_ hp⟩;generalize stp P g=g1 at a b;unfold Bu7 at a;split at a
 .cases a;exact⟨outs,objs,d,b,c⟩
 grind
theorem BL0 (hS:H3 S P){all rest:List Oper}{o:Oper}{c:Call}{f:Operand}{as:List AV}{Uu:C6}{fn:FuncId}{as' args:List AV}{objs objs' : List Obj}{ks:List Bool}{x:PV}(ids:List Nat)
 (d:BW all st.env o=some true) (g:o.op=.call c) (b:c.callee=.value f) (ha:Jt st.Uu (c.args.toList.map (aev st.env))=some (as,Uu))
 (hw:Zt st.env f as=some (fn,as')) (i:Fc ids as' = some args) (a:M9 ids Uu ids=some objs) (j:S.F fn args objs λres o k=>res=.panic x/\o=objs' /\ k=ks)
 (l:I5 ids=true) (hy:GM objs=true) (hn:Z6 Uu ids ks (o.dst.getD 0) objs'.length=true)
 (hk:G S P F (.pop (.panic x) K { env:=st.env,Uu:=back (I3 (o.dst.getD 0) ids ks objs'.length) (I3 (o.dst.getD 0) ids ks objs'.length) objs' (K9 ids ks Uu) })) :
 G S P F (.ops all (o::rest) K st):=by
 refine BX hS d ?_;unfold wOp;obtain⟨callee,cargs,types⟩:=c;simp only at b ha;subst b;rw[g];refine .inl ⟨as,Uu,_,_,.inl ha,hw,ids,args,objs,l,i,a,hy,hS.monoF _ _ _ _ _ ?_ j⟩;rintro _ _ _ ⟨rfl,rfl,rfl⟩;exact⟨hn,hk⟩
def BD7 (ids:List Nat)(ks:List Bool)(x:PV)(objs' : List Obj):Cfg->Cfg
 |.ops all (o::rest) K st=>match o.op with
  |.call c=>match Jt st.Uu (c.args.toList.map (aev st.env))with
   |some (_,Uu)=>mkO st.env (back (I3 (o.dst.getD 0) ids ks objs'.length) (I3 (o.dst.getD 0) ids ks objs'.length) objs' (K9 ids ks Uu)) λenv Uu=>.pop (.panic x) K ⟨env,Uu⟩
   |none=>.ops all (o::rest) K st
  |_=>.ops all (o::rest) K st
 |g=>g
def BL1 (hS:H3 S P)(ids:List Nat)(hc:pr){fn:FuncId}{args:List AV}{objs objs' : List Obj}{x:PV}{ks:List Bool}(f:S.F fn args objs λres o k=>res=.panic x/\o=objs' /\ k=ks)
 (hk:KG S P F (BD7 ids ks x objs' (stp P g))) (hp:pr=D2 (cnd P g):=by kernel_rfl) (a:AN6 ids (stp P g)=some (fn,args,objs):=by kernel_rfl) (hn:AN7 ids ks objs'.length (stp P g)=true:=by kernel_rfl):KG S P F g:=by
 refine⟨GK hS hc ?_ hp⟩;replace hk:=hk.out;generalize stp P g=g' at a hn hk;unfold AN6 at a
 repeat' split at a<;>try contradiction
 rename_i i j _ _ c _ _ _ ha _ _ _ hw _ _ _ _ l d b;cases a;simp at b
 grind[BD7,AN7,GR,BL0]
def VR (S:X4)(R:St->Prop)(X:PV->St->Prop):M0
 |.normal,st=>S.up st R
 |.panic x,st=>X x st
 |_,_=>False
def K_upN (hS:H3 S P)(hc:pr){R:St->Prop}{X:PV->St->Prop}(st:St)(hR:R st)(hp:pr=D2 (cnd P g):=by kernel_rfl)(a:stp P g=.pop .normal [] (stp P g).st:=by kernel_rfl)
 (hle:KLe (stp P g).st st:=by exact kl):KG S P (VR S R X) g:=by
 refine⟨GK hS hc ?_ hp⟩;obtain⟨_,hle⟩:=hle.out;rw[a];exact hS.le _ _ _ R hle hR
def K_upP (hS:H3 S P)(hc:pr){R:St->Prop}{X:PV->St->Prop}{x:PV}(b:X x (stp P g).st)(hp:pr=D2 (cnd P g):=by kernel_rfl)(a:Bu7 (stp P g)=some x:=by kernel_rfl):KG S P (VR S R X) g:=by
 refine⟨GK hS hc ?_ hp⟩;generalize stp P g=g1 at a b;unfold Bu7 at a;split at a
 .cases a;exact b
 grind
end
section
variable {S:X4}{P:Program}{F:M0}{K:List It}{g:Cfg}{pr:Prop}
def Ar3 (hS:H3 S P){all:List Oper}{o:Oper}{k k' : St->Prop}{Q Q' : M0}(hk:∀s,k s->k' s)(z:∀x s,Q (.panic x) s->Q' (.panic x) s){st:St}(h:Jq S P all o k Q st):Jq S P all o k' Q' st:=by
 have e:∀st,wOp S P o k Q st->wOp S P o k' Q' st:=by
  intro st h;have n:∀d ids f args st,Ao0 S d ids f args st (Lu o.dst k Q)->Ao0 S d ids f args st (Lu o.dst k' Q'):=by
   rintro d ids f args st ⟨a,ob,h1,l,m,q,u⟩;refine⟨a,ob,h1,l,m,q,hS.monoF _ _ _ _ _ (λr o ks ⟨v,w⟩=>⟨v,?_⟩) u⟩;cases r with
   |ret a=>exact hk _ w
   |panic x=>exact z _ _ w
  unfold wOp at h⊢;split at h
  .rcases h with⟨as,Uu,f',as',h1,l,ids,m⟩ | ⟨j,xs,Uu,ys,rest,h1,l,m,q,u,v⟩
   .exact .inl ⟨as,Uu,f',as',h1,l,ids,n _ _ _ _ _ m⟩
   exact .inr ⟨j,xs,Uu,ys,rest,h1,l,m,q,u,λb=>hk _ (v b)⟩
  .obtain⟨as,Uu,t,y,f',h1,l,m,ids,q⟩:=h;exact⟨as,Uu,t,y,f',h1,l,m,ids,n _ _ _ _ _ q⟩
  .obtain⟨t,y,h1,l⟩:=h;exact⟨t,y,h1,z _ _ l⟩
  .obtain⟨j,cl,last,seen,jm,es,h1,l,m,q,u,v,w⟩:=h;exact⟨j,cl,last,seen,jm,es,h1,l,m,q,u,λg=>hk _ (v g),λi hi hs=>hk _ (w i hi hs)⟩
  rcases h with⟨out,h1,l,m⟩ | ⟨c,x,h1,l,m⟩ | ⟨out,h1,l,m⟩
  .exact .inl ⟨out,h1,l,hk _ m⟩
  .exact .inr (.inl ⟨c,x,h1,l,hk _ m⟩)
  exact .inr (.inr ⟨out,h1,l,hk _ m⟩)
 unfold Jq at h⊢;refine hS.mono _ _ _ (λt h=>?_) h;split at h
 .exact e _ h
 obtain⟨b,h1,l⟩:=h;refine⟨b,h1,?_⟩;split
 .rename_i hb;rw[Jk hb]at l;exact e _ l
 rename_i hb;rw[Js hb]at l;exact hk _ l
def BL2 (all:List Oper)(n:Nat):Bool:= Nat.blt n all.length&&(List.range all.length).all λi=>Nat.blt i n||(List.range i).all λj=>((BV2 all).getD i []).contains j
def Ar4 (all:List Oper)(n:Nat):Bool:=(all.take n).all λo=>match o.guard with
 |some (j,_)=>Nat.blt j n
 |none=>true
def AO4 (all:List Oper){n:Nat}(a:Ar4 all n=true){o:Oper}(b:o∈all.take n){k:St->Prop}{Q:M0}{s:St}(h:Jq S P (all.take n) o k Q s):Jq S P all o k Q s:=by
 have h1:=Ce8.1 a o b;unfold Jq at h⊢;cases c:o.guard with
 |none=>simp_all
 |some q=>
  simp_all[Cs2,Id,Cm2,Jk]
def Ac7 (hS:H3 S P){all:List Oper}{n:Nat}{Q:M0}{st:St}(c:Ju all=true)(u:BL2 all n=true)(hg:Ar4 all n=true)
 (h:Ao1 S P (all.take n) (λe s=>match e with | .normal=>Lj S P all (all.drop n) Q s | .panic x=>Q (.panic x) s|_=>False) st):Ao1 S P all Q st:=by
 obtain⟨m,hdp,Inv,h0,f,a1⟩:=h;simp only[BL2,Ce2,Cs2,Ce8,Ch1,Cg6,Ch6,Lq]at u;obtain⟨hn,u⟩:=u
 let down:(Nat->Bool)->Prop:=λD=>∀i o,D i=true->all[i]? = some o->∀e∈o.after.toList,FR e=true->D e.on=true
 let Inv' : (Nat->Bool)->St->Prop:=λD s=>down D/\(((∀i,n<=i->D i=false)/\Inv D s) \/ ∃j,n<=j/\j<=all.length/\(∀i,i<all.length->(D i=true↔i<j))/\Lj S P all (all.drop j) Q s)
 refine⟨m,c,Inv',by grind,?_,?_⟩
 .intro D i s o ⟨hD,hc⟩ ho v a;have q:i<all.length:=(by grind);have hanc:=OH c hD i o ho a;have g:down λj=>ite (j=i) true (D j):=by
   grind
  have b:(∀j,j<i->D j=true)->(∀j,i<j->j<all.length->D j=false)->n<=i->S.up s (Lj S P all (all.drop i) Q)->Jq S P all o (Inv' λj=>ite (j=i) true (D j)) Q s:=by
   intro l hhi hni w;have hd:all.drop i=o::all.drop (i+1):=by
    rw[Cm5 q]
    grind
   rw[hd]at w;have h3:Jq S P all o (Lj S P all (all.drop (i+1)) Q) Q s:=hS.trans _ _ w;refine OK hS (λs' r=>?_) (λe s h=>h) h3;refine⟨g,.inr ⟨i+1,by omega,q,λi' hi'=>?_,r⟩⟩
   grind
  rcases hc with⟨l,hI⟩ | ⟨j,t,y,z,hw⟩
  .by_cases hi:i<n
   .have a0 : (all.take n)[i]? = some o:=by rw[Cm2,Jk hi];omega
    have h1:=AO4 all hg (by grind) (f D i s o hI a0 v a);refine Ar3 hS (λs' r=>?_) (λx s' h=>h) h1
    grind
   have d:∀j,j<i->D j=true:=(by grind);have e:i=n:=by
    by_cases h4:n<i
    all_goals grind
   grind
  have e:i=j:=by
   grind
  subst e;refine b (by grind) (λj h1 w=>?_) t (hS.refl _ _ hw)
  grind
 rintro D s ⟨hD,hc⟩ d;rcases hc with⟨l,hI⟩ | ⟨j,t,y,z,hw⟩
 .have:=d n hn;rw[l n (Ce5 _)]at this;grind
 have e:j=all.length:=by
  grind
 subst e;rw[List.drop_length]at hw;exact hS.refl _ _ hw
def Rd (n:Nat)(ls:List (Nat×Cls)):Cfg->SC
 |.code (.region _ ops true) _ st=>⟨ops.toList.take n,Cc8 ls 0 (ops.toList.take n),ops.toList.take n,st.env,st.Uu,[]⟩
 |_=>⟨[],[],[],[],[],[]⟩
def Bd2 (n:Nat)(env:Env)(Uu:C6):Cfg->Cfg
 |.code (.region _ ops true) K _=>.ops ops.toList (ops.toList.drop n) K ⟨env,Uu⟩
 |g=>g
def Bd3 (n:Nat):Cfg->Bool
 |.code (.region _ ops true) _ _=>Ju ops.toList&&BL2 ops.toList n&&Ar4 ops.toList n
 |_=>false
def Bu8 (hS:H3 S P)(hc:pr)(n:Nat)(ls:List (Nat×Cls))(h:DG S P (Rd n ls (stp P g)) λenv Uu=>KG S P F (Bd2 n env Uu (stp P g)))(hp:pr=D2 (cnd P g):=by kernel_rfl)(c:DW (stp P g)=true:=by kernel_rfl)(a:P.follows .mixedOrders=true:=by kernel_rfl)
 (b:PE (Rd n ls (stp P g)).all (Rd n ls (stp P g)).cls=true:=by kernel_rfl) (hb:Bd3 n (stp P g)=true:=by kernel_rfl):KG S P F g:=by
 have e:(λenv Uu=>KG S P F (Bd2 n env Uu (stp P g)))=λenv Uu=>G S P F (Bd2 n env Uu (stp P g)):=by funext env Uu;exact propext ⟨λh=>h.out,λh=>⟨h⟩⟩
 rw[e]at h;refine⟨GK hS hc ?_ hp⟩;have h:=h.out;generalize stp P g=g' at c b h hb;unfold DW at c;split at c
 .rename_i id ops K st;simp only[Bd3,Ce2]at hb;show awp S P (.region id ops true) (kp S P K F) st;simp only[awp,Lo];refine Ac7 hS hb.1.1 hb.1.2 hb.2 ?_;have d:(ops.toList.take n).toArray.toList=ops.toList.take n:=rfl
  have:=AE1 hS (F:=λe s=>match e with | .normal=>Lj S P ops.toList (ops.toList.drop n) (kp S P K F) s | .panic x=>kp S P K F (.panic x) s|_=>False) (K:=[]) (id:=id) (ops:=(ops.toList.take n).toArray) (Cc8 ls 0 (ops.toList.take n)) a b h
  simp_all[G,awp,Lo,kp,Rd]
 grind
end
open Go.RowKit Go.ChangeShapes Go.Deep
mutual
inductive LeD:PV->PV->Prop
 |refl (x:PV):LeD x x
 |sl {k n:Nat}{f g:Nat->List PV}(h:∀i,i<n->LeDs (f i) (g i)):LeD (.sl false k n f) (.sl false k n g)
inductive LeDs:List PV->List PV->Prop
 |nil:LeDs [] []
 |cons {x y:PV}{l r:List PV}(h:LeD x y) (h' : LeDs l r):LeDs (x::l) (y::r)
end
theorem LeDs.refl:∀l:List PV,LeDs l l
 |[]=>.nil
 |x::l=>.cons (.refl x) (LeDs.refl l)
def LeDs.length {l r:List PV}(h:LeDs l r):l.length=r.length:=by
 induction l generalizing r with
 |nil=>cases h;rfl
 |cons x l ih=>cases h<;>grind
def LeDs.get {l r:List PV}(h:LeDs l r):∀i,LeD (l.getD i default) (r.getD i default):=by
 induction l generalizing r with
 |nil=>cases h;exact λi=>.refl _
 |cons x l ih=>
  cases h with
  |cons h h'=>intro i;cases i<;>simp_all
def LeDs.append {a b c d:List PV}(h:LeDs a b)(h' : LeDs c d):LeDs (a++c) (b++d):=by
 induction a generalizing b with
 |nil=>cases h;grind
 |cons x l ih=>cases h with|cons h1 h2=>exact .cons h1 (ih h2)
def Uy.leD {w:World}{Pi:Nat->Nat->Prop}{v:Value}{x:PV}(h:Uy w Pi v x):∀{y:PV},LeD x y->Uy w Pi v y:=by
 induction h with
 |slnil k f=>intro y hy;cases hy with
  |refl=>exact .slnil _ _
  |sl h=>exact .slnil _ _
 |sl nn b off cap k n f c hn hk hc h sp hsp ih=>
  intro y hy;cases hy with
  |refl=>exact .sl nn b off cap k n f c hn hk hc h sp hsp
  |sl h'=>exact .sl false b off cap k n _ c hn (λi d=>by rw[<- (h' i d).length];grind) hc (λi j d g=>ih i j d g ((h' i d).get j)) sp hsp
 |v x=>intro y hy;cases hy;exact .v x
 |bb b=>intro y hy;cases hy;exact .bb b
 |str l=>intro y hy;cases hy;exact .str l
 |agg vs cs hs h1 h ih=>intro y hy;cases hy;exact .agg vs cs hs h1 h
 |ptr b off cs c hc h ih=>intro y hy;cases hy;exact .ptr b off cs c hc h
 |iface t x a h ih=>intro y hy;cases hy;exact .iface t x a h
 |fn f x y a b hx hy ha hb iha ihb=>intro y hy;cases hy;exact .fn f x _ a b hx ‹_› ha hb
def CRep.leD {W:World}{cs:List Value}{p q:List PV}(h:CRep W cs p)(hl:LeDs p q):CRep W cs q:=
 ⟨by rw[h.1,hl.length],λi a=>⟨(h.2 i (by rw[hl.length];omega)).1.leD (hl.get i),(h.2 i (by rw[hl.length];omega)).2⟩⟩
section
variable {P:Program}{t e:TypeId}{m:Nat}{pvs:List PV}
def FE (f:Nat->Nat):Nat->Nat
 |0=>0
 |k+1=>FE f k+f k
def BL3 (f:Nat->Nat){k n:Nat}(h:k<=n):FE f k<=FE f n:=by
 induction h with
 |refl=>omega
 |step _ ih=>grind[FE]
def JI (f:Nat->Nat){k n:Nat}(h:k<n):f k<=FE f n:=by
 have:=BL3 f (show k+1<=n from h)
 grind[FE]
def Ac8 {f g:Nat->Nat}:∀{n:Nat},(∀i,i<n->f i<=g i)->FE f n<=FE g n
 |0,_=>Ce5 _
 |n+1,h=>by
  have h1:=Ac8 (n:=n) λi a=>h i (by omega);have b:=h n (by omega)
  grind[FE]
def VT (f:Nat->Nat):∀n,An5 ((List.range n).map f)=FE f n:=by
 have app:∀a b:List Nat,An5 (a++b)=An5 a+An5 b:=by
  intro a b
  induction a with
  |nil=>simp[An5]
  |cons x r ih=>grind[Ab2]
 intro n
 induction n with
 |zero=>rfl
 |succ n ih=>rw[Cl1,Cl2,app,ih];simp[FE,An5]
def Ln (P:Program)(t:TypeId){T:Type}(c:T->List PV)(W:T->Prop)(sz:T->Nat):Prop:= ∀(m:Nat) (pvs:List PV),Mw P m t pvs->∃x:T,LeDs pvs (c x)/\W x/\sz x<=m
def V9 {k:IntKind}(ht:P.underlying t=some (.int k)):Ln P t (cI k) (λn=>(Lit.int k n).wf=true) (λ_=>1):=by
 intro m pvs h;cases h with
 |bool ht'=>rw[ht]at ht';grind
 |str ht'=>rw[ht]at ht';grind
 |slice _ ht'=>rw[ht]at ht';grind
 |arr ht'=>rw[ht]at ht';grind
 |struct ht'=>rw[ht]at ht';grind
 |int ht' hw hm=>rw[ht]at ht';grind[LeDs.refl]
def VU (ht:P.underlying t=some .bool):Ln P t cB (λ_=>True) (λ_=>1):=by
 intro m pvs h;cases h with
 |int ht'=>rw[ht]at ht';grind
 |str ht'=>rw[ht]at ht';grind
 |slice _ ht'=>rw[ht]at ht';grind
 |arr ht'=>rw[ht]at ht';grind
 |struct ht'=>rw[ht]at ht';grind
 |bool ht' hm=>exact⟨_,LeDs.refl _,trivial,hm⟩
def Hx (ht:P.underlying t=some .string):Ln P t cS (λ_=>True) (λl=>l.length+1):=by
 intro m pvs h;cases h with
 |int ht'=>rw[ht]at ht';grind
 |bool ht'=>rw[ht]at ht';grind
 |slice _ ht'=>rw[ht]at ht';grind
 |arr ht'=>rw[ht]at ht';grind
 |struct ht'=>rw[ht]at ht';grind
 |str ht' hm=>exact⟨_,LeDs.refl _,trivial,hm⟩
def O7 {T:Type}[Inhabited T]{c:T->List PV}{W:T->Prop}{sz:T->Nat}{k:Nat}(ht:P.underlying t=some (.slice e))(hk:P.cellsOf e=k)(h:Ln P e c W sz) :Ln P t (cL k c) (λs=>∀i,i<s.n->W (s.g i)) (λs=>FE (λi=>sz (s.g i)) s.n+1):=by
 intro m pvs hs;cases hs with
 |int ht'=>rw[ht]at ht';grind
 |bool ht'=>rw[ht]at ht';grind
 |str ht'=>rw[ht]at ht';grind
 |arr ht'=>rw[ht]at ht';grind
 |struct ht'=>rw[ht]at ht';grind
 | @slice _ _ e' n f ms ht' hl hel hm=>
  rw[ht]at ht';cases ht';obtain⟨g,b⟩:=choose_lt (α:=T) (p:=λi x=>LeDs (f i) (c x)/\W x/\sz x<=ms i) λi a=>h _ _ (hel i a);refine⟨⟨n,g⟩,?_,by grind,?_⟩
  .subst hk;exact .cons (.sl (by grind)) .nil
  have h1:=Ac8 (n:=n) λi a=>(b i a).2.2;rw[VT]at hm
  grind
def Q0 {fs:Array Field}(ht:P.underlying t=some (.struct fs))(h:Mw P m t pvs):∃m',JB P m' (fs.toList.map (·.type)) pvs/\m' + 1<=m:=by cases h<;>grind
def B7 {ts:List TypeId}(h:JB P m (t::ts) pvs):∃a b p q,pvs=p++q/\Mw P a t p/\JB P b ts q/\a+b<=m:=by cases h<;>grind
def X8 (h:JB P m [] pvs):pvs=[]:=by cases h;rfl
end
section
variable {κ ν : Type}
def JJ (eq : κ -> κ -> Bool)(k : κ)(z : ν):List (κ × ν)->Nat × ν×List (κ × ν)
 |[]=>(0,z,[(k,z)])
 |(a,v)::es=>ite (eq k a) (0,v,(k,v)::es) ((JJ eq k z es).1+1,(JJ eq k z es).2.1,(a,v)::(JJ eq k z es).2.2)
def BR8:List (κ × ν)->Nat -> ν -> List (κ × ν)
 |[],_,_=>[]
 |(a,_)::es,0,v=>(a,v)::es
 |p::es,n+1,v=>p::BR8 es n v
def Re {kP : κ -> PV}{vP : ν -> PV}{cmp:PV->PV->Option Bool}{eq : κ -> κ -> Bool}(hc:∀a b,cmp (kP a) (kP b)=some (eq a b))(k : κ)(z : ν):∀es:List (κ × ν),
 ∃q,GL cmp (kP k) (DQ kP vP es)=some q/\ent (kP k) (vP z) (DQ kP vP es) q=((JJ eq k z es).1,vP (JJ eq k z es).2.1,DQ kP vP (JJ eq k z es).2.2)
 |[]=>⟨none,rfl,rfl⟩
 |(a,v)::es=>by
  have e0:DQ kP vP ((a,v)::es)=(kP a,vP v)::DQ kP vP es:=rfl;rw[e0];simp only[GL,hc,JJ];cases h:eq k a
  .obtain⟨q,h1,c⟩:=Re (vP:=vP) hc k z es;refine⟨q.map (· + 1),by grind,?_⟩;cases q with
   |none=>simp only[ent,Cf2]at c;simp only[ent,Cq1,Ce4,Lp,Ch8,Cf2];refine⟨by rw[c.1],c.2.1,?_⟩;rw[Ce9,c.2.2];rfl
   |some j=>simp only[ent,Cf2]at c;simp only[ent,Cf0,Ce4,Lp,Cf2];refine⟨by rw[c.1],by grind,?_⟩;rw[Cu9,Cv5,c.2.2];rfl
  exact⟨some 0,rfl,rfl⟩
def Ac9 {eq : κ -> κ -> Bool}(c:∀a b,eq a b=true->a=b){k : κ}{z v : ν}:∀{es:List (κ × ν)},M7 eq k es=some v->(JJ eq k z es).2=(v,es)
 |[],h=>by cases h
 |(a,x)::es,h=>by
  simp only[M7]at h;simp only[JJ];split at h
  .grind
  rename_i hk;rw[Js hk,Ac9 c h]
def My (eq : κ -> κ -> Bool)(k : κ)(z : ν):∀es:List (κ × ν),(JJ eq k z es).1<(JJ eq k z es).2.2.length
 |[]=>by simp[JJ]
 |(a,v)::es=>by
  have:=My eq k z es
  grind[JJ]
def Ns {kP : κ -> PV}{vP : ν -> PV}:∀(es:List (κ × ν)) (i:Nat) (v : ν),i<es.length->BG7 (DQ kP vP es) i (vP v)=DQ kP vP (BR8 es i v)
 |[],i,v,h=>Ke h (by simp)
 |(a,x)::es,0,v,h=>rfl
 |p::es,n+1,v,h=>by
  have ih:=Ns (kP:=kP) (vP:=vP) es n v (by grind);have e0:DQ kP vP (p::es)=(kP p.1,vP p.2)::DQ kP vP es:=rfl;have e1:DQ kP vP (BR8 (p::es) (n+1) v)=(kP p.1,vP p.2)::DQ kP vP (BR8 es n v):=rfl;rw[e0,e1,<- ih]
  grind[BG7,List.getD_cons_succ]
def Nt (eq : κ -> κ -> Bool)(k : κ)(z v : ν):∀es:List (κ × ν),BR8 (JJ eq k z es).2.2 (JJ eq k z es).1 v=FZ eq k v es
 |[]=>rfl
 |(a,x)::es=>by
  have ih:=Nt eq k z v es;simp only[JJ,FZ];by_cases h:eq k a=true
  all_goals simp_all[Lo,Lp,Ce4,BR8,JJ]
end
section
variable {S:X4}{P:Program}{F:M0}{g:Cfg}{pr:Prop}
structure EntI where
 kt:TypeId
 key:PV
 z:PV
 es:List (PV×PV)
end
section
variable {S:X4}{P:Program}{pr:Prop}{sc:SC}{k:Env->C6->Prop}
def Bu9 (P:Program)(sc:SC):Option EntI:=match sc.cls,sc.rest with
 |cl::_,o::_=>match AN sc.all sc.env o,o.op,Aa9 cl sc.env (o.dst.getD 0) o.op with
  |some true,.mapEntry t m k,true=>match aev sc.env k,aev sc.env m with
   |.p key,.Uz j=>match A2 sc.Uu j,tk P t with
    |some (.map es),some (.map kt e)=>match Lt P e with
     |some z=>if Jp P kt (nP key) then some ⟨kt,nP key,z,es⟩else none
     |none=>none
    |_,_=>none
   |_,_=>none
  |_,_,_=>none
 |_,_=>none
def Ad0 (P:Program)(sc:SC):Option EntI:=match sc.cls,sc.rest with
 |.l js::_,o::_=>match AN sc.all sc.env o,o.op with
  |some true,.mapEntry t m k=>match aev sc.env k,aev sc.env m with
   |.p key,.Uz j=>if js.contains j then match A2 sc.Uu j,tk P t with
    |some (.map es),some (.map kt e)=>match Lt P e with
     |some z=>if Jp P kt (nP key) then some ⟨kt,nP key,z,es⟩else none
     |none=>none
    |_,_=>none
    else none
   |_,_=>none
  |_,_=>none
 |_,_=>none
def Bv0 (i:Nat)(y:PV)(es' : List (PV×PV))(sc:SC):SC:=match sc.rest with
 |o::rest=>match o.op with
  |.mapEntry _ m _=>match aev sc.env m with
   |.Uz j=>Bt1 o.dst (.tup [.p y,.p (pI .i64 i)]) sc.env (ins j (.map es') sc.Uu) λenv Uu=>⟨sc.all,sc.cls.tail,rest,env,Uu,sc.kn⟩
   |_=>sc
  |_=>sc
 |[]=>sc
def Bd4 (hc:pr){kt:TypeId}{key z y:PV}{es es' : List (PV×PV)}{i:Nat}(f:∃q,GL (Li P kt) key es=some q/\ent key z es q=(i,y,es'))(b:D2 (KN P kt))(hk:DG S P (Bv0 i y es' (Ds P sc)) k)
 (hp:pr=D2 (VK P sc):=by kernel_rfl) (a:Bu9 P (Ds P sc)=some ⟨kt,key,z,es⟩:=by kernel_rfl):DG S P sc k:=by
 refine⟨Bc2 hc ?_ hp⟩;obtain⟨q,f,u⟩:=f;replace hk:=hk.out;generalize Ds P sc=s at a hk;obtain⟨all,cls,rest,env,Uu,kn⟩:=s;cases rest with
 |nil=>cases cls<;>simp[Bu9]at a
 |cons o rest=>
  cases cls with
  |nil=>grind[Bu9]
  |cons cl cls=>
   simp only[Bu9]at a
   repeat' split at a<;>try contradiction
   rename_i t m kk l g d _ _ kp j h1 n _ _ es0 kt0 e0 w ht _ z0 x r;simp at a;obtain⟨rfl,rfl,rfl,rfl⟩:=a;simp only[Bv0,g,n,Ga,Ck1]at hk;refine AE4 (c:=KN P kt0) (v:=.tup [.p y,.p (pI .i64 i)]) (regs':=ins j (.map es') Uu) l ?_ b d hk;rw[g]
   grind[aop]
def Bv1 (hc:pr){kt:TypeId}{key z y:PV}{es:List (PV×PV)}{i:Nat}(d:∃q,GL (Li P kt) key es=some q/\ent key z es q=(i,y,es))(b:D2 (KN P kt))(hk:DG S P (Bv0 i y es (Ds P sc)) k)
 (hp:pr=D2 (VK P sc):=by kernel_rfl) (a:Ad0 P (Ds P sc)=some ⟨kt,key,z,es⟩:=by kernel_rfl):DG S P sc k:=by
 refine⟨Bc2 hc ?_ hp⟩;obtain⟨q,d,x⟩:=d;replace hk:=hk.out;generalize Ds P sc=s at a hk;obtain⟨all,cls,rest,env,Uu,kn⟩:=s;cases rest with
 |nil=>cases cls<;>simp[Ad0]at a
 |cons o rest=>
  cases cls with
  |nil=>grind[Ad0]
  |cons cl cls=>
   cases cl with
   |l js=>
    simp only[Ad0]at a
    repeat' split at a<;>try contradiction
    rename_i t m kk g n _ _ kp j h1 r u _ _ es0 kt0 e0 f ht _ z0 hz v;simp at a;obtain⟨rfl,rfl,rfl,rfl⟩:=a;simp only[Bv0,n,r,Ga,Ck1]at hk;have w:∀R2:C6,A2 R2 j=some (.map es0)->aop P env R2 (o.dst.getD 0) o.op=some ⟨KN P kt0,.tup [.p y,.p (pI .i64 i)],ins j (.map es0) R2⟩:=by
     grind[aop]
    have c:∀R2:C6,A2 R2 j=some (.map es0)->∀q,A2 (ins j (.map es0) R2) q=A2 R2 q:=by
     grind[O4]
    refine⟨true,g,?_⟩;rw[Jk rfl];exact⟨_,_,.inl ⟨_,w Uu f,b,trivial,c Uu f,by grind⟩,hk⟩
   |_=>simp[Ad0]at a
def Bv2 (sc:SC):Option (Int×PV×List (PV×PV)):=match sc.cls,sc.rest with
 |cl::_,o::_=>match AN sc.all sc.env o,o.op,Aa9 cl sc.env (o.dst.getD 0) o.op with
  |some true,.entryStore _ m s x,true=>match aev sc.env m,asInt (aev sc.env s),Fj sc.Uu (aev sc.env x)with
   |.Uz j,some s,some (y,Uu)=>match A2 Uu j with
    |some (.map es)=>some (s,y,es)
    |_=>none
   |_,_,_=>none
  |_,_,_=>none
 |_,_=>none
def BX3 (es' : List (PV×PV))(sc:SC):SC:=match sc.rest with
 |o::rest=>match o.op with
  |.entryStore _ m s x=>match aev sc.env m,Fj sc.Uu (aev sc.env x)with
   |.Uz j,some (_,Uu)=>Bt1 o.dst Qy sc.env (ins j (.map es') Uu) λenv Uu=>⟨sc.all,sc.cls.tail,rest,env,Uu,sc.kn⟩
   |_,_=>sc
  |_=>sc
 |[]=>sc
def XP (hc:pr){i:Nat}{y:PV}{es es' : List (PV×PV)}(n:i<es.length)(f:BG7 es i y=es')(hk:DG S P (BX3 es' (Ds P sc)) k)
 (hp:pr=D2 (VK P sc):=by kernel_rfl) (a:Bv2 (Ds P sc)=some ((i:Int),y,es):=by kernel_rfl):DG S P sc k:=by
 refine⟨Bc2 hc ?_ hp⟩;replace hk:=hk.out;generalize Ds P sc=s at a hk;obtain⟨all,cls,rest,env,Uu,kn⟩:=s;cases rest with
 |nil=>cases cls<;>simp[Bv2]at a
 |cons o rest=>
  cases cls with
  |nil=>grind[Bv2]
  |cons cl cls=>
   simp only[Bv2]at a
   repeat' split at a<;>try contradiction
   rename_i t m s x g d b _ _ _ j sv y0 regs1 h1 q l _ es0 r;simp at a;obtain⟨rfl,rfl,rfl⟩:=a;subst f;simp only[BX3,d,h1,l,Ga,Ck1]at hk;refine AE4 (c:=[0<=(i:Int)/\(i:Int)<(es0.length:Int)]) (v:=Qy) (regs':=ins j (.map (BG7 es0 i y0)) regs1) g ?_ (show 0<=(i:Int)/\(i:Int)<(es0.length:Int) by omega) b hk;rw[d]
   grind[aop]
end
section
variable {S:X4}{P:Program}{F:M0}{g:Cfg}{pr:Prop}
def bldK (P:Program):Cfg->Cfg
 |.ops all (o::rest) K st=>match bop P st.Uu (o.dst.getD 0) o.op with
  |some out=>AN5 o.dst out.val st.env out.Uu λst=>.ops all rest K st
  |none=>.ops all (o::rest) K st
 |g=>g
def bldI (P:Program):Cfg->Bool
 |.ops all (o::rest) K st=>(match BW all st.env o with|some true=>true|_=>false)&&(bop P st.Uu (o.dst.getD 0) o.op).isSome
 |_=>false
def K_bld (hS:H3 S P)(hc:pr)(d:Nat)(hk:KG S P F (bldK P (HZ P d g)))
 (hp:pr=D2 (BJ7 P d g):=by kernel_rfl) (c:bldI P (HZ P d g)=true:=by kernel_rfl):KG S P F g:=by
 refine⟨(Ig (u:=some d) (F:=F) hS 400 [] g (by subst hp;exact hc)).2 ?_⟩;have hk:=hk.out;show G S P F (HZ P d g);generalize HZ P d g=g1 at hk c;unfold bldI at c;split at c
 .rename_i all o rest K st;simp at c;obtain⟨i,hb⟩:=c;split at i
  .rename_i f;obtain⟨out,a⟩:=Cf3.1 hb;simp only[bldK,a,He]at hk;refine BX hS f ?_;have b:D2 out.cond:=by
    unfold bop at a
    repeat' split at a<;>try contradiction
    cases a;exact trivial
   unfold wOp;split
   .grind[bop]
   .grind[bop]
   .grind[bop]
   .grind[bop]
   exact .inr (.inr ⟨out,a,b,hk⟩)
  grind
 grind
structure NextI where
 cl:Nat
 last:Nat
 seen:List Nat
 es:List (PV×PV)
def BX4:Cfg->Option NextI
 |.ops all (o::rest) K st=>match BW all st.env o,o.op with
  |some true,.next x false=>match aev st.env x with
   |.reg j 0=>match A2 st.Uu j with
    |some (.blk (1::cl::last::seen) jm)=>match A2 st.Uu jm with
     |some (.map es)=>some ⟨cl,last,seen,es⟩
     |_=>none
    |_=>none
   |_=>none
  |_,_=>none
 |_=>none
def BX5:Cfg->Cfg
 |.ops all (o::rest) K st=>AN5 o.dst (.tup [.p (.bb false)]) st.env st.Uu λst=>.ops all rest K st
 |g=>g
def BX6 (i:Nat)(ky vl:PV):Cfg->Cfg
 |.ops all (o::rest) K st=>match o.op with
  |.next x _=>match aev st.env x with
   |.reg j _=>match A2 st.Uu j with
    |some (.blk (_::cl::_::seen) jm)=>match A2 st.Uu jm with
     |some (.map es)=>AN5 o.dst (.tup [.p (.bb true),.p ky,.p vl]) st.env (ins j (.blk (1::cl::es.length::(i::seen)) jm) st.Uu) λst=>.ops all rest K st
     |_=>.ops all (o::rest) K st
    |_=>.ops all (o::rest) K st
   |_=>.ops all (o::rest) K st
  |_=>.ops all (o::rest) K st
 |g=>g
def BX7 (hS:H3 S P)(hc:pr){cl last:Nat}{seen:List Nat}{es:List (PV×PV)}(h1:cl=es.length)(q:cl<=last){ky vl:Nat->PV}(f:∀i,i<es.length->es.getD i default=(ky i,vl i))
 (c:(∀i,i<es.length->i∈seen)->KG S P F (BX5 (stp P g))) (ht:∀i,i<es.length->i ∉ seen->KG S P F (BX6 i (ky i) (vl i) (stp P g)))
 (hp:pr=D2 (cnd P g):=by kernel_rfl) (d:BX4 (stp P g)=some ⟨cl,last,seen,es⟩:=by kernel_rfl):KG S P F g:=by
 refine⟨GK hS hc ?_ hp⟩;replace c:=λx=>(c x).out;replace ht:=λi a b=>(ht i a b).out;generalize stp P g=g1 at c ht d;unfold BX4 at d
 repeat' split at d<;>try contradiction
 rename_i all o rest K st _ _ x r l _ j hx _ cl' last' seen' jm m _ es' hm;cases d;simp only[BX5,BX6,l,hx,m,hm,He]at c ht;refine BX hS r ?_;unfold wOp;rw[l];exact⟨j,cl,last,seen,jm,es,hx,m,hm,h1,q,c,λi n hs=>by rw[f i n];exact ht i n hs⟩
structure EntVI where
 last:Nat
 i:Nat
 es:List (PV×PV)
def BX8:Cfg->Option EntVI
 |.ops all (o::rest) K st=>match BW all st.env o,o.op with
  |some true,.entry x=>match aev st.env x with
   |.reg j 0=>match A2 st.Uu j with
    |some (.blk (1::_::last::i::_) jm)=>match A2 st.Uu jm with
     |some (.map es)=>some ⟨last,i,es⟩
     |_=>none
    |_=>none
   |_=>none
  |_,_=>none
 |_=>none
def BX9 (ky vl:PV):Cfg->Cfg
 |.ops all (o::rest) K st=>AN5 o.dst (.tup [.p ky,.p vl]) st.env st.Uu λst=>.ops all rest K st
 |g=>g
def BY0 (hS:H3 S P)(hc:pr)(d:Nat){last i:Nat}{es:List (PV×PV)}(h1:last=es.length)(b:i<es.length)(ky vl:PV)(f:es.getD i default=(ky,vl))(hk:KG S P F (BX9 ky vl (HZ P d g)))
 (hp:pr=D2 (BJ7 P d g):=by kernel_rfl) (a:BX8 (HZ P d g)=some ⟨last,i,es⟩:=by kernel_rfl):KG S P F g:=by
 refine⟨(Ig (u:=some d) (F:=F) hS 400 [] g (by subst hp;exact hc)).2 ?_⟩;have hk:=hk.out;show G S P F (HZ P d g);generalize HZ P d g=g1 at hk a;unfold BX8 at a
 repeat' split at a<;>try contradiction
 rename_i all o rest K st _ _ x l m _ j hx _ cl' last' i' seen' jm n _ es' hm;cases a;simp only[BX9,He]at hk;refine BX hS l ?_;refine Mv (c:=[last=es.length/\i<es.length]) (v:=.tup [.p ky,.p vl]) (R':=st.Uu) ?_ ⟨h1,b⟩ hk;rw[m]
 grind[aop]
def BY1 (hS:H3 S P)(hc:pr)(n:Nat)(Pr:Nat->Prop)(s:List Nat->St)
 (b:∀{X:Type}{s' : X->St}{J:X->Prop}{m:X->Nat}{k:Nat}(seen:List Nat),(∀i∈seen,i<n/\Pr i) ->
  (∀{g' : Cfg}{pr:Prop}{i:Nat},pr->i<n->i ∉ seen->Pr i->(hp:pr=D2 (cnd P g'):=by kernel_rfl)->(a:stp P g' = .pop .normal (.lp X s' J m k::(stp P g).k) (stp P g').st:=by kernel_rfl)->(hle:KLe (stp P g').st (s (i::seen)):=by exact kl)->KG S P F g') ->
  KG S P F (.code (Uk (stp P g)) (.lp X s' J m k::(stp P g).k) (s seen)))
 (hp:pr=D2 (cnd P g):=by kernel_rfl) (hl:JE (stp P g)=true:=by kernel_rfl) (hle:KLe (stp P g).st (s []):=by exact kl):KG S P F g:=by
 refine⟨GK hS hc ?_ hp⟩;rw[XD hl];obtain⟨ids,hle⟩:=hle.out;refine AC2 hS s (λseen=>∀i∈seen,i<n/\Pr i) (λseen=>((List.range n).filter λi=>!seen.contains i).length) [] ids hle (by grind) λseen c=>?_;refine (b seen c λ{_ _ i} hc d hs j hp a hle=>⟨GK hS hc ?_ hp⟩).out;obtain⟨_,hle⟩:=hle.out;rw[a];refine Ao3 hS (i::seen) _ hle (λq f=>?_) ?_
 .grind
 refine filter_lt (λq=>!seen.contains q) (λq=>!(i::seen).contains q) (λq f=>?_) i ?_ ?_ (List.range n) (Ch1.2 d)
 all_goals grind
end
section
variable {S:X4}{P:Program}{pr:Prop}{sc:SC}{k:Env->C6->Prop}
def BL4:AV->Bool
 |.vec _ | .vecp _ _=>false
 |_=>true
def Rf {R:C6}:∀{l:List AV},l.all BL4=true->Jt R l=some (l,R)
 |[],_=>rfl
 |a::r,h=>by simp only[Cm3,Ce2]at h;simp only[Jt,Rf h.2];cases a<;>first|rfl|exact Ke h.1 (by simp[BL4])
def RX {ids:List Nat}{R R2:C6}:∀{l:List Nat},(∀j∈l,A2 R2 j=A2 R j)->M9 ids R2 l=M9 ids R l
 |[],_=>rfl
 |j::l,h=>by simp only[M9,h j (by simp),RX (l:=l) λq a=>h q (by simp[a])]
def Hy {q:Nat}:∀{ids:List Nat}{ks:List Bool}{R:C6},q ∉ ids->A2 (K9 ids ks R) q=A2 R q
 |[],ks,R,_=>by cases ks<;>rfl
 |j::ids,[],R,h=>by simp at h;simp only[K9];rw[Hy h.2,O4,Js (Cl4 h.1)]
 |j::ids,b::ks,R,h=>by
  simp at h;simp only[K9];split
  .exact Hy h.2
  rw[Hy h.2,O4,Js (Cl4 h.1)]
def Iq {q:Nat}:∀{ids:List Nat}{ks:List Bool}{A B:C6},A2 A q=A2 B q->A2 (K9 ids ks A) q=A2 (K9 ids ks B) q
 |[],ks,A,B,h=>by cases ks<;>exact h
 |j::ids,[],A,B,h=>by simp only[K9];exact Iq (by rw[O4,O4,h])
 |j::ids,b::ks,A,B,h=>by
  simp only[K9];split
  .exact Iq h
  exact Iq (by rw[O4,O4,h])
def XQ (ids:List Nat)(ks:List Bool)(n:Nat)(sc:SC):Bool:=match sc.cls,sc.rest with
 |.a js::_,o::_=>match o.op with
  |.call c=>((c.args.toList.map (aev sc.env)).all BL4&&ids.all λq=>js.contains q)&&(((I3 (o.dst.getD 0) ids ks n).all λq=>js.contains q)&&((List.range n).all λp=>js.contains (nid (o.dst.getD 0) p))&&Z6 sc.Uu ids ks (o.dst.getD 0) n)
  |_=>false
 |_,_=>false
def XR (ids:List Nat)(hc:pr){fn:FuncId}{args:List AV}{objs objs' : List Obj}{r:AV}{ks:List Bool}(u:Uw S fn args objs r objs' ks)(hk:DG S P (VN ids ks r objs' (Ds P sc)) k)
 (hp:pr=D2 (VK P sc):=by kernel_rfl) (b:VL ids (Ds P sc)=some (fn,args,objs):=by kernel_rfl) (hn:XQ ids ks objs'.length (Ds P sc)=true:=by kernel_rfl):DG S P sc k:=by
 refine⟨Bc2 hc ?_ hp⟩;replace hk:=hk.out;generalize Ds P sc=s at b hn hk;obtain⟨all,cls,rest,env,Uu,kn⟩:=s;cases rest with
 |nil=>grind[VL]
 |cons o rest=>
  simp only[VL]at b;split at b
  .rename_i c v l;split at b
   .rename_i f m;split at b
    .rename_i as regs1 ha;split at b
     .rename_i fn' as' hw;split at b
      .rename_i a0 ob0 w n;split at b
       .rename_i d;cases b;simp at d;cases cls with
        |nil=>grind[XQ]
        |cons cl cls=>
         cases cl with
         |a js=>
          simp only[XQ,l,Ce2]at hn;obtain⟨⟨g,x⟩,⟨y,z⟩,a1⟩:=hn;rw[Rf g]at ha;cases ha;simp only[VN,l,Rf g,Ga,Ck1]at hk;have t:∀q∈ids,q∈js:=(by grind);have i:∀q,q ∉ js->q ∉ I3 (o.dst.getD 0) ids ks objs'.length:=(by grind);refine⟨true,v,?_⟩;rw[Jk rfl];refine⟨_,_,.inr (.inr (.inr (.inr ⟨js,rfl,λq j=>?_,λR2 h2=>?_⟩))),hk⟩
          .rw[KS (i q j),Hy (by grind)]
          refine⟨_,⟨c,f,_,R2,fn,as',args,objs,objs',ks,r,ids,l,m,Rf g,hw,w,(RX (by grind)).trans n,u,d.1,d.2,?_,rfl,rfl⟩,λq j=>RR (Iq (h2 q j)),λq j=>(KS (i q j)).trans (Hy (by grind))⟩
          grind[Z6,List.all_eq_true,nid]
         |_=>simp[XQ]at hn
       grind
      grind
     grind
    grind
   grind
  grind
end
section
variable {S:X4}{P:Program}{g:Cfg}{pr:Prop}
def Bd5 (outs:List Nat):List Nat->List Obj->C6
 |j::js,o::os=>ins j (unO outs o) (Bd5 outs js os)
 |_,_=>[]
def Bd6:List ResultVar->List AV->Env
 |.tmp t::rs,a::l=>ins t a (Bd6 rs l)
 |_,_=>[]
def BL5 (rs:List ResultVar)(outs:List Nat)(a:AV)(objs:List Obj):St:=
 ⟨match rs with
  |[r]=>Bd6 [r] [unA outs a]
  |rs=>match a with
   |.tup l=>Bd6 rs (unL outs l)
   |_=>[],Bd5 outs outs objs⟩
def kO (hS:H3 S P)(hc:pr){n:Nat}{rs:List ResultVar}{Q:ARes->List Obj->List Bool->Prop}{a:AV}{objs:List Obj}(outs:List Nat)(b:Q (.ret a) objs (Jw n outs):=by exact⟨rfl,rfl,rfl⟩)(hp:pr=D2 (cnd P g):=by kernel_rfl)
 (c:(BR7 (stp P g)).isSome=true:=by kernel_rfl) (hle:KLe (stp P g).st (BL5 rs outs a objs):=by exact kl) (d:AN9 P (BL5 rs outs a objs) rs outs=some (a,objs):=by kernel_rfl):KG S P (Fk S P n rs Q) g:=
 I9 hS hc (BL5 rs outs a objs) outs b hp c hle d
end
section
variable {α : Type}
def Bd7 (c : α -> List PV):Nat->List α -> List (Nat×List PV)
 |_,[]=>[]
 |k,a::l=>(k,c a)::Bd7 c (k+1) l
def Ad1 (c : α -> List PV)(z:List PV):∀(l:List α) (k i:Nat) (d : α),i<l.length->G9 z (Bd7 c k l) (k+i)=c (l.getD i d)
 |[],k,i,d,h=>by grind
 |a::l,k,0,d,h=>by simp[Bd7,G9]
 |a::l,k,i+1,d,h=>by
  have:=Ad1 c z l (k+1) i d (by grind)
  rw[show k+1+i=k+(i+1) by omega]at this
  simp_all[Bd7,G9,Js]
def AO5 [Inhabited α](c : α -> List PV)(l:List α)(z:List PV):(X9.fn l.length (Sl.of l).n (G9 z (Bd7 c 0 l)) (λi=>c ((Sl.of l).g i))).ok:=⟨rfl,λi a=>by
 have:=Ad1 c z l 0 i default a
 rw[Ch0]at this;omega⟩
def O8 (c : α -> List PV)(v:Sl α)(x : α)(z:List PV):(X9.fn (v.n+1) (v.push x).n (DO v.n (λi=>c (v.g i)) (G9 z [(0,c x)])) (λi=>c ((v.push x).g i))).ok:=⟨rfl,app1 same rfl rfl⟩
def appS (c : α -> List PV)(v w:Sl α):(X9.fn (v.n+w.n) (v.app w).n (DO v.n (λi=>c (v.g i)) (λi=>c (w.g i))) (λi=>c ((v.app w).g i))).ok:=⟨rfl,Aq7 same rfl same rfl⟩
def PI (n:Nat)(f:Nat->PV):(X9.fn n n (λi=>[(λi=>(Fa n f).getD i default) i]) (λi=>[f i])).ok:=⟨rfl,Er n f⟩
def Bv3 (n:Nat)(z:PV):(X9.fn n n (λi=>[(λi=>(List.replicate n z).getD i default) i]) (λ_=>[z])).ok:=⟨rfl,RV rfl⟩
def Bn7 (c : α -> List PV)(v:Sl α)(z:List PV):(X9.fn (0+v.n) v.n (DO 0 (G9 z []) (λi=>c (v.g i))) (λi=>c (v.g i))).ok:=⟨Ch0 _,λi _=>by simp[DO]⟩
variable {s t:St}{L M:X9}
def kl1 (i:Nat)(h:L.ok)(h1:(leI s t).map (Bt0 [i] X9.src)=(leI s t).map (Bt0 [i] X9.tgt):=by kernel_rfl)
 (a:(leI s t).map (λK=>[K[i]?])=some [some L]:=by kernel_rfl):KLe s t:=klR [(i,L)] (al1 h al0) h1 a
def kl2 (i j:Nat)(h:L.ok)(g:M.ok)(h1:(leI s t).map (Bt0 [i,j] X9.src)=(leI s t).map (Bt0 [i,j] X9.tgt):=by kernel_rfl)
 (a:(leI s t).map (λK=>[K[i]?,K[j]?])=some [some L,some M]:=by kernel_rfl):KLe s t:=klR [(i,L),(j,M)] (al1 h (al1 g al0)) h1 a
end
section
variable {S:X4}{P:Program}{F:M0}{g:Cfg}{pr:Prop}{sc:SC}{k:Env->C6->Prop}{κ ν : Type}
def lkC {kP : κ -> PV}{vP : ν -> PV}{cmp:PV->PV->Option Bool}{eq : κ -> κ -> Bool}(hc:∀a b,cmp (kP a) (kP b)=some (eq a b)){q : κ}{es:List (κ × ν)}{r:Option ν}(o:M7 eq q es=r):find cmp (kP q) (DQ kP vP es)=some (r.map vP):=by
 grind[Ab5]
def Ar5 (hS:H3 S P)(hc:pr)(kt e:TypeId)(kP : κ -> PV)(vP : ν -> PV)(eq : κ -> κ -> Bool){q : κ}{es:List (κ × ν)}{v : ν}(o:M7 eq q es=some v)(c:D2 (KN P kt))(hk:KG S P F (Bs5 (vP v) true (stp P g)))
 (d:∀a b,Li P kt (kP a) (kP b)=some (eq a b):=by exact λ_ _=>by kernel_rfl) (hp:pr=D2 (cnd P g):=by kernel_rfl) (f:Bs4 P (stp P g)=some ⟨kt,e,kP q,DQ kP vP es⟩:=by kernel_rfl) (hx:AN8 P e (some (vP v))=some (vP v,true):=by kernel_rfl):KG S P F g:=
 AF8 hS hc (lkC d o) c hk hp f hx
def Ar6 (hS:H3 S P)(hc:pr)(kt e:TypeId)(kP : κ -> PV)(vP : ν -> PV)(eq : κ -> κ -> Bool){q : κ}{es:List (κ × ν)}(o:M7 eq q es=none)(x:PV)(c:D2 (KN P kt))(hk:KG S P F (Bs5 x false (stp P g)))
 (d:∀a b,Li P kt (kP a) (kP b)=some (eq a b):=by exact λ_ _=>by kernel_rfl) (hp:pr=D2 (cnd P g):=by kernel_rfl) (f:Bs4 P (stp P g)=some ⟨kt,e,kP q,DQ kP vP es⟩:=by kernel_rfl) (hx:AN8 P e none=some (x,false):=by kernel_rfl):KG S P F g:=
 AF8 hS hc (lkC d o) c hk hp f hx
def AO6 (hS:H3 S P)(hc:pr)(kt:TypeId)(kP : κ -> PV)(vP : ν -> PV)(eq : κ -> κ -> Bool)(q : κ)(y : ν)(es:List (κ × ν))(c:D2 (KN P kt))(hk:KG S P F (updK (DQ kP vP (FZ eq q y es)) (stp P g)))
 (d:∀a b,Li P kt (kP a) (kP b)=some (eq a b):=by exact λ_ _=>by kernel_rfl) (hp:pr=D2 (cnd P g):=by kernel_rfl) (f:updE P (stp P g)=some (kt,kP q,vP y,DQ kP vP es):=by kernel_rfl):KG S P F g:=
 Bt4 hS hc (XB d q y es) c hk hp f
def Bv4 (hc:pr)(kt e:TypeId)(kP : κ -> PV)(vP : ν -> PV)(eq : κ -> κ -> Bool){q : κ}{es:List (κ × ν)}{v : ν}(o:M7 eq q es=some v)(c:D2 (KN P kt))(hk:DG S P (AF7 (vP v) true (Ds P sc)) k)
 (d:∀a b,Li P kt (kP a) (kP b)=some (eq a b):=by exact λ_ _=>by kernel_rfl) (hp:pr=D2 (VK P sc):=by kernel_rfl) (f:VO P (Ds P sc)=some ⟨kt,e,kP q,DQ kP vP es⟩:=by kernel_rfl) (hx:AN8 P e (some (vP v))=some (vP v,true):=by kernel_rfl):DG S P sc k:=
 AG0 hc (lkC d o) c hk hp f hx
def BL6 (hc:pr)(kt e:TypeId)(kP : κ -> PV)(vP : ν -> PV)(eq : κ -> κ -> Bool){q : κ}{es:List (κ × ν)}(o:M7 eq q es=none)(x:PV)(c:D2 (KN P kt))(hk:DG S P (AF7 x false (Ds P sc)) k)
 (d:∀a b,Li P kt (kP a) (kP b)=some (eq a b):=by exact λ_ _=>by kernel_rfl) (hp:pr=D2 (VK P sc):=by kernel_rfl) (f:VO P (Ds P sc)=some ⟨kt,e,kP q,DQ kP vP es⟩:=by kernel_rfl) (hx:AN8 P e none=some (x,false):=by kernel_rfl):DG S P sc k:=
 AG0 hc (lkC d o) c hk hp f hx
def XS (hc:pr)(kt:TypeId)(kP : κ -> PV)(vP : ν -> PV)(eq : κ -> κ -> Bool)(q : κ)(y : ν)(es:List (κ × ν))(c:D2 (KN P kt))(hk:DG S P (BK2 (DQ kP vP (FZ eq q y es)) (Ds P sc)) k)
 (d:∀a b,Li P kt (kP a) (kP b)=some (eq a b):=by exact λ_ _=>by kernel_rfl) (hp:pr=D2 (VK P sc):=by kernel_rfl) (f:AO0 P (Ds P sc)=some (kt,kP q,vP y,DQ kP vP es):=by kernel_rfl):DG S P sc k:=
 Bt5 hc (XB d q y es) c hk hp f
end
abbrev oV {α : Type}(t:TypeId)(k:Nat)(c : α -> List PV)(s:Sl α)(b:Bool):Obj:=.vec t k s.n (λi=>c (s.g i)) b
abbrev oM {κ ν : Type}(kP : κ -> PV)(vP : ν -> PV)(es:List (κ × ν)):Obj:=.map (DQ kP vP es)
section
variable {S:X4}{P:Program}{F:M0}{g:Cfg}{R X:Type}{A B:Option R}{r:R}{b:Bool}{pr:Prop}{sc:SC}{k:Env->C6->Prop}
def kJ (hS:H3 S P)[Decidable pr](h:(ite pr (ite b A B) none)=some r)(ht:A=some r->KG S P F (Bc0 (stp P g)))(a:B=some r->KG S P F (Bc1 (stp P g)))
 (hp:pr=D2 (cnd P g):=by kernel_rfl) (hb:Ar1 (stp P g)=some b:=by kernel_rfl):KG S P F g:=
 O0 hS (C4 h).1 (λc=>ht (itT c (C4 h).2)) (λc=>a (itF c (C4 h).2)) hp hb
def kX (hS:H3 S P)(hc:pr)(h:(ite b A B)=some r)(ht:A=some r->KG S P F (Bc0 (stp P g)))(a:B=some r->KG S P F (Bc1 (stp P g)))
 (hp:pr=D2 (cnd P g):=by kernel_rfl) (hb:Ar1 (stp P g)=some b:=by kernel_rfl):KG S P F g:=
 O0 hS hc (λc=>ht (itT c h)) (λc=>a (itF c h)) hp hb
def kV (hS:H3 S P)(hc:pr)(h:(ite b A B)=some r)(ht:A=some r->KG S P F (RM true (stp P g)))(a:B=some r->KG S P F (RM false (stp P g)))
 (hp:pr=D2 (cnd P g):=by kernel_rfl) (hb:AF0 (stp P g)=some b:=by kernel_rfl):KG S P F g:=
 Ip hS hc (λc=>ht (itT c h)) (λc=>a (itF c h)) hp hb
def kT (hS:H3 S P)(ht:KG S P F (Bc0 (stp P g)))(hp:True=D2 (cnd P g):=by kernel_rfl)(hb:Ar1 (stp P g)=some true:=by kernel_rfl):KG S P F g:=
 O0 hS S3 (λ_=>ht) (λc=>by cases c) hp hb
def kF (hS:H3 S P)(a:KG S P F (Bc1 (stp P g)))(hp:True=D2 (cnd P g):=by kernel_rfl)(hb:Ar1 (stp P g)=some false:=by kernel_rfl):KG S P F g:=
 O0 hS S3 (λc=>by cases c) (λ_=>a) hp hb
def kD (hS:H3 S P){x:Option X}{f:X->Option R}(h:x.bind f=some r)(hc:pr){fn:FuncId}{args:List AV}{objs:List Obj}{objs' : X->List Obj}{rr:X->AV}{ks:List Bool}
 (a:∀{y},x=some y->Uw S fn args objs (rr y) (objs' y) ks) (hk:∀y,f y=some r->KG S P F (Bs3 [] ks (rr y) (objs' y) (stp P g)))
 (hp:pr=D2 (cnd P g):=by kernel_rfl) (b:AN6 [] (stp P g)=some (fn,args,objs):=by kernel_rfl) (hn:∀y,AN7 [] ks (objs' y).length (stp P g)=true:=by intro y;kernel_rfl):KG S P F g:=by
 obtain⟨y,e,h⟩:=E4 h;exact D6 hS [] hc (a e) (hk y h) hp b (hn y)
def dG (hc:pr)(h:(ite b A B)=some r)(ht:A=some r->DG S P (RQ true (Ds P sc)) k)(a:B=some r->DG S P (RQ false (Ds P sc)) k)(hp:pr=D2 (VK P sc):=by kernel_rfl)(hb:XF (Ds P sc)=some b:=by kernel_rfl):DG S P sc k:=
 XH hc (λc=>ht (itT c h)) (λc=>a (itF c h)) hp hb
def dE [Decidable pr](h:(ite pr A none)=some r)(hk:A=some r->k (Ds P sc).env (Ds P sc).Uu)(hp:pr=D2 (VK P sc):=by kernel_rfl)(a:(Ds P sc).rest.isEmpty=true:=by kernel_rfl):DG S P sc k:=
 D5 (C4 h).1 (hk (C4 h).2) hp a
def dP {x:Option X}{f:X->Option R}(h:x.bind f=some r)(hc:pr){fn:FuncId}{args:List AV}{rr:X->AV}(a:∀{y},x=some y->Uw S fn args [] (rr y) [] [])(hk:∀y,f y=some r->DG S P (Bc4 (rr y) (Ds P sc)) k)(hp:pr=D2 (VK P sc):=by kernel_rfl)(b:AF6 (Ds P sc)=some (fn,args):=by kernel_rfl)(hn:AF5 (Ds P sc)=true:=by kernel_rfl):DG S P sc k:=by obtain⟨y,e,h⟩:=E4 h;exact PH hc (a e) (hk y h) hp b hn
end
end Go.AM
