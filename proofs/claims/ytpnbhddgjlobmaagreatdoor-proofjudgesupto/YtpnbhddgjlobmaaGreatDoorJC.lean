/- Part 3. -/
import Derived.Test.YtpnbhddgjlobmaaGreatDoorJB
import Derived.KernelRfl
import Derived.Laws.IdiomRangeMap
set_option linter.defProp false
set_option linter.unusedSimpArgs false
set_option linter.unusedVariables false
set_option linter.unusedSectionVars false
namespace Go.AM
variable {N:Nat}
def Ly:=True.intro
def Cn3:=@Nat.le_of_ble_eq_true
def Co6:=@List.tail_cons
def Co7:=@List.mem_singleton
def Cp5:=@List.range_succ
def Cp6:=@List.map_append
def Ct3:=@List.mem_cons_self
def Cw6:=@Nat.blt_eq
def Cx7:=@Nat.lt_succ_self
def Cz2:=@List.getD_cons_succ
def Cz8:=@List.set_cons_succ
abbrev Str:=List UInt8
structure Sl (α : Type) where
 n:Nat
 g:Nat -> α
instance {α : Type} [Inhabited α]:Inhabited (Sl α):=⟨⟨0,λ_=>default⟩⟩
namespace Sl
variable {α : Type}
def toList (s:Sl α):List α:=(List.range s.n).map s.g
abbrev nil [Inhabited α]:Sl α:=⟨0,λ_=>default⟩
abbrev rep (n:Nat)(a : α):Sl α:=⟨n,λ_=>a⟩
abbrev sub (s:Sl α)(a b:Nat):Sl α:=⟨b-a,λi=>s.g (a+i)⟩
abbrev drop (s:Sl α)(a:Nat):Sl α:=⟨s.n-a,λi=>s.g (a+i)⟩
abbrev take (s:Sl α)(b:Nat):Sl α:=⟨b,s.g⟩
abbrev push (s:Sl α)(a : α):Sl α:=⟨s.n+1,λi=>ite (i<s.n) (s.g i) a⟩
abbrev app (s t:Sl α):Sl α:=⟨s.n+t.n,λi=>ite (i<s.n) (s.g i) (t.g (i-s.n))⟩
abbrev upd (s:Sl α)(k:Nat)(a : α):Sl α:=⟨s.n,λi=>ite (i=k) a (s.g i)⟩
abbrev of [Inhabited α](l:List α):Sl α:=⟨l.length,λi=>l.getD i default⟩
end Sl
abbrev vSl {α : Type}(k:Nat)(c : α -> List PV)(s:Sl α):PV:=.sl false k s.n λi=>c (s.g i)
abbrev pI (k:IntKind)(n:Int):PV:=.v (.int k n)
abbrev E8 (l:Str)(i:Int):Int:=(((l.getD i.toNat 0).toNat:Nat):Int)
abbrev pN (n:Int):AV:=.p (.v (.int .i64 n))
abbrev pU (n:Int):AV:=.p (.v (.int .u32 n))
abbrev pB (b:Bool):AV:=.p (.bb b)
abbrev BW1:PV:=.v (.pointer none)
abbrev I4:PV:=.v (.slice none 0 0)
section
variable {R:Type}
def N3 {A:Type}(N:Nat)(body:(A->Option R)->A->Option R):A->Option R:=match N with
 |0=>λ_=>none
 |N+1=>λa=>body (N3 N body) a
variable {A B C D E F G H:Type}
def V7 (N:Nat)(body:(A->B->Option R)->A->B->Option R)(a:A)(b:B):Option R:=N3 N (λc x=>body (λa b=>c (a,b)) x.1 x.2) (a,b)
def Bf3 (N:Nat)(body:(A->B->C->Option R)->A->B->C->Option R)(a:A)(b:B)(c:C):Option R:=N3 N (λd x=>body (λa b c=>d (a,b,c)) x.1 x.2.1 x.2.2) (a,b,c)
def Ba4 (N:Nat)(body:(A->B->C->D->Option R)->A->B->C->D->Option R)(a:A)(b:B)(c:C)(d:D):Option R:=N3 N (λf x=>body (λa b c d=>f (a,b,c,d)) x.1 x.2.1 x.2.2.1 x.2.2.2) (a,b,c,d)
def fix6 (N:Nat)(body:(A->B->C->D->E->F->Option R)->A->B->C->D->E->F->Option R)(a:A)(b:B)(c:C)(d:D)(e:E)(f:F):Option R:=N3 N (λg x=>body (λa b c d e f=>g (a,b,c,d,e,f)) x.1 x.2.1 x.2.2.1 x.2.2.2.1 x.2.2.2.2.1 x.2.2.2.2.2) (a,b,c,d,e,f)
theorem U2 {body:(A->Option R)->A->Option R}{a:A}:N3 (N+1) body a=body (N3 N body) a:=rfl
def H5 {body:(A->B->Option R)->A->B->Option R}{a:A}{b:B}:V7 (N+1) body a b=body (V7 N body) a b:=rfl
def AQ {body:(A->B->C->D->Option R)->A->B->C->D->Option R}{a:A}{b:B}{c:C}{d:D}:Ba4 (N+1) body a b c d=body (Ba4 N body) a b c d:=rfl
def lt {K:Type}(k:K)(f:K->Option R):Option R:=f k
end
section
variable {R X Y:Type}{r:R}
def itT {b:Bool}{x y:Option R}(hb:b=true)(h:(ite b x y)=some r):x=some r:=by rwa [Kb hb]at h
def itF {b:Bool}{x y:Option R}(hb:b=false)(h:(ite b x y)=some r):y=some r:=by rwa [Kd (by grind)]at h
def C0 {p:Prop}[Decidable p]{x:Option R}(h:(ite p x none)=some r):p/\x=some r:=by
 grind
def E7 {x:Option X}{f:X->Option R}(h:x.bind f=some r):∃a,x=some a/\f a=some r:=Cs4.1 h
def A6 {a b:R}(h:some a=some b):a=b:=Cm9 h
end
section
variable {S:X0}{P:Program}{F:M3}{K:List It}{st:St}
def A3 (hS:H4 S P){n:Nat}{rs:List ResultVar}{Q:ARes->List Obj->List Bool->Prop}(s:St)(h:S.up s (Ft S P n rs Q .normal)):Ft S P n rs Q .normal s:=hS.trans _ _ h
def BZ6 (hS:H4 S P){b:Code}{R A:Type}{body:(A->Option R)->A->Option R}{N:Nat}{a0:A}{r:R}(h:N3 N body a0=some r)(s:A->St)(ids:List (Nat×Nat))(hle:Le ids st (s a0))
 (d:∀(X:Type) (s' : X->St) (J:X->Prop) (m:X->Nat) (n:Nat) (c:A->Option R) (a:A),(∀st ids a,Le ids st (s a)->c a=some r->G S P F (.pop .normal (.lp X s' J m n::K) st))->body c a=some r->G S P F (.code b (.lp X s' J m n::K) (s a))) :
 G S P F (.code (.loop b) K st):=by
 refine AE9 hS (X:=Nat×A) (λx=>s x.2) (λx=>N3 x.1 body x.2=some r) (λx=>x.1) (N,a0) ids hle h ?_;rintro⟨n,a⟩ hx;cases n with
 |zero=>cases hx
 |succ n=>exact d _ _ _ _ _ (N3 n body) a (λst ids a hle h=>Aq7 hS (n,a) ids hle h (Cx7 n)) hx
def Bf4 (hS:H4 S P){all rest:List Oper}{o:Oper}(t:St)(ids:List (Nat×Nat))(hle:Le ids st t)(h:G S P F (.ops all (o::rest) K t)):G S P F (.ops all (o::rest) K st):=
 Aa0 hS (hS.le ids _ _ _ hle h)
end
def pm:(∀b,(true||b)=true)/\(∀b,(b||true)=true)/\(∀b,(false||b)=b)/\(∀b,(b||false)=b)/\(∀b,(true&&b)=b)/\(∀b,(b&&true)=b)/\(∀b,(false&&b)=false)/\(∀b,(b&&false)=false)/\((!true)=false)/\((!false)=true)/\((false=true)=False)/\((true=true)=True):=by refine (by grind)<;>simp
section
variable {Ym:C7}{ids:List (Nat×Nat)}
variable {env r:Env}{t:Nat}{a b:AV}{x y:PV}
def eP (b:get env t=a)(h:viewP Ym a=some y)(h' : RA Ym ids env r):RA Ym ids env ((t,.p y)::r):=BG4 b (le_p h) h'
def eM {i j:Nat}(a:get env t=.Yr i)(h:lk ids j=some i)(h' : RA Ym ids env r):RA Ym ids env ((t,.Yr j)::r):=BG4 a (Bb7 h) h'
def app1 {α : Type}{c : α -> List PV}{n:Nat}{v:Sl α}{f:Nat->List PV}{z cs:List PV}{x : α}(h:∀i,i<n->f i=c (v.g i))(hn:n=v.n)(hx:cs=c x):∀i,i<n+1->Du n f (G7 z [(0,cs)]) i=c ((v.push x).g i):=by
 subst hn hx;intro i a;show (ite (i<v.n) (f i) (G7 z [(0,c x)] (i-v.n)))=c (ite (i<v.n) (v.g i) x);split
 .grind
 obtain rfl:i=v.n:=by omega
 simp[G7]
def Ad3 {α : Type}{c : α -> List PV}{n m:Nat}{v w:Sl α}{f g:Nat->List PV}(h:∀i,i<n->f i=c (v.g i))(hn:n=v.n)(h' : ∀i,i<m->g i=c (w.g i))(hm:m=w.n):∀i,i<n+m->Du n f g i=c ((v.app w).g i):=by
 subst hn hm;intro i a;show (ite (i<v.n) (f i) (g (i-v.n)))=c (ite (i<v.n) (v.g i) (w.g (i-v.n)))
 grind
def At1 {α : Type}{c : α -> List PV}{n k:Nat}{v:Sl α}{f:Nat->List PV}{e:Nat->List PV}{x : α}(h:∀i,i<n->f i=c (v.g i))(hx:k<n->e k=c x):∀i,i<n->(λl=>ite (l=k) (e l) (f l)) i=c ((v.upd k x).g i):=by
 grind
def same {n:Nat}{f:Nat->List PV}:∀i,i<n->f i=f i:=λ_ _=>rfl
end
abbrev cI (k:IntKind)(n:Int):List PV:=[.v (.int k n)]
abbrev cB (b:Bool):List PV:=[.bb b]
abbrev cS (s:Str):List PV:=[.str s]
abbrev cL {α : Type}(k:Nat)(c : α -> List PV)(s:Sl α):List PV:=[vSl k c s]
abbrev At2 (s:Sl Int):Str:=(List.range s.n).map λi=>UInt8.ofNat (s.g i).toNat
section
variable {S:X0}{P:Program}{F:M3}{K:List It}{st:St}
end
section
variable {Ym:C7}{ids:List (Nat×Nat)}
def le_yf {i j:Nat}(h:lk ids j=some i):leA Ym ids (.yf i) (.yf j):=by unfold leA;exact⟨i,h,rfl⟩
def BZ7 {l m:List AV}(h:leL Ym ids l m):leA Ym ids (.tup l) (.tup m):=by unfold leA;exact⟨l,rfl,h⟩
def BZ8 {l m:List AV}(h:leL Ym ids l m):leA Ym ids (.agr l) (.agr m):=by unfold leA;exact⟨l,rfl,h⟩
end
def DX {κ ν : Type}(kP : κ -> PV)(vP : ν -> PV)(es:List (κ × ν)):List (PV×PV):=es.map λp=>(kP p.1,vP p.2)
def K4 {κ ν : Type}(eq : κ -> κ -> Bool)(k : κ):List (κ × ν)->Option ν
 |[]=>none
 |(a,v)::es=>ite (eq k a) (some v) (K4 eq k es)
def Fj {κ ν : Type}(eq : κ -> κ -> Bool)(k : κ)(v : ν):List (κ × ν)->List (κ × ν)
 |[]=>[(k,v)]
 |(a,x)::es=>ite (eq k a) ((k,v)::es) ((a,x)::Fj eq k v es)
def At3 {κ ν : Type}(kP : κ -> PV)(vP : ν -> PV)(es:List (κ × ν)):(DX kP vP es).length=es.length:=by simp[DX]
theorem Ad4 {κ ν : Type}{kP : κ -> PV}{vP : ν -> PV}{cmp:PV->PV->Option Bool}{eq : κ -> κ -> Bool}(hc:∀a b,cmp (kP a) (kP b)=some (eq a b))(k : κ):∀es:List (κ × ν),find cmp (kP k) (DX kP vP es)=some ((K4 eq k es).map vP)
 |[]=>rfl
 |(a,v)::es=>by
  show (match cmp (kP k) (kP a)with|some true=>some (some (vP v))|some false=>find cmp (kP k) (DX kP vP es)|none=>none)=some ((K4 eq k ((a,v)::es)).map vP);rw[hc];simp only[K4];cases h:eq k a
  .simpa using Ad4 hc k es
  rfl
def XV {κ ν : Type}{kP : κ -> PV}{vP : ν -> PV}{cmp:PV->PV->Option Bool}{eq : κ -> κ -> Bool}(hc:∀a b,cmp (kP a) (kP b)=some (eq a b))(k : κ)(x : ν):∀es:List (κ × ν),upd cmp (kP k) (vP x) (DX kP vP es)=some (DX kP vP (Fj eq k x es))
 |[]=>rfl
 |(a,v)::es=>by
  show (match cmp (kP k) (kP a)with|some true=>some ((kP k,vP x)::DX kP vP es)|some false=>(upd cmp (kP k) (vP x) (DX kP vP es)).map ((kP a,vP v) :: ·)|none=>none)=some (DX kP vP (Fj eq k x ((a,v)::es)));rw[hc];simp only[Fj];cases h:eq k a
  .simp only[XV hc k x es,Cj4,Lw,Ci8];rfl
  rfl
abbrev eqS (a b:Str):Bool:=a==b
abbrev eqI (a b:Int):Bool:=a==b
def JA {X Y:Type}(o:Option X)(a:Y)(f:X->Y):Y:=match o with
 |none=>a
 |some x=>f x
def Ap8 {X R:Type}{r:R}{o:Option X}{a:Option R}{f:X->Option R}(b:o=none)(h:JA o a f=some r):a=some r:=by subst b;exact h
def Ad5 {X R:Type}{r:R}{o:Option X}{x:X}{a:Option R}{f:X->Option R}(b:o=some x)(h:JA o a f=some r):f x=some r:=by subst b;exact h
def K5 {X Y:Type}(a:Y)(f:X->Y):JA none a f=a:=rfl
def M5 {X Y:Type}(x:X)(a:Y)(f:X->Y):JA (some x) a f=f x:=rfl
section
variable {R T A B C D:Type}
def iter0 (L:List T)(body:Option R->T->Option R)(k:Option R):Option R:=match L with
 |[]=>k
 |t::L=>body (iter0 L body k) t
def T2 (L:List T)(body:(A->Option R)->T->A->Option R)(k:A->Option R)(a:A):Option R:=match L with
 |[]=>k a
 |t::L=>body (T2 L body k) t a
end
section
variable {S:X0}{P:Program}{F:M3}{K:List It}{st:St}
def BO0 (hS:H4 S P){g:Operand}{ps:Array Tmp}{asg body:Code}{f:FuncId}{first caps as bs:List AV}{objs:List Obj}{R T A:Type}{enc:T->List PV}{L:List T}{mb:(A->Option R)->T->A->Option R}{mk:A->Option R}{a0:A}{r:R}
 (ids ts:List Nat) (gh:Nat) (s:A->St) (idl:List (Nat×Nat)) (h:T2 L mb mk a0=some r) (y:Gf S f as bs objs (L.map enc))
 (hp:Hl st.env g=some (f,first,caps)) (j:∃fn,P.funcs[f]? = some fn/\fn.body.isSome=true/\(fn.name == "runtime.NumGoroutine")=false) (l:N2 ids st.Ym ids=some objs) (m:GV objs=true) (z:I6 ids=true) (n:Fl ids first=some as) (o:Fl ids caps=some bs) (q:objs.length=ids.length)
 (u:Nat.blt gh 1000=true) (v:A2 st.Ym gh=none) (w:Nat.blt ids.length 1000=true) (x:I6 ts=true) (d:∀t:T,(enc t).length=ps.size)
 (hle:Le idl ⟨AN ts (ts.map (get st.env)),M0 ids (ids.map λ_=>false) st.Ym⟩ (s a0)) (hk:∀a,(s a).env.map (·.1)=ts) (hn:∀a,A2 (s a).Ym gh=none)
 (b:∀(t:T) (next:St->Prop) (c:A->Option R) (a:A),(∀(st st1:St) (cs:List AV) (idl:List (Nat×Nat)) (a:A),Le idl st st1->A2 st1.Ym gh=some (.ghost cs)->cs.length=ts.length->A2 (del gh st1.Ym) gh=none->(⟨AN ts cs,del gh st1.Ym⟩:St)=s a->c a=some r->G S P (Hm S gh ts next (kp S P K F)) (.pop .normal [] st)) ->
  mb c t a=some r->G S P (Dz S P body gh ts next (kp S P K F)) (.code asg [] ⟨Nf ps.toList (enc t) (s a).env,ins gh (.ghost ((s a).env.map (·.2))) (s a).Ym⟩))
 (i:∀a,mk a=some r->G S P F (.pop .normal K (s a))):G S P F (.code (.rangeFunc g ps asg body) K st):=by
 refine Bf0 hS ids ts gh (L.map enc) s (λrest a=>∃L',rest=L'.map enc/\T2 L' mb mk a=some r) a0 idl hp j l m z n o q (by simpa[Cw6]using u) v (by simpa[Cw6]using w) x (λys hy=>?_) y hle ⟨L,rfl,h⟩ hk hn ?_ ?_
 .obtain⟨t,_,rfl⟩:=Cp4.1 hy;exact d t
 .rintro ys rest a ⟨L',hL,hx⟩;cases L' with
  |nil=>cases hL
  |cons t L'=>simp only[Ck3,Cp3]at hL;obtain⟨rfl,rfl⟩:=hL;refine b t _ (T2 L' mb mk) a (λst st1 cs idl a hle h1 h2 h3 h4 h5=>?_) hx;exact As8 hS st1 a idl hle h1 h2 h3 h4 ⟨L',rfl,h5⟩
 rintro a ⟨L',hL,hx⟩;cases L' with
 |nil=>exact i a hx
 |cons t L'=>cases hL
def Bw5 (hS:H4 S P){g:Operand}{ps:Array Tmp}{asg body:Code}{f:FuncId}{first caps as bs:List AV}{objs:List Obj}{R T A:Type}{enc:T->List PV}{L:List T}{mb:(A->Option R)->T->A->Option R}{mk:A->Option R}{a0:A}{r0:R}
 (ids ts:List Nat) (gh:Nat) (s:A->R->St) (idl:List (Nat×Nat)) (h:T2 L mb mk a0=some r0) (z:Gf S f as bs objs (L.map enc))
 (hp:Hl st.env g=some (f,first,caps)) (j:∃fn,P.funcs[f]? = some fn/\fn.body.isSome=true/\(fn.name == "runtime.NumGoroutine")=false) (l:N2 ids st.Ym ids=some objs) (m:GV objs=true) (hd:I6 ids=true) (n:Fl ids first=some as) (o:Fl ids caps=some bs) (q:objs.length=ids.length)
 (u:Nat.blt gh 1000=true) (v:A2 st.Ym gh=none) (w:Nat.blt ids.length 1000=true) (y:I6 ts=true) (d:∀t:T,(enc t).length=ps.size)
 (hle:Le idl ⟨AN ts (ts.map (get st.env)),M0 ids (ids.map λ_=>false) st.Ym⟩ (s a0 r0)) (hk:∀a r,(s a r).env.map (·.1)=ts) (hn:∀a r,A2 (s a r).Ym gh=none)
 (b:∀(t:T) (next:St->Prop) (c:A->Option R) (a:A) (r:R),(∀(st st1:St) (cs:List AV) (idl:List (Nat×Nat)) (a:A) (r:R),Le idl st st1->A2 st1.Ym gh=some (.ghost cs)->cs.length=ts.length->A2 (del gh st1.Ym) gh=none->(⟨AN ts cs,del gh st1.Ym⟩:St)=s a r->c a=some r->G S P (Hm S gh ts next (kp S P K F)) (.pop .normal [] st)) ->
  mb c t a=some r->G S P (Dz S P body gh ts next (kp S P K F)) (.code asg [] ⟨Nf ps.toList (enc t) (s a r).env,ins gh (.ghost ((s a r).env.map (·.2))) (s a r).Ym⟩))
 (i:∀a r,mk a=some r->G S P F (.pop .normal K (s a r))):G S P F (.code (.rangeFunc g ps asg body) K st):=by
 refine Bf0 hS ids ts gh (L.map enc) (λx:A×R=>s x.1 x.2) (λrest x=>∃L',rest=L'.map enc/\T2 L' mb mk x.1=some x.2) (a0,r0) idl hp j l m hd n o q (by simpa[Cw6]using u) v (by simpa[Cw6]using w) y (λys hy=>?_) z hle ⟨L,rfl,h⟩ (λx=>hk x.1 x.2) (λx=>hn x.1 x.2) ?_ ?_
 .obtain⟨t,_,rfl⟩:=Cp4.1 hy;exact d t
 .rintro ys rest ⟨a,r⟩ ⟨L',hL,hx⟩;cases L' with
  |nil=>cases hL
  |cons t L'=>simp only[Ck3,Cp3]at hL;obtain⟨rfl,rfl⟩:=hL;refine b t _ (T2 L' mb mk) a r (λst st1 cs idl a r hle h1 h2 h3 h4 h5=>?_) hx;exact As8 hS st1 (a,r) idl hle h1 h2 h3 h4 ⟨L',rfl,h5⟩
 rintro⟨a,r⟩ ⟨L',hL,hx⟩;cases L' with
 |nil=>exact i a r hx
 |cons t L'=>cases hL
end
section
variable {S:X0}{P:Program}{all:List Oper}{k:Env->C7->Prop}
def At4 {cls:List Cls}{o:Oper}{rest:List Oper}{env:Env}{Ym regs1:C7}{t:TypeId}{m q x:Operand}{key y:PV}{j:Nat}{es es' : List (PV×PV)}{kt e:TypeId}
 (b:AP all env o=some true) (a:o.op=.mapUpdate t m q x) (d:aev env q=.p key) (f:Fs Ym (aev env x)=some (y,regs1)) (hm:aev env m=.Yr j) (g:A2 regs1 j=some (.map es))
 (ht:tk P t=some (.map kt e)) (hk:Jv P kt (nP key)=true) (i:upd (Lq P kt) (nP key) y es=some es') (hc:D3 (KU P kt))
 (hn:Nb S P all cls rest (Rh o.dst QG env) (ins j (.map es') regs1) k):Nb S P all (.w::cls) (o::rest) env Ym k:=by
 refine AH1 (c:=KU P kt) (v:=QG) (regs':=ins j (.map es') regs1) b ?_ hc ?_ hn
 .rw[a];grind[aop]
 rw[a];rfl
def AH6 {cl:Cls}{cls:List Cls}{o:Oper}{rest:List Oper}{env:Env}{Ym regs1:C7}{t:TypeId}{m q:Operand}{ok:Bool}{key:PV}{j:Nat}{es:List (PV×PV)}{kt e:TypeId}{x:PV}{b:Bool}{fd:Option PV}
 (d:AP all env o=some true) (f:o.op=.lookup t m q ok) (g:Fs Ym (aev env q)=some (key,regs1)) (hm:aev env m=.Yr j) (i:A2 regs1 j=some (.map es))
 (ht:tk P t=some (.map kt e)) (hk:Jv P kt key=true) (l:find (Lq P kt) key es=some fd) (hx:(match fd with|some x=>some (x,true)|none=>(LB P e).map λz=>(z,false))=some (x,b)) (hc:D3 (KU P kt)) (a:Ac7 cl env (o.dst.getD 0) o.op=true)
 (hn:Nb S P all cls rest (Rh o.dst (ite ok (.tup [.p x,.bool b]) (.p x)) env) regs1 k):Nb S P all (cl::cls) (o::rest) env Ym k:=by
 refine AH1 (c:=KU P kt) (v:=ite ok (.tup [.p x,.bool b]) (.p x)) (regs':=regs1) d ?_ hc a hn;rw[f];simp only[aop,g,hm,Io,ht,hk,i,l]
 grind
end
section
variable (P:Program)
def stp (g:Cfg):Cfg:=(run P none 400 [] g).cfg
def cnd (g:Cfg):List Prop:=(run P none 400 [] g).conds
def Il (d:Nat)(g:Cfg):Cfg:=(run P (some d) 400 [] g).cfg
def BO1 (d:Nat)(g:Cfg):List Prop:=(run P (some d) 400 [] g).conds
def Cfg.st:Cfg->St
 |.code _ _ s=>s
 |.ops _ _ _ s=>s
 |.pop _ _ s=>s
def Cfg.k:Cfg->List It
 |.code _ K _=>K
 |.ops _ _ K _=>K
 |.pop _ K _=>K
def mkO {R:Type _}(env:Env)(Ym:C7)(κ : Env->C7->R):R:=fE env λenv=>fR Ym λregs=>κ env Ym
theorem GZ {R:Type _}(env:Env)(Ym:C7)(κ : Env->C7->R):mkO env Ym κ = κ env Ym:=by grind[mkO,fE_eq,BL4]
def AQ3 {R:Type _}(d:Option Nat)(a:AV)(env:Env)(Ym:C7)(κ : St->R):R:=match d with
 |some d=>mkO (ins d a env) Ym λenv Ym=>κ ⟨env,Ym⟩
 |none=>mkO env Ym λenv Ym=>κ ⟨env,Ym⟩
theorem Hn {R:Type _}(d:Option Nat)(a:AV)(env:Env)(Ym:C7)(κ : St->R):AQ3 d a env Ym κ = κ (put ⟨env,Ym⟩ d a):=by cases d<;>simp only[AQ3,GZ,put]
def kps (e:Env)(ks:List Nat)(r:C7)(rs:List Nat)(st:St):St:= mkO (e.foldr (λq l=>ins q.1 q.2 l) (st.env.filter λq=>ks.any (Nat.beq q.1))) (r.foldr (λq l=>ins q.1 q.2 l) (st.Ym.filter λq=>rs.any (Nat.beq q.1))) λenv Ym=>⟨env,Ym⟩
def At5:Cfg->Option Bool
 |.code (.cond c _ _) _ st=>match aev st.env c with
  |.p (.bb b)=>some b
  |_=>none
 |_=>none
def Bf5:Cfg->Cfg
 |.code (.cond _ t _) K st=>.code t K st
 |g=>g
def Bf6:Cfg->Cfg
 |.code (.cond _ _ e) K st=>.code e K st
 |g=>g
def AH7:Cfg->Option Bool
 |.ops all (o::_) _ st=>match o.guard with
  |some (j,_)=>match BX9 all j with
   |some d=>match get st.env d with
    |.p (.bb b)=>some b
    |_=>none
   |none=>none
  |none=>none
 |_=>none
def Sa (b:Bool):Cfg->Cfg
 |.ops all (o::rest) K st=>match o.guard with
  |some (j,_)=>match BX9 all j with
   |some d=>AQ3 (some d) (.p (.v (.bool b))) st.env st.Ym λst=>.ops all (o::rest) K st
   |none=>.ops all (o::rest) K st
  |none=>.ops all (o::rest) K st
 |g=>g
def AQ4 (ids:List Nat):Cfg->Option (FuncId×List AV×List Obj)
 |.ops all (o::_) _ st=>match Cb all st.env o,o.op with
  |some true,.call c=>match c.callee with
   |.value f=>match JB st.Ym (c.args.toList.map (aev st.env))with
    |some (as,Ym)=>match ZM st.env f as with
     |some (fn,as')=>match Fl ids as',N2 ids Ym ids with
      |some a,some ob=>if I6 ids&&GV ob then some (fn,a,ob)else none
      |_,_=>none
     |none=>none
    |none=>none
   |_=>none
  |_,_=>none
 |_=>none
def AQ5 (ids:List Nat)(ks:List Bool)(n:Nat):Cfg->Bool
 |.ops _ (o::_) _ st=>match o.op with
  |.call c=>match JB st.Ym (c.args.toList.map (aev st.env))with
   |some (_,Ym)=>Z7 Ym ids ks (o.dst.getD 0) n
   |none=>false
  |_=>false
 |_=>false
def Bw6 (ids:List Nat)(ks:List Bool)(r:AV)(objs' : List Obj):Cfg->Cfg
 |.ops all (o::rest) K st=>match o.op with
  |.call c=>match JB st.Ym (c.args.toList.map (aev st.env))with
   |some (_,Ym)=>AQ3 o.dst (unA (I3 (o.dst.getD 0) ids ks objs'.length) r) st.env
    (back (I3 (o.dst.getD 0) ids ks objs'.length) (I3 (o.dst.getD 0) ids ks objs'.length) objs' (M0 ids ks Ym)) λst=>.ops all rest K st
   |none=>.ops all (o::rest) K st
  |_=>.ops all (o::rest) K st
 |g=>g
structure BZ9 where
 kt:TypeId
 e:TypeId
 key:PV
 es:List (PV×PV)
def Bw7:Cfg->Option BZ9
 |.ops all (o::_) _ st=>match Cb all st.env o,o.op with
  |some true,.lookup t m k _=>match Fs st.Ym (aev st.env k),aev st.env m with
   |some (key,Ym),.Yr j=>match A2 Ym j,tk P t with
    |some (.map es),some (.map kt e)=>if Jv P kt key then some ⟨kt,e,key,es⟩else none
    |_,_=>none
   |_,_=>none
  |_,_=>none
 |_=>none
def AQ6 (e:TypeId):Option PV->Option (PV×Bool)
 |some x=>some (x,true)
 |none=>(LB P e).map λz=>(z,false)
def Bw8 (x:PV)(b:Bool):Cfg->Cfg
 |.ops all (o::rest) K st=>match o.op with
  |.lookup _ _ k ok=>match Fs st.Ym (aev st.env k)with
   |some (_,Ym)=>AQ3 o.dst (ite ok (.tup [.p x,.bool b]) (.p x)) st.env Ym λst=>.ops all rest K st
   |none=>.ops all (o::rest) K st
  |_=>.ops all (o::rest) K st
 |g=>g
def updE:Cfg->Option (TypeId×PV×PV×List (PV×PV))
 |.ops all (o::_) _ st=>match Cb all st.env o,o.op with
  |some true,.mapUpdate t m k x=>match aev st.env k,aev st.env m,Fs st.Ym (aev st.env x)with
   |.p key,.Yr j,some (y,Ym)=>match A2 Ym j,tk P t with
    |some (.map es),some (.map kt _)=>if Jv P kt (nP key) then some (kt,nP key,y,es)else none
    |_,_=>none
   |_,_,_=>none
  |_,_=>none
 |_=>none
def updK (es' : List (PV×PV)):Cfg->Cfg
 |.ops all (o::rest) K st=>match o.op with
  |.mapUpdate _ m _ x=>match aev st.env m,Fs st.Ym (aev st.env x)with
   |.Yr j,some (_,Ym)=>AQ3 o.dst QG st.env (ins j (.map es') Ym) λst=>.ops all rest K st
   |_,_=>.ops all (o::rest) K st
  |_=>.ops all (o::rest) K st
 |g=>g
def JL:Cfg->Bool
 |.code (.loop _) _ _=>true
 |_=>false
def Uz:Cfg->Code
 |.code (.loop b) _ _=>b
 |_=>.skip
def popSt:Cfg->Option St
 |.pop .normal _ st=>some st
 |_=>none
def Ad6 (M:It):Nat->List It->List It
 |0,K=>M::K
 |n+1,i::K=>i::Ad6 M n K
 |_+1,[]=>[M]
def midC (n:Nat)(M:St->Prop):Cfg->Cfg
 |.code c K st=>.code c (Ad6 (.mid M) n K) st
 |.ops all rest K st=>.ops all rest (Ad6 (.mid M) n K) st
 |.pop e K st=>.pop e (Ad6 (.mid M) n K) st
def Lu:Cfg->Bool
 |.ops _ (_::_) _ _=>true
 |_=>false
def opsS (st:St):Cfg->Cfg
 |.ops all rest K _=>.ops all rest K st
 |g=>g
def BW2:Cfg->Option St
 |.pop .ret [] st=>some st
 |.pop .normal [] st=>some st
 |_=>none
inductive Ys where
 |eq (x y:PV)
 |fn (n m:Nat) (f g:Nat->List PV)
 |mp (x y:List (PV×PV))
 |yl (x y:List (List PV)) (b c:Bool)
 |nt (a b:Nat)
 |ob (n:Nat) (f g:Nat->Obj)
inductive LV where
 |eq (x:PV)
 |fn (n:Nat) (f:Nat->List PV)
 |mp (x:List (PV×PV))
 |yl (x:List (List PV)) (b:Bool)
 |nt (a:Nat)
 |ob (f:Nat->Obj)
def Ys.src:Ys->LV
 |.eq x _=>.eq x
 |.fn n _ f _=>.fn n f
 |.mp x _=>.mp x
 |.yl x _ b _=>.yl x b
 |.nt a _=>.nt a
 |.ob _ f _=>.ob f
def Ys.tgt:Ys->LV
 |.eq _ y=>.eq y
 |.fn _ m _ g=>.fn m g
 |.mp _ y=>.mp y
 |.yl _ y _ c=>.yl y c
 |.nt _ b=>.nt b
 |.ob _ _ g=>.ob g
def Ys.ok:Ys->Prop
 |.eq x y=>x=y
 |.fn n m f g=>n=m/\∀i,i<n->f i=g i
 |.mp x y=>x=y
 |.yl x y b c=>x=y/\b=c
 |.nt a b=>a=b
 |.ob n f g=>∀i,i<n->f i=g i
theorem Ys.ok_of {l:Ys}(h:l.src=l.tgt):l.ok:=by
 cases l with
 |eq x y=>simp only[Ys.src,Ys.tgt,LV.eq.injEq]at h;exact h
 |fn n m f g=>simp only[Ys.src,Ys.tgt,LV.fn.injEq]at h;obtain⟨rfl,rfl⟩:=h;exact⟨rfl,λ_ _=>rfl⟩
 |mp x y=>simp only[Ys.src,Ys.tgt,LV.mp.injEq]at h;exact h
 |yl x y b c=>simp only[Ys.src,Ys.tgt,LV.yl.injEq]at h;exact h
 |nt a b=>simp only[Ys.src,Ys.tgt,LV.nt.injEq]at h;exact h
 |ob n f g=>simp only[Ys.src,Ys.tgt,LV.ob.injEq]at h;subst h;exact λ_ _=>rfl
def BO2:PV->PV->Ys
 |.v (.bool b),.bb c=>.eq (.bb b) (.bb c)
 |.v (.slice none 0 0),.sl false _ n f=>.fn 0 n f f
 |.sl nn k n f,.sl false l m g=>if k=l then .fn n m f g else .eq (.sl nn k n f) (.sl false l m g)
 |x,y=>.eq x y
mutual
def Nu (Ym:C7)(ids:List (Nat×Nat))(a b:AV):Option (List Ys):=
 match b with
 |.top=>some []
 |.p y=>match viewP Ym a with
  |some x=>some [BO2 x y]
  |none=>none
 |.reg j off=>match a with | .reg i off'=>if lk ids j=some i/\off=off' then some []else none|_=>none
 |.vec j=>match a with
  |.vec i=>if lk ids j=some i then some []else none
  |.p (.v (.slice none 0 0))=>if lk ids j=none then some []else none
  |_=>none
 |.vecp j n=>match a with | .vecp i m=>if lk ids j=some i/\n=m then some []else none|_=>none
 |.elt j k n off=>match a with | .elt i k' n' off'=>if lk ids j=some i/\k=k' /\ n=n' /\ off=off' then some []else none|_=>none
 |.Yr j=>match a with | .Yr i=>if lk ids j=some i then some []else none|_=>none
 |.yf j=>match a with | .yf i=>if lk ids j=some i then some []else none|_=>none
 |.clo f x y=>match a with
  |.clo f' x' y'=>match UA Ym ids x' x,UA Ym ids y' y with|some l,some m=>some (.nt f' f::l++m)|_,_=>none
  |_=>none
 |.tup l=>match a with | .tup l'=>UA Ym ids l' l|_=>none
 |.agr l=>match a with | .agr l'=>UA Ym ids l' l|_=>none
def UA (Ym:C7)(ids:List (Nat×Nat))(a b:List AV):Option (List Ys):=
 match b with
 |[]=>match a with | []=>some [] | _=>none
 |y::s=>match a with
  |x::r=>match Nu Ym ids x y,UA Ym ids r s with|some l,some m=>some (l++m)|_,_=>none
  |[]=>none
end
def Bw9 (Ym:C7)(ids:List (Nat×Nat))(env:Env):Env->Option (List Ys)
 |[]=>some []
 |(t,b)::r=>match Nu Ym ids (get env t) b,Bw9 Ym ids env r with|some l,some m=>some (l++m)|_,_=>none
def Sb (Ym:C7)(ids:List (Nat×Nat))(o p:Obj):Option (List Ys):=
 match p with
 |.cells cs=>match o with | .cells cs'=>UA Ym ids cs' cs|_=>none
 |.vec e k n f vw=>match o with
  |.vec e' k' m g vw'=>if e=e' /\ k=k' /\ (vw' = true->vw=true)then some [.fn m n g f]else none
  |_=>none
 |.map es=>match o with | .map es'=>some [.mp es' es] | _=>none
 |.arr n f=>match o with | .arr m g=>some [.fn m n (λi=>[g i]) (λi=>[f i])] | _=>none
 |.blk l jr=>match o with | .blk l' jr'=>if lk ids jr=some jr' then some [.ob 1 (λ_=>.blk l' 0) (λ_=>.blk l 0)]else none|_=>none
 |.ghost cs=>match o with | .ghost cs'=>UA Ym ids cs' cs|_=>none
 |.yld r b=>match o with | .yld r' b'=>some [.yl r' r b' b] | _=>none
 |.fam e n jr x=>match o with
  |.fam e' m jr' x'=>if e=e' /\ lk ids jr=some jr' then (match x,x' with
   |none,none=>some [.nt m n]
   |some (i,a),some (i',a')=>match nov a' a,Nu Ym ids a' a with
    |true,some l=>some (.nt m n :: .nt i' i::l)
    |_,_=>none
   |_,_=>none)else none
  |_=>none
 |.rows n g=>match o with | .rows m g'=>some [.nt m n,.ob n g' g] | _=>none
 |.dead=>some []
def Bx0 (Ym:C7)(ids:List (Nat×Nat)):C7->Option (List Ys)
 |[]=>some []
 |(j,p)::r=>match (match lk ids j with
  |some i=>match A2 Ym i with
   |some o=>Sb Ym ids o p
   |none=>none
  |none=>match p with
   |.vec _ _ n f _=>some [.fn 0 n f f]
   |_=>none:Option (List Ys)),Bx0 Ym ids r with
  |some l,some m=>some (l++m)
  |_,_=>none
def leK (ids:List (Nat×Nat))(s t:St):Option (List Ys):=
 if (wf t&&I6 (ids.map (·.2))&&AN5 ids&&VD ids t.Ym&&PE ids (seen s.env t.env++Nh ids s.Ym t.Ym) t.Ym) then
  match Bw9 s.Ym ids s.env t.env,Bx0 s.Ym ids t.Ym with
  |some l,some m=>some (l++m)
  |_,_=>none
 else none
def Bx1 {x y:PV}(h:(BO2 x y).ok):leP x y:=by
 unfold BO2 at h;split at h
 .simp only[Ys.ok,PV.bb.injEq]at h;subst h;exact .inr (by grind)
 .obtain⟨rfl,_⟩:=h;exact .inr (by grind)
 .split at h
  .rename_i hk;subst hk;obtain⟨rfl,h⟩:=h;exact .inr (by grind)
  exact .inl h
 exact .inl h
def Sc {l m:List Ys}(h:∀x∈l++m,x.ok):(∀x∈l,x.ok)/\∀x∈m,x.ok:=
 (by grind)
mutual
theorem XW {Ym:C7}{ids:List (Nat×Nat)}{a:AV}(b:AV){L:List Ys}(h:Nu Ym ids a b=some L)(hL:∀x∈L,x.ok):leA Ym ids a b:=by
 cases b with
 |top=>unfold leA;trivial
 |p y=>
  unfold Nu at h;split at h
  .rename_i x hx;cases h;unfold leA;exact⟨x,hx,Bx1 (hL _ (by simp))⟩
  cases h
 |reg j off=>
  unfold Nu at h;split at h
  .split at h
   .rename_i c;obtain⟨h1,rfl⟩:=c;exact BY2 h1
   cases h
  cases h
 |vec j=>
  unfold Nu at h;split at h
  .split at h
   .rename_i h1;exact BY1 h1
   cases h
  .split at h
   .rename_i h1;exact BL9 h1
   cases h
  cases h
 |vecp j n=>
  unfold Nu at h;split at h
  .split at h
   .rename_i c;obtain⟨h1,rfl⟩:=c;unfold leA;exact⟨_,h1,rfl⟩
   cases h
  cases h
 |elt j k n off=>
  unfold Nu at h;split at h
  .split at h
   .rename_i c;obtain⟨h1,rfl,rfl,rfl⟩:=c;unfold leA;exact⟨_,h1,rfl⟩
   cases h
  cases h
 |Yr j=>
  unfold Nu at h;split at h
  .split at h
   .rename_i h1;exact Bb7 h1
   cases h
  cases h
 |yf j=>
  unfold Nu at h;split at h
  .split at h
   .rename_i h1;exact le_yf h1
   cases h
  cases h
 |clo f x y=>
  unfold Nu at h;split at h
  .split at h
   .rename_i l m h1 g;cases h;have d:=hL _ (Ct3 ..);simp only[Ys.ok]at d;subst d;obtain⟨i,o⟩:=Sc λx hx=>hL x (Cn1 _ hx);exact BY3 (IA x h1 i) (IA y g o)
   cases h
  cases h
 |tup l=>
  unfold Nu at h;split at h
  .exact BZ7 (IA l h hL)
  cases h
 |agr l=>
  unfold Nu at h;split at h
  .exact BZ8 (IA l h hL)
  cases h
theorem IA {Ym:C7}{ids:List (Nat×Nat)}{a:List AV}(b:List AV){L:List Ys}(h:UA Ym ids a b=some L)(hL:∀x∈L,x.ok):leL Ym ids a b:=by
 cases b with
 |nil=>
  unfold UA at h;split at h
  .exact BM0
  cases h
 |cons y s=>
  unfold UA at h;split at h
  .split at h
   .rename_i l m h1 c;cases h;obtain⟨d,f⟩:=Sc hL;exact Bs7 (XW y h1 d) (IA s c f)
   cases h
  cases h
end
theorem AH8 {Ym:C7}{ids:List (Nat×Nat)}{env:Env}:∀(t:Env) {L:List Ys},Bw9 Ym ids env t=some L->(∀x∈L,x.ok)->RA Ym ids env t
 |[],_,_,_=>trivial
 |(t,b)::r,L,h,hL=>by
  simp only[Bw9]at h;split at h
  .rename_i l m h1 a;cases h;obtain⟨c,d⟩:=Sc hL;exact⟨XW b h1 c,AH8 r a d⟩
  grind
theorem Bx2 {Ym:C7}{ids:List (Nat×Nat)}{o p:Obj}{L:List Ys}(h:Sb Ym ids o p=some L)(hL:∀x∈L,x.ok):leO Ym ids o p:=by
 cases p with
 |cells cs=>
  simp only[Sb]at h
  grind[Bs8,IA]
 |vec e k n f vw=>
  simp only[Sb]at h
  repeat' split at h<;>try contradiction
  rename_i c;obtain⟨rfl,rfl,i⟩:=c;cases h;obtain⟨rfl,h1⟩:=hL _ (Co7.2 rfl);exact⟨_,_,rfl,h1,i⟩
 |map es=>
  simp only[Sb]at h;split at h
  .cases h
   have:=hL _ (Co7.2 rfl)
   simp only[Ys.ok]at this;subst this;rfl
  grind
 |blk l jr=>
  simp only[Sb]at h
  repeat' split at h<;>try contradiction
  rename_i c;cases h;have h1:=hL _ (Co7.2 rfl);have j:=h1 0 (Cx7 0);cases j;exact⟨_,rfl,c⟩
 |arr n f=>
  simp only[Sb]at h;split at h
  .cases h;obtain⟨rfl,h1⟩:=hL _ (Co7.2 rfl);exact⟨_,rfl,by grind⟩
  grind
 |ghost cs=>
  simp only[Sb]at h;split at h
  .exact⟨_,rfl,IA cs h hL⟩
  grind
 |yld r b=>
  simp only[Sb]at h;split at h
  .cases h;obtain⟨rfl,rfl⟩:=hL _ (Co7.2 rfl);rfl
  grind
 |fam e n jr x=>
  simp only[Sb]at h;split at h
  .split at h
   .rename_i m;obtain⟨rfl,d⟩:=m;split at h
    .cases h;have a:=hL _ (Ct3 ..);simp only[Ys.ok]at a;subst a;exact⟨_,_,rfl,d,rfl⟩
    .split at h
     .rename_i hn hl;cases h;have a:=hL _ (Ct3 ..);have h1:=hL _ (Cn1 _ (Ct3 ..));simp only[Ys.ok]at a h1;subst a h1;exact⟨_,_,rfl,d,_,rfl,hn,XW _ hl (by grind)⟩
     grind
    grind
   grind
  grind
 |rows n g=>
  simp only[Sb]at h;split at h
  .cases h;have a:=hL _ (Ct3 ..);simp only[Ys.ok]at a;subst a;exact⟨_,rfl,hL (.ob _ _ _) (by simp)⟩
  grind
 |dead=>trivial
theorem AH9 {Ym:C7}{ids:List (Nat×Nat)}:∀(t:C7) {L:List Ys},Bx0 Ym ids t=some L->(∀x∈L,x.ok)->ZV Ym ids t
 |[],_,_,_=>trivial
 |(j,p)::r,L,h,hL=>by
  simp only[Bx0]at h;split at h
  .rename_i l m h1 a;cases h;obtain⟨b,c⟩:=Sc hL;refine⟨?_,AH9 r a c⟩;split at h1
   .grind[Bx2]
   rename_i d;split at h1
   .cases h1;obtain⟨rfl,_⟩:=b _ (Co7.2 rfl)
    grind
   grind
  grind
def BH2 {ids:List (Nat×Nat)}{s t:St}{L:List Ys}(h:leK ids s t=some L)(hL:∀x∈L,x.ok):Le ids s t:=by
 unfold leK at h
 repeat' split at h<;>try contradiction
 rename_i hw _ _ l m h1 a;cases h;obtain⟨b,c⟩:=Sc hL
 grind[le_mk,AH8,AH9]
def kle {ids:List (Nat×Nat)}{s t:St}(h:(leK ids s t).map (·.map Ys.src)=(leK ids s t).map (·.map Ys.tgt):=by kernel_rfl)(h1:(leK ids s t).isSome=true:=by kernel_rfl):Le ids s t:=by
 obtain⟨L,hL⟩:=Cj7.1 h1;rw[hL]at h;simp only[Cj4,Ci3]at h;refine BH2 hL λx hx=>?_;obtain⟨i,a,rfl⟩:=Cr4.1 hx
 have:=congrArg (·[i]?) h
 grind[List.getElem?_eq_getElem,Option.some.injEq,Ys.ok_of]
def Bx3 (is:List Nat)(f:Ys->LV)(L:List Ys):List (Option LV):=L.zipIdx.map λq=>ite (is.contains q.2) none (some (f q.1))
def kleR {ids:List (Nat×Nat)}{s t:St}(rs:List (Nat×Ys))(c:∀q∈rs,q.2.ok)(h:(leK ids s t).map (Bx3 (rs.map (·.1)) Ys.src)=(leK ids s t).map (Bx3 (rs.map (·.1)) Ys.tgt):=by kernel_rfl)
 (a:(leK ids s t).map (λL=>rs.map λq=>L[q.1]?)=some (rs.map λq=>some q.2):=by kernel_rfl):Le ids s t:=by
 cases hL:leK ids s t with
 |none=>rw[hL]at a;grind
 |some L=>
  rw[hL]at h a;simp only[Cj4,Ci3]at h a;refine BH2 hL λx hx=>?_;obtain⟨i,d,rfl⟩:=Cr4.1 hx;by_cases hm:(rs.map (·.1)).contains i=true
  .simp only[Cm0,Lx,Cp4]at hm;obtain⟨q,b,rfl⟩:=hm;obtain⟨k,hk,rfl⟩:=Cr4.1 b
   have:=congrArg (·[k]?) a
   grind
  have:=congrArg (·[i]?) h
  simp_all[Bx3,Ys.ok_of]
end
section
variable {P:Program}
variable {S:X0}{F:M3}{g:Cfg}{pr:Prop}
def GS (hS:H4 S P)(hc:pr)(h:G S P F (stp P g))(hp:pr=D3 (cnd P g):=by kernel_rfl):G S P F g:=
 (Iu (F:=F) hS 400 [] g (by subst hp;exact hc)).2 h
end
section
variable {S:X0}{P:Program}{F:M3}{g:Cfg}{pr:Prop}
theorem Nv (hS:H4 S P){K1 K2:List It}(h:∀e s,kp S P K1 F e s->kp S P K2 F e s):∀(K:List It) (e:Rv) (s:St),kp S P (K++K1) F e s->kp S P (K++K2) F e s
 |[],e,s,hk=>h e s hk
 |.code c::K,e,s,hk=>by simp only[Cj3,kp]at hk⊢;exact XU hS (λt=>DA hS c (Nv hS h K)) (Nv hS h K) e s hk
 |.blk id::K,e,s,hk=>by
  simp only[Cj3,kp]at hk⊢;cases e with
  |exit i=>
   simp only[blk]at hk⊢;split at hk
   .rename_i a;rw[Kb a];exact Nv hS h K _ _ hk
   rename_i a;rw[Kd a];exact Nv hS h K _ _ hk
  |_=>exact Nv hS h K _ _ hk
 |.lp X s' J m n::K,e,s,hk=>by
  simp only[Cj3,kp]at hk⊢;cases e with
  |normal=>exact hk
  |_=>exact Nv hS h K _ _ hk
 |.mid M::K,e,s,hk=>by simp only[Cj3,kp]at hk⊢;exact XU hS (λt h=>h) (Nv hS h K) e s hk
 |.scp::K,e,s,hk=>by
  simp only[Cj3,kp]at hk⊢;cases e with
  |goto l=>exact hk
  |_=>exact Nv hS h K _ _ hk
def AI0 (M:It):∀(n:Nat) (K:List It),n<=K.length->Ad6 M n K=K.take n++M::K.drop n
 |0,K,_=>by simp[Ad6]
 |n+1,i::K,h=>by simp only[Ad6,Cu2,List.drop_succ_cons,Cj3,AI0 M n K (by grind)]
 |n+1,[],h=>by grind
def BH3 (hS:H4 S P)(a:∀s,S.up s (F .normal)->F .normal s)(n:Nat)(hn:n<=g.k.length){M:St->Prop}(b:∀t,M t->G S P F (.pop .normal (g.k.drop n) t))(h:G S P F (midC n M g)):G S P F g:=by
 have hk:∀e s,kp S P (Ad6 (.mid M) n g.k) F e s->kp S P g.k F e s:=by
  intro e s;rw[AI0 _ _ _ hn]
  conv=>rhs;rw[<- Ct6 n g.k]
  grind[Nv,BZ5]
 cases g with
 |code c K st=>exact DA hS c hk h
 |ops all rest K st=>exact JK hS hk rest h
 |pop e K st=>exact hk e st h
def XX {g:Cfg}(h:JL g=true):g=.code (.loop (Uz g)) g.k g.st:=by
 unfold JL at h;split at h
 .rfl
 grind
def AQ7 (P:Program)(st:St)(rs:List ResultVar)(outs:List Nat):Option (AV×List Obj):=match JD P st rs with
 |some l=>match ZL outs (one l),N2 outs st.Ym outs with
  |some a,some o=>if I6 outs then some (a,o)else none
  |_,_=>none
 |none=>none
def BO3 (hS:H4 S P){f:FuncId}{fn:Func}{args:List AV}{objs objs' : List Obj}{ks:List Bool}{r:AV}(d:P.funcs[f]? = some fn)
 (h:G S P (Ft S P objs.length fn.results.toList λres o k=>res=.ret r/\o=objs' /\ k=ks) (.code (fn.body.getD .skip) [] { env:=Af5 args,Ym:=Yn objs }))
 (hc:fn.body.isSome=true:=by kernel_rfl) (hn:Nat.ble args.length fn.ntmps=true:=by kernel_rfl) (g:Nat.blt objs.length 1000=true:=by kernel_rfl)
 (b:Ca fn.ntmps (fn.body.getD .skip)=true:=by kernel_rfl) (c:(fn.name == "runtime.NumGoroutine")=false:=by kernel_rfl):Yo S f args objs r objs' ks:=by
 obtain⟨code,a⟩:=Cj7.1 hc;rw[a,Cj0]at b h;exact Bb8 hS d a (Cn3 hn) (by simp_all) rfl b c h
def al0:∀q∈([]:List (Nat×Ys)),q.2.ok:=λ_ h=>by cases h
def al1 {i:Nat}{l:Ys}{rs:List (Nat×Ys)}(h:l.ok)(t:∀q∈rs,q.2.ok):∀q∈(i,l)::rs,q.2.ok:=by grind
structure SC where
 all:List Oper
 cls:List Cls
 rest:List Oper
 env:Env
 Ym:C7
 kn:List Nat
def SG (S:X0)(P:Program)(sc:SC)(k:Env->C7->Prop):Prop:=Nb S P sc.all sc.cls sc.rest sc.env sc.Ym k
def DB (P:Program)(sc:SC):SC:=match Us P sc.kn sc.all sc.cls sc.rest [] sc.env sc.Ym with
 |⟨_,cls,rest,env,Ym⟩=>⟨sc.all,cls,rest,env,Ym,sc.kn⟩
def Wa (P:Program)(sc:SC):List Prop:=(Us P sc.kn sc.all sc.cls sc.rest [] sc.env sc.Ym).conds
def Ee:Cfg->Bool
 |.code (.region _ _ true) _ _=>true
 |_=>false
def JM:Cfg->SC
 |.code (.region _ ops true) _ st=>⟨ops.toList,ops.toList.map λo=>Cg8 o.op,ops.toList,st.env,st.Ym,[]⟩
 |_=>⟨[],[],[],[],[],[]⟩
def BO4 (hS:H4 S P)(hc:pr)
 (h:SG S P (JM (stp P g)) λenv Ym=>G S P F (.pop .normal (stp P g).k ⟨env,Ym⟩)) (hp:pr=D3 (cnd P g):=by kernel_rfl) (c:Ee (stp P g)=true:=by kernel_rfl) (a:P.follows .mixedOrders=true:=by kernel_rfl) (b:PL (JM (stp P g)).all (JM (stp P g)).cls=true:=by kernel_rfl):G S P F g:=by
 refine GS hS hc ?_ hp;generalize stp P g=g' at c b h;unfold Ee at c;split at c
 .exact Bw0 hS a rfl b h
 grind
section
variable {sc:SC}{k:Env->C7->Prop}
def Bf7 (hc:pr)(h:SG S P (DB P sc) k)(hp:pr=D3 (Wa P sc):=by kernel_rfl):SG S P sc k:=by
 subst hp;unfold DB at h;unfold Wa at hc;unfold SG at *;generalize a:Us P sc.kn sc.all sc.cls sc.rest [] sc.env sc.Ym=r at h hc;obtain⟨c,cls,rest,env,Ym⟩:=r
 grind[s_go]
def C_end (hc:pr)(h:k (DB P sc).env (DB P sc).Ym)(hp:pr=D3 (Wa P sc):=by kernel_rfl)(a:(DB P sc).rest.isEmpty=true:=by kernel_rfl):SG S P sc k:=by
 refine Bf7 hc ?_ hp;generalize DB P sc=s at a h;obtain⟨all,cls,rest,env,Ym,kn⟩:=s;cases rest with
 |nil=>exact s_end h
 |cons=>grind
def Bx4 {R:Type _}(d:Option Nat)(a:AV)(env:Env)(Ym:C7)(κ : Env->C7->R):R:=match d with
 |some d=>mkO (ins d a env) Ym κ
 |none=>mkO env Ym κ
def Gg {R:Type _}(d:Option Nat)(a:AV)(env:Env)(Ym:C7)(κ : Env->C7->R):Bx4 d a env Ym κ = κ (Rh d a env) Ym:=by cases d<;>simp only[Bx4,GZ,Rh]
def BH4:∀{env:Env}{i d:Nat}{b:AV},Bs3 ((i,b)::env)=true->get env d ≠ .top->d<i
 |[],_,_,_,_,h=>Kf rfl h
 |(j,c)::r,i,d,b,hd,h=>by
  simp only[Bs3,Ci6,Lx]at hd;by_cases e:j=d
  .omega
  simp only[get,e,Lw]at h;exact Nat.lt_trans (BH4 hd.2 h) hd.1
def XY:∀{env:Env}{d:Nat}{a:AV},Bs3 env=true->get env d=a->a ≠ .top->ins d a env=env
 |[],_,_,_,h,hn=>Kf h.symm hn
 |(i,b)::r,d,a,hd,h,hn=>by
  by_cases e:i=d
  .simp_all[get,Kk,ins]
  simp only[get,e,Lw]at h;have c:=BH4 hd (by rw[h];omega);have f:Bs3 r=true:=by
   cases r with
   |nil=>rfl
   |cons p r=>simp_all[Bs3,Ci6]
  simp only[ins,show ¬i<d by omega,e,Lw,XY f h hn]
def XZ (sc:SC):Option Bool:=match sc.rest with
 |o::_=>match o.guard with
  |some (j,_)=>match BX9 sc.all j with
   |some d=>match get sc.env d with
    |.p (.bb b)=>if Bs3 sc.env then some b else none
    |_=>none
   |none=>none
  |none=>none
 |[]=>none
def Sd (v:Bool)(sc:SC):SC:=match sc.rest with
 |o::_=>match o.guard with
  |some (j,_)=>match BX9 sc.all j with
   |some d=>mkO (ins d (.p (.bb v)) sc.env) sc.Ym λenv Ym=>⟨sc.all,sc.cls,sc.rest,env,Ym,j::sc.kn⟩
   |none=>sc
  |none=>sc
 |[]=>sc
def Wb (ids:List Nat)(sc:SC):Option (FuncId×List AV×List Obj):=match sc.rest with
 |o::_=>match AP sc.all sc.env o,o.op with
  |some true,.call c=>match c.callee with
   |.value f=>match JB sc.Ym (c.args.toList.map (aev sc.env))with
    |some (as,Ym)=>match ZM sc.env f as with
     |some (fn,as')=>match Fl ids as',N2 ids Ym ids with
      |some a,some ob=>if I6 ids&&GV ob then some (fn,a,ob)else none
      |_,_=>none
     |none=>none
    |none=>none
   |_=>none
  |_,_=>none
 |[]=>none
def Bx5 (js:List Nat):AV->Bool
 |.vec j=>js.contains j
 |.vecp j _=>js.contains j
 |_=>true
def AI1 {js:List Nat}{regs' : C7}:∀{l:List AV}{Ym:C7}{as:List AV},l.all (Bx5 js)=true->JB Ym l=some (as,regs')->∀q,q ∉ js->A2 regs' q=A2 Ym q
 |[],Ym,as,_,h,q,_=>by grind[JB,Option.some.injEq,Prod.mk.injEq]
 |a::r,Ym,as,hl,h,q,hq=>by
  simp only[Cq7,Ci6]at hl;simp only[JB]at h
  repeat' split at h<;>try contradiction
  rename_i x R1 h1 _ l1 R2 c;simp at h;obtain⟨_,rfl⟩:=h;rw[AI1 hl.2 c q hq];cases a with
  |vec j=>
   simp only at h1;split at h1
   .rename_i x2 R3 b;cases h1;exact XT (by grind[inJ,Bx5]) b q hq
   grind
  |vecp j m=>
   simp only at h1;split at h1
   .rename_i x2 R3 b;cases h1;exact XT (by grind[inJ,Bx5]) b q hq
   grind
  |_=>cases h1;rfl
def Ca0 (R:C7)(a:AV):Option (AV×C7):=match a with | .vec _ | .vecp _ _=>(match Fs R a with|some (x,Ym)=>some (AV.p x,Ym)|none=>none)|a=>some (a,R)
def Bf8 (R:C7)(a:AV)(r:List AV):JB R (a::r)=match Ca0 R a with
 |some (a,Ym)=>match JB Ym r with
  |some (l,Ym)=>some (a::l,Ym)
  |none=>none
 |none=>none:=rfl
def Bx6 {js:List Nat}{a x:AV}{R R2 R' : C7}(hl:inJ js a=true)(b:∀q∈js,A2 R2 q=A2 R q)(hx:Ca0 R a=some (x,R')):∃R3,Ca0 R2 a=some (x,R3)/\(∀q∈js,A2 R3 q=A2 R' q)/\∀q,q ∉ js->A2 R3 q=A2 R2 q:=by
 have up:∀(i:Nat) (o:Obj),i∈js->(∀q∈js,A2 (ins i o R2) q=A2 (ins i o R) q)/\∀q,q ∉ js->A2 (ins i o R2) q=A2 R2 q:=λi o f=>
  ⟨λq c=>by rw[O7,O7,b q c],λq c=>by rw[O7,Kd (by grind)]⟩
 cases a with
 |p y=>cases hx;exact⟨R2,rfl,b,λ_ _=>rfl⟩
 |vec j=>
  have d:j∈js:=by grind[inJ]
  grind[Ca0,Fs]
 |vecp j m=>
  have d:j∈js:=by grind[inJ]
  grind[Ca0,Fs]
 |_=>cases hl
def Ya {js:List Nat}:∀{l:List AV}{R R2 R1:C7}{as:List AV},l.all (inJ js)=true->(∀q∈js,A2 R2 q=A2 R q)->JB R l=some (as,R1) ->
 ∃R3,JB R2 l=some (as,R3)/\(∀q∈js,A2 R3 q=A2 R1 q)/\∀q,q ∉ js->A2 R3 q=A2 R2 q
 |[],R,R2,R1,as,_,h2,h=>by simp only[JB,Ci3,Cj6]at h;obtain⟨rfl,rfl⟩:=h;exact⟨R2,rfl,h2,λ_ _=>rfl⟩
 |a::r,R,R2,R1,as,hl,h2,h=>by
  simp only[Cq7,Ci6]at hl;simp only[Bf8]at h⊢;split at h
  .rename_i x R' hx;obtain⟨R3,e1,e2,e3⟩:=Bx6 hl.1 h2 hx;split at h
   .rename_i l1 R'' b;simp at h;obtain⟨rfl,rfl⟩:=h;obtain⟨R4,f1,f2,f3⟩:=Ya hl.2 e2 b
    simp_all
   grind
  grind
def Se {m:List Nat}:∀{ids:List Nat}{objs:List Obj}{A B:C7}{q:Nat},A2 A q=A2 B q->A2 (back m ids objs A) q=A2 (back m ids objs B) q
 |[],_,_,_,_,h=>h
 |_::_,[],_,_,_,h=>h
 |j::ids,o::objs,A,B,q,h=>by simp only[back];exact Se (by rw[O7,O7,h])
def BO5 {all:List Oper}{k:Env->C7->Prop}{js:List Nat}{cls:List Cls}{o:Oper}{rest:List Oper}{env:Env}{Ym regs1:C7}{c:Call}{f:Operand}{as:List AV}{fn:FuncId}{as' args:List AV}{objs' : List Obj}{ks:List Bool}{r:AV}
 (j:AP all env o=some true) (l:o.op=.call c) (m:c.callee=.value f) (d:(c.args.toList.map (aev env)).all (inJ js)=true)
 (ha:JB Ym (c.args.toList.map (aev env))=some (as,regs1)) (hw:ZM env f as=some (fn,as')) (n:Fl [] as' = some args) (s:Yo S fn args [] r objs' ks)
 (g:((I3 (o.dst.getD 0) [] ks objs'.length).all λq=>js.contains q)=true) (hn:Z7 regs1 [] ks (o.dst.getD 0) objs'.length=true)
 (hk:Nb S P all cls rest (Rh o.dst (unA (I3 (o.dst.getD 0) [] ks objs'.length) r) env) (back (I3 (o.dst.getD 0) [] ks objs'.length) (I3 (o.dst.getD 0) [] ks objs'.length) objs' (M0 [] ks regs1)) k) :
 Nb S P all (.a js::cls) (o::rest) env Ym k:=by
 have i:∀q,q ∉ js->q ∉ I3 (o.dst.getD 0) [] ks objs'.length:=(by grind);refine⟨true,j,?_⟩;rw[Kb rfl];refine⟨_,_,.inr (.inr (.inr (.inr ⟨js,rfl,λq b=>?_,λR2 t=>?_⟩))),hk⟩
 .rw[KZ (i q b)];obtain⟨R3,e1,_,e3⟩:=Ya (R2:=Ym) d (λ_ _=>rfl) ha;rw[ha]at e1;cases e1;exact e3 q b
 obtain⟨R3,e1,e2,e3⟩:=Ya d t ha;refine⟨_,⟨c,f,as,R3,fn,as',args,[],objs',ks,r,[],l,m,e1,hw,n,rfl,s,rfl,rfl,?_,rfl,rfl⟩,λq b=>Se (e2 q b),λq b=>(KZ (i q b)).trans (e3 q b)⟩;unfold Z7 at hn⊢;rw[Cj2]at hn⊢;intro p hp;have h1:=hn p hp;have u:nid (o.dst.getD 0) p∈js:=by
  have:=Cj2.1 g (nid (o.dst.getD 0) p) (by unfold I3;exact Cp4.2 ⟨p,hp,rfl⟩)
  simpa using this
 show (A2 R3 (nid (o.dst.getD 0) p)).isNone=true;rw[e2 _ u];exact h1
def Wc (ids:List Nat)(ks:List Bool)(n:Nat)(sc:SC):Bool:=match sc.cls,sc.rest with
 |.w::_,o::_=>match o.op with
  |.call c=>match JB sc.Ym (c.args.toList.map (aev sc.env))with
   |some (_,Ym)=>Z7 Ym ids ks (o.dst.getD 0) n
   |none=>false
  |_=>false
 |.b js::_,o::_=>match o.op with
  |.call c=>match JB sc.Ym (c.args.toList.map (aev sc.env))with
   |some (_,Ym)=>((c.args.toList.map (aev sc.env)).all (Bx5 js)&&ids.isEmpty)&&(((I3 (o.dst.getD 0) ids ks n).all λq=>js.contains q)&&Z7 Ym ids ks (o.dst.getD 0) n)
   |none=>false
  |_=>false
 |.a js::_,o::_=>match o.op with
  |.call c=>match JB sc.Ym (c.args.toList.map (aev sc.env))with
   |some (_,Ym)=>((c.args.toList.map (aev sc.env)).all (inJ js)&&ids.isEmpty)&&(((I3 (o.dst.getD 0) ids ks n).all λq=>js.contains q)&&Z7 Ym ids ks (o.dst.getD 0) n)
   |none=>false
  |_=>false
 |_,_=>false
def Wd (ids:List Nat)(ks:List Bool)(r:AV)(objs' : List Obj)(sc:SC):SC:=match sc.rest with
 |o::rest=>match o.op with
  |.call c=>match JB sc.Ym (c.args.toList.map (aev sc.env))with
   |some (_,Ym)=>Bx4 o.dst (unA (I3 (o.dst.getD 0) ids ks objs'.length) r) sc.env
    (back (I3 (o.dst.getD 0) ids ks objs'.length) (I3 (o.dst.getD 0) ids ks objs'.length) objs' (M0 ids ks Ym)) λenv Ym=>⟨sc.all,sc.cls.tail,rest,env,Ym,sc.kn⟩
   |none=>sc
  |_=>sc
 |[]=>sc
def AI2 (sc:SC):Bool:=match sc.cls,sc.rest with
 |_::_,o::_=>match o.op with
  |.call c=>(c.args.toList.map (aev sc.env)).all Be4
  |_=>false
 |_,_=>false
def AI3 (sc:SC):Option (FuncId×List AV):=match sc.rest with
 |o::_=>match AP sc.all sc.env o,o.op with
  |some true,.call c=>match c.callee with
   |.value f=>match ZM sc.env f (c.args.toList.map (aev sc.env))with
    |some (fn,as')=>match Fl [] as' with
     |some a=>some (fn,a)
     |none=>none
    |none=>none
   |_=>none
  |_,_=>none
 |[]=>none
def Bf9 (r:AV)(sc:SC):SC:=match sc.rest with
 |o::rest=>Bx4 o.dst (unA [] r) sc.env sc.Ym λenv Ym=>⟨sc.all,sc.cls.tail,rest,env,Ym,sc.kn⟩
 |[]=>sc
def MD (P:Program)(sc:SC):Option (List Prop×PV):=match sc.cls,sc.rest with
 |_::_,o::_=>match AP sc.all sc.env o with
  |some true=>ZK P sc.env o.op
  |_=>none
 |_,_=>none
def Bg0 (x:PV)(sc:SC):SC:=match sc.rest with
 |o::rest=>Bx4 o.dst (.p x) sc.env sc.Ym λenv Ym=>⟨sc.all,sc.cls.tail,rest,env,Ym,sc.kn⟩
 |[]=>sc
def We (P:Program)(sc:SC):Option BZ9:=match sc.cls,sc.rest with
 |cl::_,o::_=>match AP sc.all sc.env o,o.op with
  |some true,.lookup t m q _=>match Fs sc.Ym (aev sc.env q),aev sc.env m with
   |some (key,Ym),.Yr j=>match A2 Ym j,tk P t with
    |some (.map es),some (.map kt e)=>if (Jv P kt key&&Ac7 cl sc.env (o.dst.getD 0) o.op) then some ⟨kt,e,key,es⟩else none
    |_,_=>none
   |_,_=>none
  |_,_=>none
 |_,_=>none
def AI4 (x:PV)(b:Bool)(sc:SC):SC:=match sc.rest with
 |o::rest=>match o.op with
  |.lookup _ _ q ok=>match Fs sc.Ym (aev sc.env q)with
   |some (_,Ym)=>Bx4 o.dst (ite ok (.tup [.p x,.bool b]) (.p x)) sc.env Ym λenv Ym=>⟨sc.all,sc.cls.tail,rest,env,Ym,sc.kn⟩
   |none=>sc
  |_=>sc
 |[]=>sc
def AQ8 (P:Program)(sc:SC):Option (TypeId×PV×PV×List (PV×PV)):=match sc.cls,sc.rest with
 |.w::_,o::_=>match AP sc.all sc.env o,o.op with
  |some true,.mapUpdate t m q x=>match aev sc.env q,aev sc.env m,Fs sc.Ym (aev sc.env x)with
   |.p key,.Yr j,some (y,Ym)=>match A2 Ym j,tk P t with
    |some (.map es),some (.map kt _)=>if Jv P kt (nP key) then some (kt,nP key,y,es)else none
    |_,_=>none
   |_,_,_=>none
  |_,_=>none
 |_,_=>none
def BO6 (es' : List (PV×PV))(sc:SC):SC:=match sc.rest with
 |o::rest=>match o.op with
  |.mapUpdate _ m _ x=>match aev sc.env m,Fs sc.Ym (aev sc.env x)with
   |.Yr j,some (_,Ym)=>Bx4 o.dst QG sc.env (ins j (.map es') Ym) λenv Ym=>⟨sc.all,sc.cls.tail,rest,env,Ym,sc.kn⟩
   |_,_=>sc
  |_=>sc
 |[]=>sc
end
end
structure KG (S:X0) (P:Program) (F:M3) (g:Cfg):Prop where
 out:G S P F g
structure DG (S:X0) (P:Program) (sc:SC) (k:Env->C7->Prop):Prop where
 out:SG S P sc k
mutual
def idA (a b:AV):List (Nat×Nat):=
 match b with
 |.reg j _=>(match a with | .reg i _=>[(j,i)] | _=>[])
 |.vec j=>(match a with | .vec i=>[(j,i)] | _=>[])
 |.vecp j _=>(match a with | .vecp i _=>[(j,i)] | _=>[])
 |.elt j _ _ _=>(match a with | .elt i _ _ _=>[(j,i)] | _=>[])
 |.Yr j=>(match a with | .Yr i=>[(j,i)] | _=>[])
 |.yf j=>(match a with | .yf i=>[(j,i)] | _=>[])
 |.clo _ x y=>(match a with | .clo _ x' y'=>idL x' x++idL y' y|_=>[])
 |.tup l=>(match a with | .tup l'=>idL l' l|_=>[])
 |.agr l=>(match a with | .agr l'=>idL l' l|_=>[])
 |_=>[]
def idL (a b:List AV):List (Nat×Nat):=
 match b with
 |[]=>[]
 |y::s=>(match a with|x::r=>idA x y++idL r s | []=>[])
end
def idO (o p:Obj):List (Nat×Nat):=
 match p,o with
 |.cells l,.cells l'=>idL l' l
 |.ghost l,.ghost l'=>idL l' l
 |.blk _ j,.blk _ i=>[(j,i)]
 |.fam _ _ j x,.fam _ _ i y=>(j,i)::(match x,y with|some (_,b),some (_,a)=>idA a b|_,_=>[])
 |_,_=>[]
def idC (r q:C7):Nat->List (Nat×Nat)->List (Nat×Nat)->List (Nat×Nat)
 |0,_,l=>l
 |_+1,[],l=>l
 |n+1,(j,i)::w,l=>ite (l.any (λx=>Nat.beq x.1 j)) (idC r q n w l) (idC r q n ((match A2 r i,A2 q j with|some o,some p=>idO o p|_,_=>[])++w) ((j,i)::l))
def idsOf (s t:St):List (Nat×Nat):= t.Ym.foldr (λx l=>ite (l.any (λy=>Nat.beq y.1 x.1)) l (ite ((A2 s.Ym x.1).isSome) ((x.1,x.1)::l) l)) (idC s.Ym t.Ym 300 ((t.env.flatMap λx=>idA (get s.env x.1) x.2)++(t.Ym.filter λx=>Nat.blt x.1 1000).map λx=>(x.1,x.1)) [])
abbrev leI (s t:St):Option (List Ys):=leK (idsOf s t) s t
structure KLe (s t:St):Prop where
 out:∃ids,Le ids s t
section
variable {S:X0}{P:Program}{F:M3}{g:Cfg}{pr:Prop}
def kl {s t:St}(h:(leI s t).map (·.map Ys.src)=(leI s t).map (·.map Ys.tgt):=by kernel_rfl)(h1:(leI s t).isSome=true:=by kernel_rfl):KLe s t:=⟨_,kle h h1⟩
def klR {s t:St}(rs:List (Nat×Ys))(a:∀q∈rs,q.2.ok)(h:(leI s t).map (Bx3 (rs.map (·.1)) Ys.src)=(leI s t).map (Bx3 (rs.map (·.1)) Ys.tgt):=by kernel_rfl)
 (b:(leI s t).map (λL=>rs.map λq=>L[q.1]?)=some (rs.map λq=>some q.2):=by kernel_rfl):KLe s t:=⟨_,kleR rs a h b⟩
def O3 (hS:H4 S P)(hc:pr){b:Bool}(ht:b=true->KG S P F (Bf5 (stp P g)))(a:b=false->KG S P F (Bf6 (stp P g)))(hp:pr=D3 (cnd P g):=by kernel_rfl)(hb:At5 (stp P g)=some b:=by kernel_rfl):KG S P F g:=by
 refine⟨?_⟩;replace ht:=λh=>(ht h).out;replace a:=λh=>(a h).out;refine GS hS hc ?_ hp;generalize stp P g=g' at hb ht a;unfold At5 at hb;split at hb
 .split at hb
  .rename_i hc;cases hb;exact BX8 hc ht a
  grind
 grind
def IB (hS:H4 S P)(hc:pr){b:Bool}(ht:b=true->KG S P F (Sa true (stp P g)))(a:b=false->KG S P F (Sa false (stp P g)))(hp:pr=D3 (cnd P g):=by kernel_rfl)(hb:AH7 (stp P g)=some b:=by kernel_rfl):KG S P F g:=by
 refine⟨?_⟩;replace ht:=λh=>(ht h).out;replace a:=λh=>(a h).out;refine GS hS hc ?_ hp;generalize stp P g=g' at hb ht a;unfold AH7 at hb
 repeat' split at hb<;>try contradiction
 grind[Sa,Hn,put,BL6]
def E2 (hS:H4 S P)(ids:List Nat)(hc:pr){fn:FuncId}{args:List AV}{objs objs' : List Obj}{r:AV}{ks:List Bool}(b:Yo S fn args objs r objs' ks)(hk:KG S P F (Bw6 ids ks r objs' (stp P g)))
 (hp:pr=D3 (cnd P g):=by kernel_rfl) (a:AQ4 ids (stp P g)=some (fn,args,objs):=by kernel_rfl) (hn:AQ5 ids ks objs'.length (stp P g)=true:=by kernel_rfl):KG S P F g:=by
 refine⟨?_⟩;replace hk:=hk.out;refine GS hS hc ?_ hp;generalize stp P g=g' at a hn hk;unfold AQ4 at a
 repeat' split at a<;>try contradiction
 grind[Bw6,AQ5,Hn,BL7]
def AI5 (hS:H4 S P)(hc:pr){kt e:TypeId}{key:PV}{es:List (PV×PV)}{x:PV}{b:Bool}{fd:Option PV}(j:find (Lq P kt) key es=some fd)(a:D3 (KU P kt))(hk:KG S P F (Bw8 x b (stp P g)))
 (hp:pr=D3 (cnd P g):=by kernel_rfl) (c:Bw7 P (stp P g)=some ⟨kt,e,key,es⟩:=by kernel_rfl) (hx:AQ6 P e fd=some (x,b):=by kernel_rfl):KG S P F g:=by
 refine⟨?_⟩;replace hk:=hk.out;refine GS hS hc ?_ hp;generalize stp P g=g' at c hk;unfold Bw7 at c
 repeat' split at c<;>try contradiction
 rename_i l f _ _ _ _ _ i hm _ _ _ _ _ m ht d;simp at c;obtain⟨rfl,rfl,rfl,rfl⟩:=c;simp only[Bw8,f,i,Hn]at hk;cases fd with
 |some y=>exact AH5 (fd:=some y) hS l f i hm m ht d j hx a hk
 |none=>exact AH5 (fd:=none) hS l f i hm m ht d j hx a hk
def Bx7 (hS:H4 S P)(hc:pr){kt:TypeId}{key y:PV}{es es' : List (PV×PV)}(d:upd (Lq P kt) key y es=some es')(b:D3 (KU P kt))(hk:KG S P F (updK es' (stp P g)))
 (hp:pr=D3 (cnd P g):=by kernel_rfl) (a:updE P (stp P g)=some (kt,key,y,es):=by kernel_rfl):KG S P F g:=by
 refine⟨?_⟩;replace hk:=hk.out;refine GS hS hc ?_ hp;generalize stp P g=g' at a hk;unfold updE at a
 repeat' split at a<;>try contradiction
 rename_i f i _ _ _ _ _ _ _ h1 j l _ _ _ _ _ m ht c;simp at a;obtain⟨rfl,rfl,rfl,rfl⟩:=a
 grind[updK,Hn,At0]
def Nw (hS:H4 S P)(hc:pr)(st:St->St)(hk:KG S P F (opsS (st (stp P g).st) (stp P g)))(hp:pr=D3 (cnd P g):=by kernel_rfl)(a:Lu (stp P g)=true:=by kernel_rfl)(hle:KLe (stp P g).st (st (stp P g).st):=by exact kl):KG S P F g:=by
 refine⟨?_⟩;replace hk:=hk.out;obtain⟨ids,hle⟩:=hle.out;refine GS hS hc ?_ hp;generalize stp P g=g' at a hle hk;unfold Lu at a;split at a
 .exact Bf4 hS _ ids hle hk
 grind
def Ad7 (hS:H4 S P)(hc:pr)(b:∀s,S.up s (F .normal)->F .normal s)(n:Nat)(s:St->St)
 (h1:∀{M:St->Prop},(∀{g' : Cfg}{pr:Prop},pr->(hp:pr=D3 (cnd P g'):=by kernel_rfl)->(a:stp P g' = .pop .normal (.mid M::(stp P g).k.drop n) (stp P g').st:=by kernel_rfl)->(hle:KLe (stp P g').st (s (stp P g).st):=by exact kl)->KG S P F g')->KG S P F (midC n M (stp P g)))
 (c:KG S P F (.pop .normal ((stp P g).k.drop n) (s (stp P g).st))) (hp:pr=D3 (cnd P g):=by kernel_rfl) (hn:Nat.ble n (stp P g).k.length=true:=by kernel_rfl):KG S P F g:=by
 refine⟨GS hS hc ?_ hp⟩;refine BH3 hS b n (Cn3 hn) (M:=λt=>t=s (stp P g).st) (λt e=>e ▸ c.out) (h1 λhc hp a hle=>⟨GS hS hc ?_ hp⟩).out;obtain⟨_,hle⟩:=hle.out;rw[a];exact hS.le _ _ _ _ hle rfl
def GT (hS:H4 S P)(hc:pr)(c:∀s,S.up s (F .normal)->F .normal s){R A:Type}{f:(A->Option R)->Option R}{k0:A->Option R}{r:R}(h:lt k0 f=some r)(n:Nat)(s:A->St->St)
 (h1:∀{M:St->Prop}(k:A->Option R),(∀{g' : Cfg}{pr:Prop}{a:A},pr->k a=some r->(hp:pr=D3 (cnd P g'):=by kernel_rfl)->(b:stp P g' = .pop .normal (.mid M::(stp P g).k.drop n) (stp P g').st:=by kernel_rfl)->(hle:KLe (stp P g').st (s a (stp P g).st):=by exact kl)->KG S P F g')->f k=some r->KG S P F (midC n M (stp P g)))
 (d:∀a,k0 a=some r->KG S P F (.pop .normal ((stp P g).k.drop n) (s a (stp P g).st))) (hp:pr=D3 (cnd P g):=by kernel_rfl) (hn:Nat.ble n (stp P g).k.length=true:=by kernel_rfl):KG S P F g:=by
 refine⟨GS hS hc ?_ hp⟩;refine BH3 hS c n (Cn3 hn) (M:=λt=>∃a,t=s a (stp P g).st/\k0 a=some r) (λt ⟨a,e,hk⟩=>e ▸ (d a hk).out) (h1 k0 (λhc hk hp b hle=>⟨GS hS hc ?_ hp⟩) h).out;obtain⟨_,hle⟩:=hle.out;rw[b];exact hS.le _ _ _ _ hle ⟨_,rfl,hk⟩
def D6 (hS:H4 S P)(hc:pr){R A:Type}{body:(A->Option R)->A->Option R}{N:Nat}{a0:A}{r:R}(h:N3 N body a0=some r)(s:A->St->St)
 (i:∀{X:Type}{s' : X->St}{J:X->Prop}{m:X->Nat}{n:Nat}(b:A->Option R) (a:A),
  (∀{g' : Cfg}{pr:Prop}{a:A},pr->b a=some r->(hp:pr=D3 (cnd P g'):=by kernel_rfl)->(f:stp P g' = .pop .normal (.lp X s' J m n::(stp P g).k) (stp P g').st:=by kernel_rfl)->(hle:KLe (stp P g').st (s a (stp P g).st):=by exact kl)->KG S P F g') ->
  body b a=some r->KG S P F (.code (Uz (stp P g)) (.lp X s' J m n::(stp P g).k) (s a (stp P g).st))) (hp:pr=D3 (cnd P g):=by kernel_rfl) (hl:JL (stp P g)=true:=by kernel_rfl) (hle:KLe (stp P g).st (s a0 (stp P g).st):=by exact kl):KG S P F g:=by
 refine⟨GS hS hc ?_ hp⟩;rw[XX hl];obtain⟨ids,hle⟩:=hle.out;refine BZ6 hS h (λa=>s a (stp P g).st) ids hle λX s' J m n b a hb c=>(i b a (λhc d hp f hle=>⟨GS hS hc ?_ hp⟩) c).out;obtain⟨_,hle⟩:=hle.out;rw[f];exact hb _ _ _ hle d
def F5 (hS:H4 S P)(hc:pr){R A B:Type}{body:(A->B->Option R)->A->B->Option R}{N:Nat}{a0:A}{b0:B}{r:R}(h:V7 N body a0 b0=some r)(s:A->B->St->St)
 (d:∀{X:Type}{s' : X->St}{J:X->Prop}{m:X->Nat}{n:Nat}(c:A->B->Option R) (a:A) (b:B),
  (∀{g' : Cfg}{pr:Prop}{a:A}{b:B},pr->c a b=some r->(hp:pr=D3 (cnd P g'):=by kernel_rfl)->(o:stp P g' = .pop .normal (.lp X s' J m n::(stp P g).k) (stp P g').st:=by kernel_rfl)->(hle:KLe (stp P g').st (s a b (stp P g).st):=by exact kl)->KG S P F g') ->
  body c a b=some r->KG S P F (.code (Uz (stp P g)) (.lp X s' J m n::(stp P g).k) (s a b (stp P g).st))) (hp:pr=D3 (cnd P g):=by kernel_rfl) (hl:JL (stp P g)=true:=by kernel_rfl) (hle:KLe (stp P g).st (s a0 b0 (stp P g).st):=by exact kl):KG S P F g:=
 D6 hS hc h (λx=>s x.1 x.2) (λc a hb=>d (λa b=>c (a,b)) a.1 a.2 λh1 f i j l=>hb h1 f i j l) hp hl hle
def Nx (hS:H4 S P)(hc:pr){R A B C:Type}{body:(A->B->C->Option R)->A->B->C->Option R}{N:Nat}{a0:A}{b0:B}{c0:C}{r:R}(h:Bf3 N body a0 b0 c0=some r)(s:A->B->C->St->St)
 (f:∀{X:Type}{s' : X->St}{J:X->Prop}{m:X->Nat}{n:Nat}(d:A->B->C->Option R) (a:A) (b:B) (c:C),
  (∀{g' : Cfg}{pr:Prop}{a:A}{b:B}{c:C},pr->d a b c=some r->(hp:pr=D3 (cnd P g'):=by kernel_rfl)->(q:stp P g' = .pop .normal (.lp X s' J m n::(stp P g).k) (stp P g').st:=by kernel_rfl)->(hle:KLe (stp P g').st (s a b c (stp P g).st):=by exact kl)->KG S P F g') ->
  body d a b c=some r->KG S P F (.code (Uz (stp P g)) (.lp X s' J m n::(stp P g).k) (s a b c (stp P g).st))) (hp:pr=D3 (cnd P g):=by kernel_rfl) (hl:JL (stp P g)=true:=by kernel_rfl) (hle:KLe (stp P g).st (s a0 b0 c0 (stp P g).st):=by exact kl):KG S P F g:=
 D6 hS hc h (λx=>s x.1 x.2.1 x.2.2) (λd a hb=>f (λa b c=>d (a,b,c)) a.1 a.2.1 a.2.2 λh1 i j l o=>hb h1 i j l o) hp hl hle
def AI6 (hS:H4 S P)(hc:pr){R A B C D:Type}{body:(A->B->C->D->Option R)->A->B->C->D->Option R}{N:Nat}{a0:A}{b0:B}{c0:C}{d0:D}{r:R}(h:Ba4 N body a0 b0 c0 d0=some r)(s:A->B->C->D->St->St)
 (i:∀{X:Type}{s' : X->St}{J:X->Prop}{m:X->Nat}{n:Nat}(f:A->B->C->D->Option R) (a:A) (b:B) (c:C) (d:D),
  (∀{g' : Cfg}{pr:Prop}{a:A}{b:B}{c:C}{d:D},pr->f a b c d=some r->(hp:pr=D3 (cnd P g'):=by kernel_rfl)->(t:stp P g' = .pop .normal (.lp X s' J m n::(stp P g).k) (stp P g').st:=by kernel_rfl)->(hle:KLe (stp P g').st (s a b c d (stp P g).st):=by exact kl)->KG S P F g') ->
  body f a b c d=some r->KG S P F (.code (Uz (stp P g)) (.lp X s' J m n::(stp P g).k) (s a b c d (stp P g).st))) (hp:pr=D3 (cnd P g):=by kernel_rfl) (hl:JL (stp P g)=true:=by kernel_rfl) (hle:KLe (stp P g).st (s a0 b0 c0 d0 (stp P g).st):=by exact kl):KG S P F g:=
 D6 hS hc h (λx=>s x.1 x.2.1 x.2.2.1 x.2.2.2) (λf a hb=>i (λa b c d=>f (a,b,c,d)) a.1 a.2.1 a.2.2.1 a.2.2.2 λh1 j l o q=>hb h1 j l o q) hp hl hle
def Ca1 (hS:H4 S P)(hc:pr){R A B C D E F' : Type}{body:(A->B->C->D->E->F' -> Option R)->A->B->C->D->E->F' -> Option R}{N:Nat}{a0:A}{b0:B}{c0:C}{d0:D}{e0:E}{f0:F'}{r:R}(h:fix6 N body a0 b0 c0 d0 e0 f0=some r)(s:A->B->C->D->E->F' -> St->St)
 (j:∀{X:Type}{s' : X->St}{J:X->Prop}{m:X->Nat}{n:Nat}(i:A->B->C->D->E->F' -> Option R) (a:A) (b:B) (c:C) (d:D) (e:E) (f:F'),
  (∀{g' : Cfg}{pr:Prop}{a:A}{b:B}{c:C}{d:D}{e:E}{f:F'},pr->i a b c d e f=some r->(hp:pr=D3 (cnd P g'):=by kernel_rfl)->(u:stp P g' = .pop .normal (.lp X s' J m n::(stp P g).k) (stp P g').st:=by kernel_rfl)->(hle:KLe (stp P g').st (s a b c d e f (stp P g).st):=by exact kl)->KG S P F g') ->
  body i a b c d e f=some r->KG S P F (.code (Uz (stp P g)) (.lp X s' J m n::(stp P g).k) (s a b c d e f (stp P g).st))) (hp:pr=D3 (cnd P g):=by kernel_rfl) (hl:JL (stp P g)=true:=by kernel_rfl) (hle:KLe (stp P g).st (s a0 b0 c0 d0 e0 f0 (stp P g).st):=by exact kl):KG S P F g:=
 D6 hS hc h (λx=>s x.1 x.2.1 x.2.2.1 x.2.2.2.1 x.2.2.2.2.1 x.2.2.2.2.2) (λi a hb=>j (λa b c d e f=>i (a,b,c,d,e,f)) a.1 a.2.1 a.2.2.1 a.2.2.2.1 a.2.2.2.2.1 a.2.2.2.2.2 λh1 l o q t=>hb h1 l o q t) hp hl hle
def Bg1 (hS:H4 S P)(hc:pr){n:Nat}{rs:List ResultVar}{Q:ARes->List Obj->List Bool->Prop}{a:AV}{objs:List Obj}(outs:List Nat)(d:Q (.ret a) objs (JE n outs))(hp:pr=D3 (cnd P g):=by kernel_rfl)
 (c:(BW2 (stp P g)).bind (λst=>AQ7 P st rs outs)=some (a,objs):=by kernel_rfl):KG S P (Ft S P n rs Q) g:=by
 refine⟨?_⟩;refine GS hS hc ?_ hp;generalize stp P g=g' at c;obtain⟨st,h1,b⟩:=Cs4.1 c;unfold AQ7 at b
 repeat' split at b<;>try contradiction
 rename_i l hl _ _ _ _ f i j;cases b;unfold BW2 at h1;split at h1
 .cases h1;exact hS.refl _ _ (by grind)
 .cases h1;exact hS.refl _ _ (by grind)
 grind
def J8 (hS:H4 S P)(hc:pr){n:Nat}{rs:List ResultVar}{Q:ARes->List Obj->List Bool->Prop}{a:AV}{objs:List Obj}(st:St)(outs:List Nat)(f:Q (.ret a) objs (JE n outs))(hp:pr=D3 (cnd P g):=by kernel_rfl)
 (c:(BW2 (stp P g)).isSome=true:=by kernel_rfl) (hle:KLe (stp P g).st st:=by exact kl) (d:AQ7 P st rs outs=some (a,objs):=by kernel_rfl):KG S P (Ft S P n rs Q) g:=by
 refine⟨?_⟩;obtain⟨ids,hle⟩:=hle.out;refine GS hS hc ?_ hp;generalize stp P g=g' at c hle;have b:=d;unfold AQ7 at b;split at b
 .rename_i l hl;split at b
  .rename_i d i;split at b
   .rename_i j;cases b;unfold BW2 at c;split at c
    .exact hS.le ids _ _ _ hle (by grind)
    .exact hS.le ids _ _ _ hle (by grind)
    grind
   grind
  grind
 grind
def A1 (hS:H4 S P){f:FuncId}{fn:Func}{args:List AV}{objs objs' : List Obj}{ks:List Bool}{r:AV}(c:P.funcs[f]? = some fn)
 (h:KG S P (Ft S P objs.length fn.results.toList λres o k=>res=.ret r/\o=objs' /\ k=ks) (.code (fn.body.getD .skip) [] { env:=Af5 args,Ym:=Yn objs }))
 (hc:fn.body.isSome=true:=by kernel_rfl) (hn:Nat.ble args.length fn.ntmps=true:=by kernel_rfl) (d:Nat.blt objs.length 1000=true:=by kernel_rfl)
 (a:Ca fn.ntmps (fn.body.getD .skip)=true:=by kernel_rfl) (b:(fn.name == "runtime.NumGoroutine")=false:=by kernel_rfl):Yo S f args objs r objs' ks:=BO3 hS c h.out hc hn d a b
def Gh (hS:H4 S P)(hc:pr)(h:DG S P (JM (stp P g)) λenv Ym=>KG S P F (.pop .normal (stp P g).k ⟨env,Ym⟩))(hp:pr=D3 (cnd P g):=by kernel_rfl)(c:Ee (stp P g)=true:=by kernel_rfl)(a:P.follows .mixedOrders=true:=by kernel_rfl)
 (b:PL (JM (stp P g)).all (JM (stp P g)).cls=true:=by kernel_rfl):KG S P F g:=by
 have e:(λenv Ym=>KG S P F (.pop .normal (stp P g).k ⟨env,Ym⟩))=λenv Ym=>G S P F (.pop .normal (stp P g).k ⟨env,Ym⟩):=by funext env Ym;exact propext ⟨λh=>h.out,λh=>⟨h⟩⟩
 rw[e]at h;exact⟨BO4 hS hc h.out hp c a b⟩
section
variable {sc:SC}{k:Env->C7->Prop}
def D1 (hc:pr)(h:k (DB P sc).env (DB P sc).Ym)(hp:pr=D3 (Wa P sc):=by kernel_rfl)(a:(DB P sc).rest.isEmpty=true:=by kernel_rfl):DG S P sc k:=⟨C_end hc h hp a⟩
def Yb (hc:pr){b:Bool}(ht:b=true->DG S P (Sd true (DB P sc)) k)(a:b=false->DG S P (Sd false (DB P sc)) k)(hp:pr=D3 (Wa P sc):=by kernel_rfl)(hb:XZ (DB P sc)=some b:=by kernel_rfl):DG S P sc k:=by
 refine⟨?_⟩;replace ht:=λh=>(ht h).out;replace a:=λh=>(a h).out;refine Bf7 hc ?_ hp;generalize DB P sc=s at hb ht a;obtain⟨all,cls,rest,env,Ym,kn⟩:=s;cases rest with
 |nil=>grind[XZ]
 |cons o rest=>
  simp only[XZ]at hb
  repeat' split at hb<;>try contradiction
  rename_i j w g _ d i _ b' c f;simp at hb;subst hb;simp only[Sd,g,i,GZ]at ht a;cases b' with
  |true=>have:=ht rfl;rwa [XY f c (by simp)]at this
  |false=>have:=a rfl;rwa [XY f c (by simp)]at this
def Ha (ids:List Nat)(hc:pr){fn:FuncId}{args:List AV}{objs objs' : List Obj}{r:AV}{ks:List Bool}(u:Yo S fn args objs r objs' ks)(hk:DG S P (Wd ids ks r objs' (DB P sc)) k)
 (hp:pr=D3 (Wa P sc):=by kernel_rfl) (t:Wb ids (DB P sc)=some (fn,args,objs):=by kernel_rfl) (hn:Wc ids ks objs'.length (DB P sc)=true:=by kernel_rfl):DG S P sc k:=by
 refine⟨?_⟩;replace hk:=hk.out;refine Bf7 hc ?_ hp;generalize DB P sc=s at t hn hk;obtain⟨all,cls,rest,env,Ym,kn⟩:=s;cases rest with
 |nil=>grind[Wb]
 |cons o rest=>
  simp only[Wb]at t
  repeat' split at t<;>try contradiction
  rename_i c v f _ _ g _ _ _ ha _ _ _ hw _ _ _ _ x i d;cases t;simp at d;cases cls with
  |nil=>grind[Wc]
  |cons cl cls=>
   cases cl with
   |w=>simp only[Wc,f,ha]at hn;simp only[Wd,f,ha,Gg,Co6]at hk;exact Be9 ids (.inl rfl) v f g ha hw x i u d.1 d.2 hn hk
   |b js=>simp only[Wc,f,ha,Ci6,List.isEmpty_iff]at hn;obtain⟨⟨j,l⟩,n,m⟩:=hn;subst l;simp only[Wd,f,ha,Gg,Co6]at hk;refine Be9 [] (.inr ⟨js,rfl,λq y=>?_⟩) v f g ha hw x i u d.1 d.2 m hk;rw[KZ (by grind)];exact AI1 j ha q y
   |a js=>simp only[Wc,f,ha,Ci6,List.isEmpty_iff]at hn;obtain⟨⟨j,l⟩,n,m⟩:=hn;subst l;simp only[Wd,f,ha,Gg,Co6]at hk;cases i;exact BO5 v f g j ha hw x u n m hk
   |_=>simp[Wc]at hn
def PO (hc:pr){fn:FuncId}{args:List AV}{r:AV}(f:Yo S fn args [] r [] [])(hk:DG S P (Bf9 r (DB P sc)) k)(hp:pr=D3 (Wa P sc):=by kernel_rfl)(a:AI3 (DB P sc)=some (fn,args):=by kernel_rfl)(hn:AI2 (DB P sc)=true:=by kernel_rfl):DG S P sc k:=by
 refine⟨?_⟩;replace hk:=hk.out;refine Bf7 hc ?_ hp;generalize DB P sc=s at a hn hk;obtain⟨all,cls,rest,env,Ym,kn⟩:=s;cases rest with
 |nil=>grind[AI3]
 |cons o rest=>
  cases cls with
  |nil=>grind[AI2]
  |cons cl cls=>
   simp only[AI3]at a
   repeat' split at a<;>try contradiction
   rename_i c g d _ _ b _ _ _ hw _ _ i;cases a;simp only[AI2,d]at hn;simp only[Bf9,Gg,Co6]at hk;exact BZ3 g d b hn hw i f hk
def O6 (hc:pr){x:PV}(hk:DG S P (Bg0 x (DB P sc)) k)(hp:pr=D3 (Wa P sc):=by kernel_rfl)(b:(MD P (DB P sc)).map (·.2)=some x:=by kernel_rfl)(a:((MD P (DB P sc)).map λq=>D3 q.1)=some (true=true):=by kernel_rfl):DG S P sc k:=by
 refine⟨?_⟩;replace hk:=hk.out;refine Bf7 hc ?_ hp;generalize DB P sc=s at b a hk;obtain⟨all,cls,rest,env,Ym,kn⟩:=s;cases rest with
 |nil=>cases cls<;>simp[MD]at b
 |cons o rest=>
  cases cls with
  |nil=>grind[MD]
  |cons cl cls=>
   cases d:AP all env o with
   |none=>grind[MD]
   |some bb=>
    cases bb with
    |false=>grind[MD]
    |true=>
     simp only[MD,d]at b a;cases ha:ZK P env o.op with
     |none=>rw[ha]at b;grind
     |some q=>obtain⟨c,y⟩:=q;rw[ha]at b a;simp only[Cj4,Ci3]at b a;subst b;simp only[Bg0,Gg,Co6]at hk;exact Bv9 d ha (by rw[a];simp) hk
def AI7 (hc:pr){kt e:TypeId}{key:PV}{es:List (PV×PV)}{x:PV}{b:Bool}{fd:Option PV}(j:find (Lq P kt) key es=some fd)(f:D3 (KU P kt))(hk:DG S P (AI4 x b (DB P sc)) k)
 (hp:pr=D3 (Wa P sc):=by kernel_rfl) (c:We P (DB P sc)=some ⟨kt,e,key,es⟩:=by kernel_rfl) (hx:AQ6 P e fd=some (x,b):=by kernel_rfl):DG S P sc k:=by
 refine⟨?_⟩;replace hk:=hk.out;refine Bf7 hc ?_ hp;generalize DB P sc=s at c hk;obtain⟨all,cls,rest,env,Ym,kn⟩:=s;cases rest with
 |nil=>cases cls<;>simp[We]at c
 |cons o rest=>
  cases cls with
  |nil=>grind[We]
  |cons cl cls=>
   simp only[We]at c
   repeat' split at c<;>try contradiction
   rename_i l d _ _ _ _ _ g hm _ _ _ _ _ m ht a;simp at c;obtain⟨rfl,rfl,rfl,rfl⟩:=c;simp at a;simp only[AI4,d,g,Gg,Co6]at hk;have i:=a.2;simp only[d]at i;cases fd with
   |some y=>exact AH6 (fd:=some y) l d g hm m ht a.1 j hx f (by rw[d];omega) hk
   |none=>exact AH6 (fd:=none) l d g hm m ht a.1 j hx f (by rw[d];omega) hk
def Bx8 (hc:pr){kt:TypeId}{key y:PV}{es es' : List (PV×PV)}(i:upd (Lq P kt) key y es=some es')(b:D3 (KU P kt))(hk:DG S P (BO6 es' (DB P sc)) k)
 (hp:pr=D3 (Wa P sc):=by kernel_rfl) (a:AQ8 P (DB P sc)=some (kt,key,y,es):=by kernel_rfl):DG S P sc k:=by
 refine⟨?_⟩;replace hk:=hk.out;refine Bf7 hc ?_ hp;generalize DB P sc=s at a hk;obtain⟨all,cls,rest,env,Ym,kn⟩:=s;cases rest with
 |nil=>grind[AQ8]
 |cons o rest=>
  cases cls with
  |nil=>grind[AQ8]
  |cons cl cls=>
   cases cl with
   |w=>
    simp only[AQ8]at a
    repeat' split at a<;>try contradiction
    rename_i j d _ _ _ _ _ _ _ h1 f g _ _ _ _ _ l ht c;simp at a;obtain⟨rfl,rfl,rfl,rfl⟩:=a;simp only[BO6,d,f,g,Gg,Co6]at hk;exact At4 j d h1 g f l ht c i b hk
   |_=>simp[AQ8]at a
end
end
section
variable {S:X0}{P:Program}{F:M3}{g:Cfg}{pr:Prop}
def yldE:Cfg->Option (List PV×List (List PV))
 |.ops all (o::_) _ st=>match Cb all st.env o,o.op with
  |some true,.call c=>match c.callee with
   |.value f=>match aev st.env f,HB st.Ym (c.args.toList.map (aev st.env))with
    |.yf j,some (xs,Ym)=>match A2 Ym j with
     |some (.yld (ys::rest) true)=>if Ir j Ym=true/\xs.length=ys.length then some (xs,ys::rest)else none
     |_=>none
    |_,_=>none
   |_=>none
  |_,_=>none
 |_=>none
def Ca2 (b:Bool)(rest:List (List PV)):Cfg->Cfg
 |.ops all (o::ops) K st=>match o.op with
  |.call c=>match c.callee with
   |.value f=>match aev st.env f,HB st.Ym (c.args.toList.map (aev st.env))with
    |.yf j,some (_,Ym)=>AQ3 o.dst (.p (.bb b)) st.env (ins j (.yld rest b) Ym) λst=>.ops all ops K st
    |_,_=>.ops all (o::ops) K st
   |_=>.ops all (o::ops) K st
  |_=>.ops all (o::ops) K st
 |g=>g
theorem Ad8:∀l:List PV,BL2 l l
 |[]=>trivial
 |x::l=>⟨.inl rfl,Ad8 l⟩
def BO7 (hS:H4 S P)(hc:pr){ys:List PV}{rest:List (List PV)}(ht:G S P F (Ca2 true rest (stp P g)))(b:G S P F (Ca2 false [] (stp P g)))(hp:pr=D3 (cnd P g))(a:yldE (stp P g)=some (ys,ys::rest)):G S P F g:=by
 refine GS hS hc ?_ hp;generalize stp P g=g' at a ht b;unfold yldE at a
 repeat' split at a<;>try contradiction
 rename_i f i _ _ c _ _ _ _ _ hy j _ _ _ l d;simp at a;obtain⟨rfl,rfl,rfl⟩:=a
 grind[Ca2,Hn,BN7,Ad8]
def Ef (hS:H4 S P)(hc:pr){ys:List PV}{rest:List (List PV)}(ht:KG S P F (Ca2 true rest (stp P g)))(a:KG S P F (Ca2 false [] (stp P g)))(hp:pr=D3 (cnd P g):=by kernel_rfl)(b:yldE (stp P g)=some (ys,ys::rest):=by kernel_rfl):KG S P F g:=
 ⟨BO7 hS hc ht.out a.out hp b⟩
def BN {T:Type}(x:T)(o:Option (List T)):Option (List T):=o.map (x :: ·)
def OX {T:Type}{x:T}{o:Option (List T)}{L:List T}(h:BN x o=some L):∃L',L=x::L' /\ o=some L':=by
 grind[BN,Option.map_eq_some_iff]
def Eg (hS:H4 S P)(hc:pr){R A:Type}{body:(A->Option R)->A->Option R}{N:Nat}{a0:A}{r0:R}(h:N3 N body a0=some r0)(s:A->R->St)
 (f:∀{X:Type}{s' : X->St}{J:X->Prop}{m:X->Nat}{n:Nat}(b:A->Option R) (a:A) (r:R),
  (∀{g' : Cfg}{pr:Prop}{a:A}{r:R},pr->b a=some r->(hp:pr=D3 (cnd P g'):=by kernel_rfl)->(d:stp P g' = .pop .normal (.lp X s' J m n::(stp P g).k) (stp P g').st:=by kernel_rfl)->(hle:KLe (stp P g').st (s a r):=by exact kl)->KG S P F g') ->
  body b a=some r->KG S P F (.code (Uz (stp P g)) (.lp X s' J m n::(stp P g).k) (s a r))) (hp:pr=D3 (cnd P g):=by kernel_rfl) (hl:JL (stp P g)=true:=by kernel_rfl) (hle:KLe (stp P g).st (s a0 r0):=by exact kl):KG S P F g:=by
 refine⟨GS hS hc ?_ hp⟩;rw[XX hl];obtain⟨ids,hle⟩:=hle.out;refine AE9 hS (X:=Nat×A×R) (λx=>s x.2.1 x.2.2) (λx=>N3 x.1 body x.2.1=some x.2.2) (λx=>x.1) (N,a0,r0) ids hle h ?_;rintro⟨n,a,r⟩ hx;cases n with
 |zero=>cases hx
 |succ n=>exact (f (N3 n body) a r (λ{_ _ a r} hc c hp d hle=>⟨GS hS hc (by obtain⟨_,hle⟩:=hle.out;rw[d];exact Aq7 hS (n,a,r) _ hle c (Cx7 n)) hp⟩) hx).out
def Yc (hS:H4 S P)(hc:pr){R A B:Type}{body:(A->B->Option R)->A->B->Option R}{N:Nat}{a0:A}{b0:B}{r0:R}(h:V7 N body a0 b0=some r0)(s:A->B->R->St)
 (d:∀{X:Type}{s' : X->St}{J:X->Prop}{m:X->Nat}{n:Nat}(c:A->B->Option R) (a:A) (b:B) (r:R),
  (∀{g' : Cfg}{pr:Prop}{a:A}{b:B}{r:R},pr->c a b=some r->(hp:pr=D3 (cnd P g'):=by kernel_rfl)->(o:stp P g' = .pop .normal (.lp X s' J m n::(stp P g).k) (stp P g').st:=by kernel_rfl)->(hle:KLe (stp P g').st (s a b r):=by exact kl)->KG S P F g') ->
  body c a b=some r->KG S P F (.code (Uz (stp P g)) (.lp X s' J m n::(stp P g).k) (s a b r))) (hp:pr=D3 (cnd P g):=by kernel_rfl) (hl:JL (stp P g)=true:=by kernel_rfl) (hle:KLe (stp P g).st (s a0 b0 r0):=by exact kl):KG S P F g:=
 Eg hS hc h (λx r=>s x.1 x.2 r) (λc a r hb=>d (λa b=>c (a,b)) a.1 a.2 r λh1 f i j l=>hb h1 f i j l) hp hl hle
def FE (hS:H4 S P){f:FuncId}{fn:Func}{first caps:List AV}{objs:List Obj}{L:List (List PV)}(i:P.funcs[f]? = some fn)
 (h:KG S P (Ft S P (objs++[Obj.yld L true]).length fn.results.toList λr objs' ks=>∃b,objs'[objs.length]? = some (.yld [] b)/\ks[objs.length]? = some true/\∃a,r=.ret a) (.code (fn.body.getD .skip) [] { env:=Af5 (first ++ .yf objs.length::caps),Ym:=Yn (objs++[Obj.yld L true]) }))
 (hc:fn.body.isSome=true:=by kernel_rfl) (hn:Nat.ble (first ++ .yf objs.length::caps).length fn.ntmps=true:=by kernel_rfl) (j:Nat.blt (objs++[Obj.yld L true]).length 1000=true:=by kernel_rfl)
 (d:Ca fn.ntmps (fn.body.getD .skip)=true:=by kernel_rfl) (g:(fn.name == "runtime.NumGoroutine")=false:=by kernel_rfl):Gf S f first caps objs L:=by
 obtain⟨code,c⟩:=Cj7.1 hc;rw[c,Cj0]at d h;exact OV hS i c (Cn3 hn) (by simp_all) rfl d g h.out
def Ad9 (P:Program)(ids:List Nat):Cfg->Option (FuncId×List AV×List AV×List Obj)
 |.code (.rangeFunc op _ _ _) _ st=>match Hl st.env op with
  |some (f,first,caps)=>match P.funcs[f]?,N2 ids st.Ym ids,Fl ids first,Fl ids caps with
   |some fn,some objs,some as,some bs=>if (fn.body.isSome && !(fn.name == "runtime.NumGoroutine")&&GV objs&&I6 ids&&(objs.length==ids.length)&&Nat.blt ids.length 1000) then some (f,as,bs,objs)else none
   |_,_,_,_=>none
  |none=>none
 |_=>none
def LK:Cfg->Array Tmp
 |.code (.rangeFunc _ ps _ _) _ _=>ps
 |_=>#[]
def Ae0:Cfg->Code
 |.code (.rangeFunc _ _ a _) _ _=>a
 |_=>.skip
def Ae1:Cfg->Code
 |.code (.rangeFunc _ _ _ b) _ _=>b
 |_=>.skip
def Ae2 (ids ts:List Nat)(g:Cfg):St:=⟨AN ts (ts.map (get g.st.env)),M0 ids (ids.map λ_=>false) g.st.Ym⟩
def rst (gh:Nat)(t:St):St:=⟨[],ins gh (.ghost (t.env.map (·.2))) t.Ym⟩
def Ae3 (gh:Nat)(ps:Array Tmp)(ys:List PV)(t:St):St:=⟨Nf ps.toList ys t.env,ins gh (.ghost (t.env.map (·.2))) t.Ym⟩
def exitE:Cfg->Rv
 |.pop e _ _=>e
 |_=>.normal
def BH5:Cfg->Bool
 |.pop .ret [] _=>true
 |.pop (.exit _) [] _=>true
 |_=>false
theorem Bg2 (Ym:C7)(d:Nat)(x:Obj):A2 (ins d x Ym) d=some x:=by
 induction Ym with
 |nil=>simp[ins,A2]
 |cons p r ih=>
  obtain⟨i,b⟩:=p;simp only[ins];split
  .simp[A2]
  split
  all_goals simp_all[A2,Lw]
def JN (gh:Nat)(t:St):A2 (rst gh t).Ym gh=some (.ghost (t.env.map λp=>p.2)):=by grind[rst,Bg2]
def Sf (ids:List Nat):Cfg->Option (FuncId×List AV×List AV×List Obj)
 |.code (.rangeFunc op _ _ _) _ st=>match Hl st.env op with
  |some (f,first,caps)=>match N2 ids st.Ym ids,Fl ids first,Fl ids caps with
   |some objs,some as,some bs=>if (GV objs&&I6 ids&&(objs.length==ids.length)&&Nat.blt ids.length 1000) then some (f,as,bs,objs)else none
   |_,_,_=>none
  |none=>none
 |_=>none
def La {ids:List Nat}{g:Cfg}{q:FuncId×List AV×List AV×List Obj}(h:Ad9 P ids g=some q):Sf ids g=some q/\∃fn,P.funcs[q.1]? = some fn/\fn.body.isSome=true/\(fn.name == "runtime.NumGoroutine")=false:=by
 unfold Ad9 at h
 repeat' split at h<;>try contradiction
 rename_i a _ _ _ _ fn objs' as' bs' h1 b c d f;cases h
 simp_all[Ci6,Ck1,beq_iff_eq,Sf,beq_self_eq_true,Ct9,Kk]
def Rj (hS:H4 S P)(hc:pr){f:FuncId}{as bs:List AV}{objs:List Obj}{R T A:Type}{enc:T->List PV}{L:List T}{mb:(A->Option R)->T->A->Option R}{mk:A->Option R}{a0:A}{r:R}(o:∃fn,P.funcs[f]? = some fn/\fn.body.isSome=true/\(fn.name == "runtime.NumGoroutine")=false)
 (ids ts:List Nat) (gh:Nat) (s:A->St) (h:T2 L mb mk a0=some r) (x:Gf S f as bs objs (L.map enc))
 (i:∀t:T,(enc t).length=(LK (stp P g)).size) (hk:∀a,(s a).env.map (·.1)=ts) (hn:∀a,A2 (s a).Ym gh=none) (m:∀a,(⟨AN ts ((s a).env.map (·.2)),del gh (ins gh (.ghost ((s a).env.map (·.2))) (s a).Ym)⟩:St)=s a)
 (c:∀{next:St->Prop}(t:T) (d:A->Option R) (a:A),
  (∀{g' : Cfg}{pr:Prop}{a:A},pr->d a=some r->(hp:pr=D3 (cnd P g'):=by kernel_rfl)->(b:stp P g' = .pop .normal [] (stp P g').st:=by kernel_rfl)->(hle:KLe (stp P g').st (rst gh (s a)):=by exact kl)->KG S P (Hm S gh ts next (kp S P (stp P g).k F)) g') ->
  mb d t a=some r->KG S P (Dz S P (Ae1 (stp P g)) gh ts next (kp S P (stp P g).k F)) (.code (Ae0 (stp P g)) [] (Ae3 gh (LK (stp P g)) (enc t) (s a))))
 (j:∀a,mk a=some r->KG S P F (.pop .normal (stp P g).k (s a)))
 (hp:pr=D3 (cnd P g):=by kernel_rfl) (b:Sf ids (stp P g)=some (f,as,bs,objs):=by kernel_rfl) (q:Nat.blt gh 1000=true:=by kernel_rfl) (n:A2 (stp P g).st.Ym gh=none:=by kernel_rfl) (u:I6 ts=true:=by kernel_rfl)
 (hle:KLe (Ae2 ids ts (stp P g)) (s a0):=by exact kl):KG S P F g:=by
 refine⟨GS hS hc ?_ hp⟩;generalize stp P g=g1 at i c j b n hle;unfold Sf at b;split at b
 .rename_i op ps asg body K st;split at b
  .rename_i f' first caps v
   split at b
   .rename_i objs' as' bs' y z h4;split at b
    .rename_i w;simp only[Ci3,Cj6]at b;obtain⟨rfl,rfl,rfl,rfl⟩:=b;simp only[Ci6,Ck1,beq_iff_eq]at w;obtain⟨⟨⟨e3,e4⟩,e5⟩,e6⟩:=w;obtain⟨idl,hle⟩:=hle.out;refine BO0 hS ids ts gh s idl h x v o y e3 e4 z h4 e5 q n e6 u i hle hk hn (λt next d a hb hm=>?_) (λa hm=>(j a hm).out);refine (c t d a (λ{_ _ a} hc l hp b hle=>⟨GS hS hc ?_ hp⟩) hm).out;obtain⟨ids',hle⟩:=hle.out;rw[b];have hl:((s a).env.map (·.2)).length=ts.length:=by rw[<- hk a];simp
     refine hb _ (rst gh (s a)) ((s a).env.map λp=>p.2) ids' a hle (JN gh (s a)) hl ?_ (m a) l
     have:=congrArg St.Ym (m a)
     simp only at this;show A2 (del gh (ins gh _ _)) gh=none;rw[this];exact hn a
    cases b
   cases b
  cases b
 cases b
def JO (hS:H4 S P)(hc:pr){f:FuncId}{as bs:List AV}{objs:List Obj}{R T A:Type}{enc:T->List PV}{L:List T}{mb:(A->Option R)->T->A->Option R}{mk:A->Option R}{a0:A}{r:R}
 (ids ts:List Nat) (gh:Nat) (s:A->St) (h:T2 L mb mk a0=some r) (q:Gf S f as bs objs (L.map enc))
 (d:∀t:T,(enc t).length=(LK (stp P g)).size) (hk:∀a,(s a).env.map (·.1)=ts) (hn:∀a,A2 (s a).Ym gh=none) (j:∀a,(⟨AN ts ((s a).env.map (·.2)),del gh (ins gh (.ghost ((s a).env.map (·.2))) (s a).Ym)⟩:St)=s a)
 (b:∀{next:St->Prop}(t:T) (c:A->Option R) (a:A),
  (∀{g' : Cfg}{pr:Prop}{a:A},pr->c a=some r->(hp:pr=D3 (cnd P g'):=by kernel_rfl)->(l:stp P g' = .pop .normal [] (stp P g').st:=by kernel_rfl)->(hle:KLe (stp P g').st (rst gh (s a)):=by exact kl)->KG S P (Hm S gh ts next (kp S P (stp P g).k F)) g') ->
  mb c t a=some r->KG S P (Dz S P (Ae1 (stp P g)) gh ts next (kp S P (stp P g).k F)) (.code (Ae0 (stp P g)) [] (Ae3 gh (LK (stp P g)) (enc t) (s a))))
 (i:∀a,mk a=some r->KG S P F (.pop .normal (stp P g).k (s a)))
 (hp:pr=D3 (cnd P g):=by kernel_rfl) (l:Ad9 P ids (stp P g)=some (f,as,bs,objs):=by kernel_rfl) (m:Nat.blt gh 1000=true:=by kernel_rfl) (n:A2 (stp P g).st.Ym gh=none:=by kernel_rfl) (o:I6 ts=true:=by kernel_rfl)
 (hle:KLe (Ae2 ids ts (stp P g)) (s a0):=by exact kl):KG S P F g:=
 Rj hS hc (La l).2 ids ts gh s h q d hk hn j b i hp (La l).1 m n o hle
def Bg3 (hS:H4 S P)(hc:pr){f:FuncId}{as bs:List AV}{objs:List Obj}{R T A:Type}{enc:T->List PV}{L:List T}{mb:(A->Option R)->T->A->Option R}{mk:A->Option R}{a0:A}{r0:R}(o:∃fn,P.funcs[f]? = some fn/\fn.body.isSome=true/\(fn.name == "runtime.NumGoroutine")=false)
 (ids ts:List Nat) (gh:Nat) (s:A->R->St) (h:T2 L mb mk a0=some r0) (x:Gf S f as bs objs (L.map enc))
 (i:∀t:T,(enc t).length=(LK (stp P g)).size) (hk:∀a r,(s a r).env.map (·.1)=ts) (hn:∀a r,A2 (s a r).Ym gh=none) (m:∀a r,(⟨AN ts ((s a r).env.map (·.2)),del gh (ins gh (.ghost ((s a r).env.map (·.2))) (s a r).Ym)⟩:St)=s a r)
 (c:∀{next:St->Prop}(t:T) (d:A->Option R) (a:A) (r:R),
  (∀{g' : Cfg}{pr:Prop}{a:A}{r:R},pr->d a=some r->(hp:pr=D3 (cnd P g'):=by kernel_rfl)->(b:stp P g' = .pop .normal [] (stp P g').st:=by kernel_rfl)->(hle:KLe (stp P g').st (rst gh (s a r)):=by exact kl)->KG S P (Hm S gh ts next (kp S P (stp P g).k F)) g') ->
  mb d t a=some r->KG S P (Dz S P (Ae1 (stp P g)) gh ts next (kp S P (stp P g).k F)) (.code (Ae0 (stp P g)) [] (Ae3 gh (LK (stp P g)) (enc t) (s a r))))
 (j:∀a r,mk a=some r->KG S P F (.pop .normal (stp P g).k (s a r)))
 (hp:pr=D3 (cnd P g):=by kernel_rfl) (b:Sf ids (stp P g)=some (f,as,bs,objs):=by kernel_rfl) (q:Nat.blt gh 1000=true:=by kernel_rfl) (n:A2 (stp P g).st.Ym gh=none:=by kernel_rfl) (u:I6 ts=true:=by kernel_rfl)
 (hle:KLe (Ae2 ids ts (stp P g)) (s a0 r0):=by exact kl):KG S P F g:=by
 refine⟨GS hS hc ?_ hp⟩;generalize stp P g=g1 at i c j b n hle;unfold Sf at b;split at b
 .rename_i op ps asg body K st;split at b
  .rename_i f' first caps v
   split at b
   .rename_i objs' as' bs' y z h4;split at b
    .rename_i w;simp only[Ci3,Cj6]at b;obtain⟨rfl,rfl,rfl,rfl⟩:=b;simp only[Ci6,Ck1,beq_iff_eq]at w;obtain⟨⟨⟨e3,e4⟩,e5⟩,e6⟩:=w;obtain⟨idl,hle⟩:=hle.out;refine Bw5 hS ids ts gh s idl h x v o y e3 e4 z h4 e5 q n e6 u i hle hk hn (λt next d a r hb hm=>?_) (λa r hm=>(j a r hm).out);refine (c t d a r (λ{_ _ a r} hc l hp b hle=>⟨GS hS hc ?_ hp⟩) hm).out;obtain⟨ids',hle⟩:=hle.out;rw[b];have hl:((s a r).env.map (·.2)).length=ts.length:=by rw[<- hk a r];simp
     refine hb _ (rst gh (s a r)) ((s a r).env.map λp=>p.2) ids' a r hle (JN gh (s a r)) hl ?_ (m a r) l
     have:=congrArg St.Ym (m a r)
     simp only at this;show A2 (del gh (ins gh _ _)) gh=none;rw[this];exact hn a r
    cases b
   cases b
  cases b
 cases b
def Bx9 (hS:H4 S P)(hc:pr){f:FuncId}{as bs:List AV}{objs:List Obj}{R T A:Type}{enc:T->List PV}{L:List T}{mb:(A->Option R)->T->A->Option R}{mk:A->Option R}{a0:A}{r0:R}
 (ids ts:List Nat) (gh:Nat) (s:A->R->St) (h:T2 L mb mk a0=some r0) (q:Gf S f as bs objs (L.map enc))
 (d:∀t:T,(enc t).length=(LK (stp P g)).size) (hk:∀a r,(s a r).env.map (·.1)=ts) (hn:∀a r,A2 (s a r).Ym gh=none) (j:∀a r,(⟨AN ts ((s a r).env.map (·.2)),del gh (ins gh (.ghost ((s a r).env.map (·.2))) (s a r).Ym)⟩:St)=s a r)
 (b:∀{next:St->Prop}(t:T) (c:A->Option R) (a:A) (r:R),
  (∀{g' : Cfg}{pr:Prop}{a:A}{r:R},pr->c a=some r->(hp:pr=D3 (cnd P g'):=by kernel_rfl)->(l:stp P g' = .pop .normal [] (stp P g').st:=by kernel_rfl)->(hle:KLe (stp P g').st (rst gh (s a r)):=by exact kl)->KG S P (Hm S gh ts next (kp S P (stp P g).k F)) g') ->
  mb c t a=some r->KG S P (Dz S P (Ae1 (stp P g)) gh ts next (kp S P (stp P g).k F)) (.code (Ae0 (stp P g)) [] (Ae3 gh (LK (stp P g)) (enc t) (s a r))))
 (i:∀a r,mk a=some r->KG S P F (.pop .normal (stp P g).k (s a r)))
 (hp:pr=D3 (cnd P g):=by kernel_rfl) (l:Ad9 P ids (stp P g)=some (f,as,bs,objs):=by kernel_rfl) (m:Nat.blt gh 1000=true:=by kernel_rfl) (n:A2 (stp P g).st.Ym gh=none:=by kernel_rfl) (o:I6 ts=true:=by kernel_rfl)
 (hle:KLe (Ae2 ids ts (stp P g)) (s a0 r0):=by exact kl):KG S P F g:=
 Bg3 hS hc (La l).2 ids ts gh s h q d hk hn j b i hp (La l).1 m n o hle
def Ch0 (t:Nat)(a:AV):Cfg->Cfg
 |.ops all rest K st=>mkO (ins t a st.env) st.Ym λenv Ym=>.ops all rest K ⟨env,Ym⟩
 |g=>g
def Ae4 (hS:H4 S P)(hc:pr)(t:Nat){k n:Nat}{f:Nat->List PV}(b:n=0->KG S P F (Ch0 t (.p (.v (.slice none 0 0))) (stp P g)))(h1:KG S P F (Ch0 t (.p (.sl true k n f)) (stp P g)))
 (hp:pr=D3 (cnd P g):=by kernel_rfl) (a:Lu (stp P g)=true:=by kernel_rfl) (c:get (stp P g).st.env t=.p (.sl false k n f):=by kernel_rfl):KG S P F g:=by
 refine⟨GS hS hc ?_ hp⟩;generalize stp P g=g1 at b h1 a c;unfold Lu at a;split at a
 .refine BY0 hS t c (λh=>?_) ?_
  .have:=(b h).out
   grind[Ch0,GZ]
  have:=h1.out
  grind[Ch0,GZ]
 grind
def frzC (j:Nat)(ps:List PV):Cfg->Cfg
 |.code c K st=>mkO (Br7 j ps st.env) (ins j .dead st.Ym) λenv Ym=>.code c K ⟨env,Ym⟩
 |g=>g
def Yd (hS:H4 S P)(hc:pr)(j:Nat)(ps:List PV)(hk:KG S P F (frzC j ps (stp P g)))(hp:pr=D3 (cnd P g):=by kernel_rfl)(c:Ee (stp P g)=true:=by kernel_rfl)(b:P.follows .mixedOrders=true:=by kernel_rfl)
 (a:JC (JM (stp P g)).all=true:=by kernel_rfl) (f:A2 (stp P g).st.Ym j=some (.cells (ps.map .p)):=by kernel_rfl):KG S P F g:=by
 refine⟨GS hS hc ?_ hp⟩;generalize stp P g=g1 at hk c a f;unfold Ee at c;split at c
 .rename_i id ops K st;have hk:=hk.out;simp only[frzC,GZ]at hk;show awp S P (.region id ops true) (kp S P K F) st;simp only[awp,Kk];have d : Aq5 S P ops.toList (kp S P K F) ⟨Br7 j ps st.env,ins j .dead st.Ym⟩:=by
   have:awp S P (.region id ops true) (kp S P K F) ⟨Br7 j ps st.env,ins j .dead st.Ym⟩:=hk
   simp_all[awp,Kk]
  exact AH4 hS b a (hS.frz st j ps _ f d)
 grind
def clsN (js:List Nat):Nat->List Oper->List Cls
 |_,[]=>[]
 |i,o::r=>(ite (js.contains i) (.n) (ite (js.contains (i+1000)) (.w) (Cg8 o.op)))::clsN js (i+1) r
def Ye (js:List Nat):Cfg->SC
 |.code (.region _ ops true) _ st=>⟨ops.toList,clsN js 0 ops.toList,ops.toList,st.env,st.Ym,[]⟩
 |_=>⟨[],[],[],[],[],[]⟩
def B5 (hS:H4 S P)(hc:pr)(js:List Nat)(h:DG S P (Ye js (stp P g)) λenv Ym=>KG S P F (.pop .normal (stp P g).k ⟨env,Ym⟩))(hp:pr=D3 (cnd P g):=by kernel_rfl)(c:Ee (stp P g)=true:=by kernel_rfl)(a:P.follows .mixedOrders=true:=by kernel_rfl)
 (b:PL (Ye js (stp P g)).all (Ye js (stp P g)).cls=true:=by kernel_rfl):KG S P F g:=by
 have e:(λenv Ym=>KG S P F (.pop .normal (stp P g).k ⟨env,Ym⟩))=λenv Ym=>G S P F (.pop .normal (stp P g).k ⟨env,Ym⟩):=by funext env Ym;exact propext ⟨λh=>h.out,λh=>⟨h⟩⟩
 rw[e]at h;refine⟨GS hS hc ?_ hp⟩;have h:=h.out;generalize stp P g=g' at c b h;unfold Ee at c;split at c
 .exact AG8 hS _ a b h
 grind
def Ch1 (ls:List (Nat×Cls)):Nat->List Oper->List Cls
 |_,[]=>[]
 |i,o::r=>(match ls.find? (λq=>q.1==i)with|some q=>q.2|none=>Cg8 o.op)::Ch1 ls (i+1) r
def Yf (ls:List (Nat×Cls)):Cfg->SC
 |.code (.region _ ops true) _ st=>⟨ops.toList,Ch1 ls 0 ops.toList,ops.toList,st.env,st.Ym,[]⟩
 |_=>⟨[],[],[],[],[],[]⟩
def G6 (hS:H4 S P)(hc:pr)(ls:List (Nat×Cls))(h:DG S P (Yf ls (stp P g)) λenv Ym=>KG S P F (.pop .normal (stp P g).k ⟨env,Ym⟩))(hp:pr=D3 (cnd P g):=by kernel_rfl)(c:Ee (stp P g)=true:=by kernel_rfl)(a:P.follows .mixedOrders=true:=by kernel_rfl)
 (b:PL (Yf ls (stp P g)).all (Yf ls (stp P g)).cls=true:=by kernel_rfl):KG S P F g:=by
 have e:(λenv Ym=>KG S P F (.pop .normal (stp P g).k ⟨env,Ym⟩))=λenv Ym=>G S P F (.pop .normal (stp P g).k ⟨env,Ym⟩):=by funext env Ym;exact propext ⟨λh=>h.out,λh=>⟨h⟩⟩
 rw[e]at h;refine⟨GS hS hc ?_ hp⟩;have h:=h.out;generalize stp P g=g' at c b h;unfold Ee at c;split at c
 .exact AG8 hS _ a b h
 grind
def Ny (hS:H4 S P)(hc:pr){body:Code}{gh:Nat}{ts:List Nat}{next:St->Prop}{Q:M3}(h:KG S P (Hm S gh ts next Q) (.code body [] (stp P g).st))(hp:pr=D3 (cnd P g):=by kernel_rfl)(a:stp P g=.pop .normal [] (stp P g).st:=by kernel_rfl):KG S P (Dz S P body gh ts next Q) g:=by refine⟨GS hS hc ?_ hp⟩;rw[a];exact G_asg hS h.out
def Yg (hS:H4 S P)(hc:pr){K:List It}{gh:Nat}{ts:List Nat}{next:St->Prop}(t:St)(hk:KG S P F (.pop (exitE (stp P g)) K t))(hp:pr=D3 (cnd P g):=by kernel_rfl)(a:BH5 (stp P g)=true:=by kernel_rfl)
 (hle:KLe (stp P g).st (rst gh t):=by exact kl) (h1:t.env.map (·.1)=ts:=by kernel_rfl) (d:A2 t.Ym gh=none:=by kernel_rfl) (b:(⟨AN ts (t.env.map (·.2)),del gh (ins gh (.ghost (t.env.map (·.2))) t.Ym)⟩:St)=t:=by kernel_rfl):KG S P (Hm S gh ts next (kp S P K F)) g:=by
 refine⟨GS hS hc ?_ hp⟩;obtain⟨ids,hle⟩:=hle.out;generalize stp P g=g1 at hk a hle;have hl:(t.env.map (·.2)).length=ts.length:=by rw[<- h1];simp
 have c:A2 (del gh (ins gh (.ghost (t.env.map (·.2))) t.Ym)) gh=none:=by
  have:=congrArg St.Ym b
  grind
 unfold BH5 at a;split at a
 .exact AH2 hS Ly (rst gh t) ids hle (JN gh t) hl c (by rw[show (⟨AN ts (t.env.map (·.2)),del gh (rst gh t).Ym⟩:St)=t from b];exact hk.out)
 .exact AH2 hS Ly (rst gh t) ids hle (JN gh t) hl c (by rw[show (⟨AN ts (t.env.map (·.2)),del gh (rst gh t).Ym⟩:St)=t from b];exact hk.out)
 grind
end
section
variable {S:X0}{P:Program}{F:M3}{g:Cfg}{pr:Prop}
def By0 (j:Nat)(ps:List PV):Cfg->Cfg
 |.ops all rest K st=>mkO (Br7 j ps st.env) (ins j .dead st.Ym) λenv Ym=>.ops all rest K ⟨env,Ym⟩
 |g=>g
def K_frzO (hS:H4 S P)(hc:pr)(j:Nat)(ps:List PV)(hk:KG S P F (By0 j ps (stp P g)))(hp:pr=D3 (cnd P g):=by kernel_rfl)(a:Lu (stp P g)=true:=by kernel_rfl)
 (b:A2 (stp P g).st.Ym j=some (.cells (ps.map .p)):=by kernel_rfl):KG S P F g:=by
 refine⟨GS hS hc ?_ hp⟩;generalize stp P g=g1 at hk a b;unfold Lu at a;split at a
 .have hk:=hk.out;simp only[By0,GZ]at hk;exact Aa0 hS (hS.frz _ j ps _ b hk)
 grind
def BH6 (ids:List Nat):Cfg->Option (FuncId×List AV×List Obj)
 |.ops all (o::_) _ st=>match Cb all st.env o,o.op with
  |some true,.call c=>match c.callee with
   |.value f=>match ZM st.env f (c.args.toList.map (aev st.env))with
    |some (fn,as')=>match Fl ids as',N2 ids st.Ym ids with
     |some a,some ob=>if I6 ids&&GV ob then some (fn,a,ob)else none
     |_,_=>none
    |none=>none
   |_=>none
  |_,_=>none
 |_=>none
def BH7 (ids:List Nat)(ks:List Bool)(n:Nat):Cfg->Bool
 |.ops _ (o::_) _ st=>Z7 st.Ym ids ks (o.dst.getD 0) n
 |_=>false
def BH8 (ids:List Nat)(ks:List Bool)(r:AV)(objs' : List Obj):Cfg->Cfg
 |.ops all (o::rest) K st=>AQ3 o.dst (unA (I3 (o.dst.getD 0) ids ks objs'.length) r) st.env
  (back (I3 (o.dst.getD 0) ids ks objs'.length) (I3 (o.dst.getD 0) ids ks objs'.length) objs' (M0 ids ks st.Ym)) λst=>.ops all rest K st
 |g=>g
def BO8 (hS:H4 S P)(ids:List Nat)(hc:pr){fn:FuncId}{args:List AV}{objs objs' : List Obj}{r:AV}{ks:List Bool}(f:Yo S fn args objs r objs' ks)(hk:KG S P F (BH8 ids ks r objs' (stp P g)))
 (hp:pr=D3 (cnd P g):=by kernel_rfl) (a:BH6 ids (stp P g)=some (fn,args,objs):=by kernel_rfl) (hn:BH7 ids ks objs'.length (stp P g)=true:=by kernel_rfl):KG S P F g:=by
 refine⟨GS hS hc ?_ hp⟩;have hk:=hk.out;generalize stp P g=g' at a hn hk;unfold BH6 at a
 repeat' split at a<;>try contradiction
 rename_i i j _ _ c _ _ _ hw _ _ _ _ l d b;cases a;simp at b
 grind[BH8,BH7,Hn,BL8]
def unrT:List (St->Prop)->Nat->St->Prop
 |[],_,_=>False
 |a::_,0,t=>a t
 |_::l,i+1,t=>unrT l i t
def By1 (hS:H4 S P)(hc:pr)(n:Nat)(T:Nat->St->Prop)(s0:St)(o:T 0 s0)
 (j:∀{X:Type}{s' : X->St}{J:X->Prop}{m:X->Nat}{k:Nat}(i:Nat) (t:St),i<=n->T i t ->
  (∀{g' : Cfg}{pr:Prop}{t' : St},pr->Nat.ble (i+1) n=true->T (i+1) t' -> (hp:pr=D3 (cnd P g'):=by kernel_rfl)->(q:stp P g' = .pop .normal (.lp X s' J m k::(stp P g).k) (stp P g').st:=by kernel_rfl)->(hle:KLe (stp P g').st t':=by exact kl)->KG S P F g') ->
  KG S P F (.code (Uz (stp P g)) (.lp X s' J m k::(stp P g).k) t)) (hp:pr=D3 (cnd P g):=by kernel_rfl) (hl:JL (stp P g)=true:=by kernel_rfl) (hle:KLe (stp P g).st s0:=by exact kl):KG S P F g:=by
 refine⟨GS hS hc ?_ hp⟩;rw[XX hl];obtain⟨ids,hle⟩:=hle.out;refine AE9 hS (X:=Nat×St) (λx=>x.2) (λx=>x.1<=n/\T x.1 x.2) (λx=>n-x.1) (0,s0) ids hle (by grind) ?_;rintro⟨i,t⟩ ⟨l,ht⟩;refine (j (s':=λx:Nat×St=>x.2) (J:=λx=>x.1<=n/\T x.1 x.2) (m:=λx=>n-x.1) (k:=n-i) i t l ht λ{_ _ t'} b hn c d f a=>⟨GS hS b ?_ d⟩).out;obtain⟨ids',a⟩:=a.out;rw[f];have hn:i+1<=n:=Cn3 hn;exact hS.le ids' _ _ _ a ⟨(i+1,t'),rfl,⟨hn,c⟩,by grind⟩
end
section
variable {S:X0}{P:Program}{F:M3}{g:Cfg}{pr:Prop}
def I7 (hS:H4 S P)(hc:pr)(d:Nat)(st:St->St)(hk:KG S P F (opsS (st (Il P d g).st) (Il P d g)))(hp:pr=D3 (BO1 P d g):=by kernel_rfl)(a:Lu (Il P d g)=true:=by kernel_rfl)(hle:KLe (Il P d g).st (st (Il P d g).st):=by exact kl):KG S P F g:=by
 refine⟨(Iu (u:=some d) (F:=F) hS 400 [] g (by subst hp;exact hc)).2 ?_⟩;have hk:=hk.out;obtain⟨ids,hle⟩:=hle.out;show G S P F (Il P d g);generalize Il P d g=g' at a hle hk;unfold Lu at a;split at a
 .exact Bf4 hS _ ids hle hk
 grind
end
section
variable {S:X0}{P:Program}{F:M3}{g:Cfg}{pr:Prop}
def Ca3 (S:X0)(P:Program)(pv:PV)(m:String)(as:List AV)(r:AV):Prop:=∃t y fn,pv=.iface t y/\ZU P t m=some fn/\ZZ S fn (.p (nP y)::as) r
def invE:Cfg->Option (PV×String×List AV)
 |.ops all (o::_) _ st=>match Cb all st.env o,o.op with
  |some true,.call c=>match c.callee with
   |.invoke rv m=>match JB st.Ym (c.args.toList.map (aev st.env)),aev st.env rv with
    |some (as,_),.p pv=>match Fl [] as with
     |some as'=>some (pv,m,as')
     |none=>none
    |_,_=>none
   |_=>none
  |_,_=>none
 |_=>none
def invK (r:AV):Cfg->Cfg
 |.ops all (o::rest) K st=>match o.op with
  |.call c=>match JB st.Ym (c.args.toList.map (aev st.env))with
   |some (_,Ym)=>AQ3 o.dst (unA [] r) st.env Ym λst=>.ops all rest K st
   |none=>.ops all (o::rest) K st
  |_=>.ops all (o::rest) K st
 |g=>g
def Rk (hS:H4 S P)(hc:pr){pv:PV}{m:String}{as:List AV}{r:AV}(b:Ca3 S P pv m as r)(hk:KG S P F (invK r (stp P g)))
 (hp:pr=D3 (cnd P g):=by kernel_rfl) (a:invE (stp P g)=some (pv,m,as):=by kernel_rfl):KG S P F g:=by
 obtain⟨t,y,fn,rfl,hm,b⟩:=b;refine⟨GS hS hc ?_ hp⟩;have hk:=hk.out;generalize stp P g=g' at a hk;unfold invE at a
 repeat' split at a<;>try contradiction
 rename_i i f _ _ _ c _ _ _ _ _ ha d _ _ j;cases a;simp only[invK,f,ha,Hn]at hk;refine Bw1 hS i f c ha d hm (args:=.p (nP y)::_) ?_ b hk
 grind[Fl,ZL]
def C6 (hS:H4 S P)(hc:pr)(d j:Nat)(ps:List PV)(hk:KG S P F (By0 j ps (Il P d g)))(hp:pr=D3 (BO1 P d g):=by kernel_rfl)(a:Lu (Il P d g)=true:=by kernel_rfl)
 (b:A2 (Il P d g).st.Ym j=some (.cells (ps.map .p)):=by kernel_rfl):KG S P F g:=by
 refine⟨(Iu (u:=some d) (F:=F) hS 400 [] g (by subst hp;exact hc)).2 ?_⟩;have hk:=hk.out;show G S P F (Il P d g);generalize Il P d g=g' at a b hk;unfold Lu at a;split at a
 .simp only[By0,GZ]at hk;exact Aa0 hS (hS.frz _ j ps _ b hk)
 grind
def By2 (j j' : Nat):AV->AV
 |.vecp i m=>if i=j then .vec j' else .vecp i m
 |a=>a
def By3 (j j' : Nat):List AV->List AV
 |[]=>[]
 |a::r=>By2 j j' a::By3 j j' r
def By4 (j j' : Nat):Env->Env
 |[]=>[]
 |(t,a)::r=>(t,By2 j j' a)::By4 j j' r
def AQ9 (j j' : Nat):C7->C7
 |[]=>[]
 |(t,.cells cs)::r=>(t,.cells (By3 j j' cs))::AQ9 j j' r
 |(t,o)::r=>(t,o)::AQ9 j j' r
def msA (j:Nat)(r:List Nat):AV->List Nat
 |.vecp i m=>if i=j then m::r else r
 |_=>r
def msL (j:Nat):List AV->List Nat
 |[]=>[]
 |a::r=>msA j (msL j r) a
def msE (j:Nat):Env->List Nat
 |[]=>[]
 |(_,a)::r=>msA j (msE j r) a
def msR (j:Nat):C7->List Nat
 |[]=>[]
 |(_,.cells cs)::r=>msL j cs++msR j r
 |_::r=>msR j r
def Bg4 {j:Nat}{r:List Nat}{a:AV}:∀x∈r,x∈msA j r a:=by
 intro x hx;unfold msA
 grind
def AI8 {j n j' : Nat}{r:List Nat}{a:AV}(h:∀m∈msA j r a,m=n):Bs4 j n j' a=By2 j j' a:=by
 cases a with
 |vecp i m=>
  simp only[Bs4,By2];by_cases e:i=j
  all_goals simp_all[msA]
 |_=>rfl
def AI9 {j n j' : Nat}:∀{l:List AV},(∀m∈msL j l,m=n)->BG2 j n j' l=By3 j j' l
 |[],_=>rfl
 |a::r,h=>by simp only[BG2,By3,AI8 (r:=msL j r) h,AI9 λm hm=>h m (Bg4 m hm)]
def AJ0 {j n j' : Nat}:∀{l:Env},(∀m∈msE j l,m=n)->BG1 j n j' l=By4 j j' l
 |[],_=>rfl
 |(t,a)::r,h=>by simp only[BG1,By4,AI8 (r:=msE j r) h,AJ0 λm hm=>h m (Bg4 m hm)]
def Yh {j n j' : Nat}:∀{l:C7},(∀m∈msR j l,m=n)->AE8 j n j' l=AQ9 j j' l
 |[],_=>rfl
 |(t,o)::r,h=>by
  cases o with
  |cells cs=>simp only[AE8,AQ9,BV5,AI9 λm hm=>h m (Cm1 _ hm),Yh λm hm=>h m (Cm5 _ hm)]
  |_=>simp only[AE8,AQ9,BV5,Yh (l:=r) h]
def truC (j j' : Nat)(e:TypeId)(k n:Nat)(f:Nat->List PV):Cfg->Cfg
 |.ops all rest K st=>mkO (By4 j j' st.env) (ins j' (.vec e k n f false) (ins j .dead (AQ9 j j' st.Ym))) λenv Ym=>.ops all rest K ⟨env,Ym⟩
 |g=>g
def Ca4 (hS:H4 S P)(hc:pr)(d j n j' : Nat){e:TypeId}{k N:Nat}{f:Nat->List PV}(hn:n<=N)(hk:KG S P F (truC j j' e k n f (Il P d g)))(hp:pr=D3 (BO1 P d g):=by kernel_rfl)(b:Lu (Il P d g)=true:=by kernel_rfl)
 (c:A2 (Il P d g).st.Ym j=some (.vec e k N f false):=by kernel_rfl) (i:A2 (Il P d g).st.Ym j' = none:=by kernel_rfl) (h1:Nat.ble 1000 j' = true:=by kernel_rfl)
 (hm:(msE j (Il P d g).st.env++msR j (Il P d g).st.Ym)=List.replicate (msE j (Il P d g).st.env++msR j (Il P d g).st.Ym).length n:=by kernel_rfl):KG S P F g:=by
 refine⟨(Iu (u:=some d) (F:=F) hS 400 [] g (by subst hp;exact hc)).2 ?_⟩;have hk:=hk.out;show G S P F (Il P d g);generalize Il P d g=g' at b c i hk hm;unfold Lu at b;split at b
 .rename_i st;have a:∀m∈msE j st.env++msR j st.Ym,m=n:=λm h=>by
   rw[show msE j st.env++msR j st.Ym=_ from hm]at h
   grind
  simp only[truC,GZ]at hk;refine Aa0 hS (hS.trunc _ j j' n N k e f _ c hn i (Cn3 h1) ?_);rw[AJ0 λm h=>a m (by grind),Yh λm h=>a m (by grind)];omega
 grind
end
abbrev cA {α : Type}(n:Nat)(c : α -> PV)(f:Nat -> α):List PV:=Fi n (λi=>c (f i))
def H0 (n:Nat)(f:Nat->PV):(Fi n f).length=n:=by simp[Fi]
def EA (n:Nat)(f:Nat->PV):∀i,i<n->[(Fi n f).getD i default]=[f i]:=by
 grind[Fi]
def Sg {n:Nat}{z:PV}{ps:List PV}(h:ps=List.replicate n z):∀i,i<n->[ps.getD i default]=[z]:=by
 grind
def AR0 {n:Nat}{f g:Nat->PV}(h:∀i,i<n->[f i]=[g i]):Fi n f=Fi n g:=by
 grind[Fi,List.map_congr_left]
abbrev ZN {α : Type}(f:Nat -> α)(k:Nat)(x : α):Nat -> α:=λi=>ite (i=k) x (f i)
def BO9 {α : Type}{c : α -> PV}{n k:Nat}{v:Nat -> α}{f:Nat->PV}{e:PV}{x : α}(h:∀i,i<n->[f i]=[c (v i)])(hx:e=c x):∀i,i<n->[ite (i=k) e (f i)]=[c (ite (i=k) x (v i))]:=by
 grind
def app1H {α : Type}{c : α -> List PV}{n:Nat}{v:Sl α}{f g:Nat->List PV}{z : α}(h:∀i,i<n->f i=c (v.g i))(hn:n=v.n):∀i,i<n+1->i≠v.n->Du n f g i=c ((v.push z).g i):=by
 subst hn;intro i b a;have hl:i<v.n:=by omega
 show (ite (i<v.n) (f i) (g (i-v.n)))=c (ite (i<v.n) (v.g i) z);rw[Kb hl,Kb hl];grind
def setH {α : Type}{c : α -> List PV}{n k:Nat}{v:Sl α}{f e:Nat->List PV}{x : α}(h:∀i,i<n->i≠k->f i=c (v.g i))(hx:k<n->e k=c x):∀i,i<n->(λl=>ite (l=k) (e l) (f l)) i=c ((v.upd k x).g i):=by
 grind
section
variable {S:X0}{P:Program}{F:M3}{g:Cfg}{R X:Type}{A B:Option R}{r:R}{b:Bool}
def kI (hS:H4 S P)(h:(ite b A B)=some r)(ht:A=some r->KG S P F (Bf5 (stp P g)))(a:B=some r->KG S P F (Bf6 (stp P g)))
 (hp:True=D3 (cnd P g):=by kernel_rfl) (hb:At5 (stp P g)=some b:=by kernel_rfl):KG S P F g:=
 O3 hS Ly (λc=>ht (itT c h)) (λc=>a (itF c h)) hp hb
def kG (hS:H4 S P)(h:(ite b A B)=some r)(ht:A=some r->KG S P F (Sa true (stp P g)))(a:B=some r->KG S P F (Sa false (stp P g)))
 (hp:True=D3 (cnd P g):=by kernel_rfl) (hb:AH7 (stp P g)=some b:=by kernel_rfl):KG S P F g:=
 IB hS Ly (λc=>ht (itT c h)) (λc=>a (itF c h)) hp hb
def kR (hS:H4 S P){n:Nat}{rs:List ResultVar}{Q:ARes->List Obj->List Bool->Prop}{a:AV}{objs:List Obj}(b:Q (.ret a) objs (JE n []):=by exact⟨rfl,rfl,rfl⟩)
 (hp:True=D3 (cnd P g):=by kernel_rfl) (c:(BW2 (stp P g)).bind (λst=>AQ7 P st rs [])=some (a,objs):=by kernel_rfl):KG S P (Ft S P n rs Q) g:=
 Bg1 hS Ly [] b hp c
theorem Af6 (hS:H4 S P)(h:(ite b A B)=some r)(a:B=some r->KG S P F (Bf6 (stp P g)))(ht:A=some r->KG S P F (Bf5 (stp P g)):=by intro h;cases h;exact kR (by assumption))
 (hp:True=D3 (cnd P g):=by kernel_rfl)(hb:At5 (stp P g)=some b:=by kernel_rfl):KG S P F g:=kI hS h ht a hp hb
def kC (hS:H4 S P){x:Option X}{f:X->Option R}(h:x.bind f=some r){fn:FuncId}{args:List AV}{objs:List Obj}{objs' : X->List Obj}{rr:X->AV}{ks:List Bool}
 (a:∀{y},x=some y->Yo S fn args objs (rr y) (objs' y) ks) (hk:∀y,f y=some r->KG S P F (Bw6 [] ks (rr y) (objs' y) (stp P g)))
 (hp:True=D3 (cnd P g):=by kernel_rfl) (b:AQ4 [] (stp P g)=some (fn,args,objs):=by kernel_rfl) (hn:∀y,AQ5 [] ks (objs' y).length (stp P g)=true:=by intro y;kernel_rfl):KG S P F g:=by
 obtain⟨y,e,h⟩:=E7 h;exact E2 hS [] Ly (a e) (hk y h) hp b (hn y)
end
inductive BT where
 |l (b:Bool)
 |n (b:Bool) (t f:BT)
def BT.ev:BT->Bool
 |.l b=>b
 |.n b t f=>ite b t.ev f.ev
inductive BE where
 |a (b:Bool)
 |n (x y:BE)
 |o (x y:BE)
def BE.den:BE->Bool
 |.a b=>b
 |.n x y=>x.den&&y.den
 |.o x y=>x.den||y.den
def BE.tr:BE->BT->BT->BT
 |.a b,t,f=>.n b t f
 |.n x y,t,f=>x.tr (y.tr t f) f
 |.o x y,t,f=>x.tr t (y.tr t f)
def BE.top:BE->BT
 |.a b=>.l b
 |.n x y=>x.tr y.top (.l false)
 |.o x y=>x.tr (.l true) y.top
def BE.tr_ev:∀(e:BE) (t f:BT),(e.tr t f).ev=if e.den then t.ev else f.ev
 |.a b,t,f=>rfl
 |.n x y,t,f=>by simp only[tr,den,x.tr_ev,y.tr_ev];by_cases h:x.den=true<;>simp[h]
 |.o x y,t,f=>by simp only[tr,den,x.tr_ev,y.tr_ev];by_cases h:x.den=true<;>simp[h]
def BE.top_ev:∀e:BE,e.top.ev=e.den
 |.a b=>rfl
 |.n x y=>by simp only[top,den,x.tr_ev,y.top_ev,BT.ev];by_cases h:x.den=true<;>simp[h]
 |.o x y=>by simp only[top,den,x.tr_ev,y.top_ev,BT.ev];by_cases h:x.den=true<;>simp[h]
def keeps:Op->Bool
 |.move _ | .assign _ | .pick .. | .load .. | .nilCheck _ | .binOp .. | .unOp .. | .convert .. | .fieldAddr .. | .field .. | .indexAddr .. | .index .. | .extract ..=>true
 |.call { callee:=.builtin .len,.. } | .call { callee:=.builtin .min,.. } | .call { callee:=.builtin .max,.. }=>true
 |_=>false
def AR1 {P:Program}{env:Env}{Ym:C7}{d:Nat}{o:Op}{out:Out}(hk:keeps o=true)(h:aop P env Ym d o=some out):out.Ym=Ym:=by unfold keeps at hk;split at hk<;>first|(cases hk;done)|(simp only[aop]at h;(repeat' split at h)<;>first|(cases h;rfl)|cases h)
def Wf {o:Op}(hk:keeps o=true):BV6 o=true:=by unfold keeps at hk;split at hk<;>first|cases hk;done|rfl
def By5:List Prop->List Prop
 |[]=>[]
 |c=>[D3 c]
def bgo (P:Program)(Ym:C7)(o:Oper)(last:Bool)(rec:List Prop->Env->Option (BT×List Prop))(c:List Prop)(env:Env)(runs:Bool):Option (BT×List Prop):=match runs with
 |true=>match keeps o.op,o.dst with
  |true,some d=>match aop P env Ym d o.op with
   |some ⟨p,v,_⟩=>match last with
    |true=>match Rw v with
     |some b=>some (.l b,By5 (p++c))
     |none=>none
    |false=>fA v λv=>Bb5 d v env λenv=>rec (p++c) env
   |none=>none
  |_,_=>none
 |false=>match last,o.dst with
  |false,some d=>Bb5 d Dw env λenv=>rec c env
  |_,_=>none
def bev (P:Program)(all:List Oper)(Ym:C7):List Oper->List Prop->Env->Option (BT×List Prop)
 |[],_,_=>none
 |o::rest,c,env=>
  match o.guard with
  |none=>bgo P Ym o rest.isEmpty (λc env=>bev P all Ym rest c env) c env true
  |some (j,want)=>match get env (Iq all j)with
   |.p (.v (.bool b))=>bgo P Ym o rest.isEmpty (λc env=>bev P all Ym rest c env) c env (b==want)
   |.p (.v (.tuple _))=>bgo P Ym o rest.isEmpty (λc env=>bev P all Ym rest c env) c env false
   |.p (.bb b)=>match Bb5 (Iq all j) (.p (.v (.bool true))) env λenv=>bgo P Ym o rest.isEmpty (λc env=>bev P all Ym rest c env) [] env want,
    Bb5 (Iq all j) (.p (.v (.bool false))) env λenv=>bgo P Ym o rest.isEmpty (λc env=>bev P all Ym rest c env) [] env !want with
    |some (t,ct),some (f,cf)=>some (.n b t f,By5 c++(ct.map (λp=>b=true->p)++cf.map (λp=>b=false->p)))
    |_,_=>none
   |_=>none
def Ba5 (l:List Oper):List Nat:=l.filterMap (·.dst)
def BP0 (ks:List Nat)(env:Env):Env:=env.filter λq=>!ks.contains q.1
def AJ1 (ks:List Nat)(env:Env)(x:Nat):get (BP0 ks env) x=ite (x∈ks) (.top) (get env x):=by
 induction env with
 |nil=>simp[BP0,get]
 |cons q r ih=>
  obtain⟨i,a⟩:=q;simp only[BP0,List.filter_cons];by_cases b:i∈ks
  .rw[Kd (by grind)]
   have:=ih
   grind[BP0,get]
  rw[Kb (by grind)]
  grind[get,BP0]
def At6:List Oper->Option Nat
 |[]=>none
 |[o]=>o.dst
 |_::r=>At6 r
section
variable {S:X0}{P:Program}
def Wg {c:List Prop}(h:∀p∈By5 c,p):D3 c:=by
 cases c with
 |nil=>trivial
 |cons p r=>exact h _ (by simp[By5])
def Ca5 (hS:H4 S P){all:List Oper}{Ym:C7}{Q:M3}{post:List Oper}{envF:Env}{V:Bool}{d:Nat}(hQ:∀s,S.up s (Lr S P all post Q)->Lr S P all post Q s)(hV:get envF d=.p (.bb V))
 (hw:Lr S P all post Q ⟨envF,Ym⟩) :
 ∀(L:List Oper) (c:List Prop) (env:Env) (T:BT) (C:List Prop),bev P all Ym L c env=some (T,C)->(∀p∈C,p)->T.ev=V->At6 L=some d ->
  (∀x,x≠d->XA (get envF x) (get env x) \/ (x∈Ba5 L/\get envF x=.top))->(∀x∈Ba5 L,x≠d->get envF x=.top)->D3 c/\Lr S P all (L++post) Q ⟨env,Ym⟩:=by
 intro L
 induction L with
 |nil=>intro c env T C h;cases h
 |cons o rest ih=>
  intro c env T C h l a hd hl ht;simp only[bev,Mu]at h;have key:∀(c:List Prop) (env:Env) (runs:Bool) (T:BT) (C:List Prop),bgo P Ym o rest.isEmpty (λc env=>bev P all Ym rest c env) c env runs=some (T,C)->(∀p∈C,p)->T.ev=V ->
   (∀x,x≠d->XA (get envF x) (get env x) \/ (x∈Ba5 (o::rest)/\get envF x=.top)) ->
   D3 c/\(ite runs (wOp S P o (Lr S P all (rest++post) Q) Q ⟨env,Ym⟩) (Lr S P all (rest++post) Q (put ⟨env,Ym⟩ o.dst Dw))):=by
   intro c env runs T C h l a hl;have a0:rest.isEmpty=false->At6 rest=some d:=by
    grind[At6]
   have hds:∀{d'},o.dst=some d' -> Ba5 (o::rest)=d' :: Ba5 rest:=λg=>by grind[Ba5]
   have i:∀d' (v:AV),o.dst=some d' -> ∀x,x≠d->XA (get envF x) (get (ins d' v env) x) \/ (x∈Ba5 rest/\get envF x=.top):=by
    intro d' v g x hx;rw[FD];by_cases m:d' = x
    .subst m;exact .inl (.inl (by grind))
    grind
   cases runs with
   |true=>
    simp only[bgo,AN6,Mu,Kk]at h⊢;split at h
    .rename_i d' hk g;split at h
     .rename_i p v regs' ha;have hr:regs' = Ym:=AR1 hk ha;subst hr;have u : aop P env regs' (o.dst.getD 0) o.op=some ⟨p,v,regs'⟩:=by rw[g];grind
      split at h
      .rename_i w;split at h
       .rename_i b hb;cases h;have n:=Wg l;obtain⟨hc,hp⟩:=(FY _ _).1 n;refine⟨hc,Re (Wf hk) u hp ?_⟩;obtain rfl:rest=[]:=(by grind);simp only[At6]at hd;have e:d' = d:=by rw[g]at hd;grind
        subst e;refine hQ _ (hS.less _ ⟨envF,regs'⟩ _ (λx=>?_) (λ_=>by rw[g];rfl) (by omega));rw[g];show XA (get envF x) (get (ins d' v env) x);rw[FD];by_cases hx:d' = x
        .subst hx;rw[Kb rfl,hV];have a:b=V:=a;subst a;unfold Rw at hb;split at hb
         .cases hb;exact .inr (by grind)
         .cases hb;exact .inr (.inl rfl)
         grind
        rw[Kd hx];rcases hl x (λe=>hx e.symm)with h|⟨_,h⟩
        .exact h
        exact .inl h
       grind
      rename_i w;have hn:∀x,x≠d->XA (get envF x) (get (ins d' v env) x) \/ (x∈Ba5 rest/\get envF x=.top):=i d' v g;obtain⟨n,r⟩:=ih _ _ _ _ h l a (by grind) hn (by grind);obtain⟨hc,hp⟩:=(FY _ _).1 n;exact⟨hc,Re (Wf hk) u hp (by rw[g];exact r)⟩
     grind
    grind
   |false=>
    simp only[bgo,Mu,Ci8,Lw]at h⊢;split at h
    .rename_i d' w g;have hn:∀x,x≠d->XA (get envF x) (get (ins d' Dw env) x) \/ (x∈Ba5 rest/\get envF x=.top):=i d' _ g;obtain⟨hc,r⟩:=ih _ _ _ _ h l a (by grind) hn (by grind);exact⟨hc,by rw[g];exact r⟩
    grind
  simp only[Cj3,Lr];cases hg:o.guard with
  |none=>simp only[hg]at h;obtain⟨hc,hk⟩:=key _ _ _ _ _ h l a hl;exact⟨hc,hS.refl _ _ (by grind)⟩
  |some q=>
   obtain⟨j,want⟩:=q;simp only[hg]at h;split at h
   .rename_i b hb;obtain⟨hc,hk⟩:=key _ _ _ _ _ h l a hl;refine⟨hc,hS.refl _ _ ⟨some b,by rw[hb];rfl,?_⟩⟩;have e:(some b=some want)↔(b==want)=true:=by simp
    grind
   .rename_i tt hb;obtain⟨hc,hk⟩:=key _ _ _ _ _ h l a hl;refine⟨hc,hS.refl _ _ ⟨none,by rw[hb];rfl,?_⟩⟩;rw[Kd (by simp)];grind
   .rename_i b hb;split at h
    .rename_i t ct f cf h1 h2;cases h;have hc:D3 c:=Wg λp hp=>l p (by grind);refine⟨hc,hS.bool _ _ b _ hb ?_⟩;have z:∀x,x≠d->XA (get envF x) (get (ins (Iq all j) (.p (.v (.bool b))) env) x) \/ (x∈Ba5 (o::rest)/\get envF x=.top):=by
      intro x hx;rw[FD];by_cases m:Iq all j=x
      .subst m;rw[Kb rfl];rcases hl _ hx with h|h
       .rw[hb]at h;rcases h with h|h|⟨y,h1,h2⟩
        .exact .inl (.inl h)
        .exact .inl (.inr (.inr ⟨b,h,rfl⟩))
        grind
       grind
      grind
     cases b with
     |true=>
      obtain⟨_,hk⟩:=key _ _ _ _ _ h1 (λp hp=>l (true=true->p) (by grind) rfl) a z;refine⟨some true,by show yv (get (ins _ _ _) _)=_;rw[FD,Kb rfl];rfl,?_⟩
      grind
     |false=>
      obtain⟨_,hk⟩:=key _ _ _ _ _ h2 (λp hp=>l (false=false->p) (by grind) rfl) a z;refine⟨some false,by show yv (get (ins _ _ _) _)=_;rw[FD,Kb rfl];rfl,?_⟩
      grind
    grind
   grind
end
def BP1 (P:Program)(m:Nat):Cfg->Option (BT×List Prop)
 |.ops all rest K st=>bev P all st.Ym (rest.take m) [] st.env
 |_=>none
def Ca6 (m:Nat)(b:Bool):Cfg->Cfg
 |.ops all rest K st=>match At6 (rest.take m)with
  |some d=>mkO (ins d (.p (.bb b)) (BP0 (Ba5 (rest.take m)) st.env)) st.Ym λenv Ym=>.ops all (rest.drop m) K ⟨env,Ym⟩
  |none=>.ops all rest K st
 |g=>g
def Ca7 (m:Nat):Cfg->Bool
 |.ops all rest K st=>(At6 (rest.take m)).isSome
 |_=>false
def Ca8:List Prop->Prop
 |[]=>True
 |p::r=>r.foldl And p
def By6 {l:List Prop}(h:Ca8 l):∀p∈l,p:=by
 have:∀(r:List Prop) (p:Prop),r.foldl And p->p/\∀q∈r,q:=by
  intro r
  induction r<;>grind
 cases l with
 |nil=>grind
 |cons a r=>
  obtain⟨h1,b⟩:=this _ _ h
  grind
section
variable {S:X0}{P:Program}{F:M3}{g:Cfg}{pr pc:Prop}
def kB (hS:H4 S P)(n:∀s,S.up s (F .normal)->F .normal s)(hc:pr)(c:pc)(m:Nat)(E:BE)(hk:KG S P F (Ca6 m E.den (stp P g)))
 (hp:pr=D3 (cnd P g):=by kernel_rfl) (a:(BP1 P m (stp P g)).map (·.1)=some E.top:=by kernel_rfl) (b:(BP1 P m (stp P g)).map (λx=>Ca8 x.2)=some pc:=by kernel_rfl) (f:Ca7 m (stp P g)=true:=by kernel_rfl):KG S P F g:=by
 refine⟨GS hS hc ?_ hp⟩;have hk:=hk.out;generalize stp P g=g' at hk a b f;unfold BP1 at a b;split at a
 .rename_i all rest K st;simp only[Ca7,Cj7]at f;obtain⟨d,j⟩:=f;simp only[Ca6,j,GZ]at hk;cases hb:bev P all st.Ym (rest.take m) [] st.env with
  |none=>rw[hb]at a;grind
  |some q=>
   obtain⟨T,C⟩:=q;simp only[hb]at a b;simp only[Cj4,Ci3]at a b;subst a
   have:=(Ca5 hS (Q:=kp S P K F) (post:=rest.drop m) (envF:=ins d (.p (.bb E.den)) (BP0 (Ba5 (rest.take m)) st.env)) (V:=E.den) (d:=d) ?_ (by rw[FD,Kb rfl]) hk (rest.take m) [] st.env E.top C hb
    (By6 (b ▸ c)) E.top_ev j (λx hx=>?_) (λx hx i=>?_)).2
   .rwa [Ct6]at this
   .intro s h;cases l:rest.drop m with
    |nil=>rw[l]at h;exact Bw4 hS n K s h
    |cons o r=>rw[l]at h;exact hS.trans _ _ h
   .rw[FD,Kd (λe=>hx e.symm),AJ1];split
    .grind
    exact .inl (.inr (.inl rfl))
   rw[FD,Kd (λe=>i e.symm),AJ1,Kb hx]
 grind
end
def famC (op:Xz):Cfg->List Prop
 |.ops _ _ _ st=>match X8 op st with
  |some (c,_)=>c
  |none=>[False]
 |_=>[False]
def famG (op:Xz):Cfg->Cfg
 |.ops all rest K st=>match X8 op st with
  |some (_,st)=>mkO st.env st.Ym λenv Ym=>.ops all rest K ⟨env,Ym⟩
  |none=>.ops all rest K st
 |g=>g
section
variable {S:X0}{P:Program}{F:M3}{g:Cfg}{pr pc:Prop}
def Di (hS:H4 S P)(hc:pr)(d:Nat)(op:Xz)(b:pc)(hk:KG S P F (famG op (Il P d g)))(hp:pr=D3 (BO1 P d g):=by kernel_rfl)(f:Lu (Il P d g)=true:=by kernel_rfl)
 (a:pc=D3 (famC op (Il P d g)):=by kernel_rfl):KG S P F g:=by
 refine⟨(Iu (u:=some d) (F:=F) hS 400 [] g (by subst hp;exact hc)).2 ?_⟩;have hk:=hk.out;show G S P F (Il P d g);generalize Il P d g=g' at f a hk;unfold Lu at f;split at f
 .rename_i all o rest K st;simp only[famC]at a;simp only[famG]at hk;cases i:X8 op st with
  |none=>rw[i]at a;grind
  |some q=>obtain⟨c,st'⟩:=q;simp only[i,GZ]at hk a;subst a;exact Aa0 hS (hS.fam op _ _ c _ i b hk)
 grind
end
def Ca9 (j k n:Nat)(e:TypeId)(g:Nat->List PV)(vw:Bool):Cfg->Cfg
 |.ops all rest K st=>mkO st.env (ins j (.vec e k n g vw) st.Ym) λenv Ym=>.ops all rest K ⟨env,Ym⟩
 |g=>g
def Bg5 {S:X0}{P:Program}{F:M3}{g:Cfg}{pr:Prop}(hS:H4 S P)(hc:pr)(d j:Nat){k n:Nat}{e:TypeId}{vw:Bool}(f q:Nat->List PV)(c:∀i,i<n->leC (f i) (q i))(hk:KG S P F (Ca9 j k n e q vw (Il P d g)))
 (hp:pr=D3 (BO1 P d g):=by kernel_rfl) (a:Lu (Il P d g)=true:=by kernel_rfl) (b:A2 (Il P d g).st.Ym j=some (.vec e k n f vw):=by kernel_rfl):KG S P F g:=by
 refine⟨(Iu (u:=some d) (F:=F) hS 400 [] g (by subst hp;exact hc)).2 ?_⟩;have hk:=hk.out;show G S P F (Il P d g);generalize Il P d g=g1 at hk a b;unfold Lu at a;split at a
 .simp only[Ca9,GZ]at hk;exact Aa0 hS (hS.vecq _ j n k e f q vw _ b c hk)
 grind
def leCn {k:Nat}{g:Nat->List PV}:leC [.v (.slice none 0 0)] [.sl false k 0 g]:=Jx Cg5 leC0
def leCr (l:List PV):leC l l:=⟨rfl,λ_=>.p (.inl rfl)⟩
def Cb0 (op:Xz):Cfg->List Prop
 |.code _ _ st=>match X8 op st with
  |some (c,_)=>c
  |none=>[False]
 |_=>[False]
def Cb1 (op:Xz):Cfg->Cfg
 |.code c K st=>match X8 op st with
  |some (_,st)=>mkO st.env st.Ym λenv Ym=>.code c K ⟨env,Ym⟩
  |none=>.code c K st
 |g=>g
def AJ2 {S:X0}{P:Program}{F:M3}{g:Cfg}{pr pc:Prop}(hS:H4 S P)(hc:pr)(op:Xz)(f:pc)(hk:KG S P F (Cb1 op (stp P g)))(hp:pr=D3 (cnd P g):=by kernel_rfl)(i:Ee (stp P g)=true:=by kernel_rfl)(d:P.follows .mixedOrders=true:=by kernel_rfl)
 (b:JC (JM (stp P g)).all=true:=by kernel_rfl) (a:pc=D3 (Cb0 op (stp P g)):=by kernel_rfl):KG S P F g:=by
 refine⟨GS hS hc ?_ hp⟩;generalize stp P g=g1 at hk i b a;unfold Ee at i;split at i
 .rename_i id ops K st;have hk:=hk.out;simp only[Cb1]at hk;simp only[Cb0]at a;cases j:X8 op st with
  |none=>rw[j]at a;grind
  |some q=>
   obtain⟨c,st'⟩:=q;simp only[j,GZ]at hk a;subst a;show awp S P (.region id ops true) (kp S P K F) st;simp only[awp,Kk];have l : Aq5 S P ops.toList (kp S P K F) st':=by
    have:awp S P (.region id ops true) (kp S P K F) st':=hk
    simp_all[awp,Kk]
   exact AH4 hS d b (hS.fam op _ _ c _ j f l)
 grind
def Ae5 {P:Program}{f:FuncId}{vw:Bool}{args:List PV}{e:TypeId}{k n:Nat}{g:Nat->List PV}(r:∀as w,(callFunc f as).run P w=.ok (.enter f as) w)(hk:∀i,i<n->(g i).length=k)
 (h:∀(w:World) (Pi:Nat->Nat->Prop) (vs:Array Value),(∀b off,Pi b off->b<w.heap.size)->vs.size=args.length->(∀i,i<args.length->Yq w Pi (vs.getD i undef) (args.getD i default)) ->
  Calls P f vs w λx w'=>∃v,x=.returned v/\RowKit.Below w.heap.size w w' /\ ((v=.slice none 0 0/\n=0) \/ ∃b cap c,v=.slice (some ⟨b,0,none⟩) n cap/\w.heap.size<=b/\w'.heap[b]? = some (.cells c e (0,0))/\n<=cap/\c.size=cap*k/\cap<=maxLen /\
   ∀i j,i<n->j<k->Yq w Pi (c.getD (i*k+j) undef) ((g i).getD j default)/\(c.getD (i*k+j) undef).oneCell' = true)):Yo (Im P) f (args.map .p) [] (.vec 0) [.vec e k n g vw] []:=by
 intro 𝒢 C w vs rho hG hs hsz;have hno0:∀j,A2 (Yn []) j=none:=λj=>by simp[Yn,Yn.go,A2]
 have h0:=h w (Prv C.X (A2 (Yn [])) rho) vs (λb off hp=>by
  rcases hp with hp|⟨j,o,d,_⟩
  .exact hs.hp.bound b off hp
  grind) (by grind) (λi z=>by
  have:=hs.env i
  rw[Dg]at this;have e:(args.map AV.p).getD i .top=.p (args.getD i default):=by grind
  rw[e]at this;exact this.toP)
 refine⟨_,_,r _ _,callsIn_wide.2 (h0.mono ?_)⟩;rintro x w' ⟨v,rfl,hb,hv⟩;have hR:∀j o,A2 (Yn [Obj.vec e k n g vw]) j=some o->j=0/\o=.vec e k n g vw:=λj o d=>by
  simp only[Yn,Yn.go,A2]at d
  grind
 have hR0:A2 (Yn [Obj.vec e k n g vw]) 0=some (.vec e k n g vw):=rfl
 let rho' : Nat->Value:=λj=>if j=0 then v else rho j
 have hr0:rho' 0=v:=rfl;have q:∀b,G1 v (.vec e k n g vw) b->w.heap.size<=b/\b<w'.heap.size:=by
  intro b s;rcases hv with⟨rfl,_⟩ | ⟨b',cap,c,rfl,h1,h2,_⟩
  .cases s
  cases s;grind
 have t:∀b o,Prv C.X (A2 (Yn [Obj.vec e k n g vw])) rho' b o->C.X b o \/ w.heap.size<=b:=by
  rintro b o (y|⟨j,o',d,a,_⟩)
  all_goals grind
 have l:Yp w (Prv C.X (A2 (Yn [])) rho) w' (Prv C.X (A2 (Yn [Obj.vec e k n g vw])) rho'):=λb o u hp hc=>by
  have m:=Cn6 w ⟨b,o,none⟩ hc;refine⟨by rw[<- hc];exact Cl0 (hb.block b m),λhpp=>?_⟩;rcases t b o hpp with y|hge
  .exact hp (.inl y)
  grind
 refine⟨C,.ret (.vec 0),[.vec e k n g vw],[],rho',hG,⟨rfl,rfl,rfl⟩,?_,⟨v,rfl,?_⟩,by grind⟩
 .refine⟨⟨λj o d=>?_,by grind,λj o b off d a y=>?_,λb off hp=>Ck0 (hs.hp.bound b off hp) hb.size⟩,hs.ext.trans ⟨hb.os,hb.output⟩,Cm3 hs.size hb.size,λb m hE=>?_,hs.keep.trans l,λb a=>?_,by grind⟩
  .obtain⟨rfl,rfl⟩:=hR j o d;rw[hr0];rcases hv with hn|⟨b,cap,c,rfl,h1,h2,h3,h4,h5,h6⟩
   .exact .inl hn
   exact .inr ⟨b,cap,c,rfl,h2,h3,h4,h5,hk,λi j z d=>⟨(h6 i j z d).1.keeps l,(h6 i j z d).2⟩⟩
  .obtain⟨rfl,rfl⟩:=hR j o d;have h1:=(q b a).1;have h2:=hs.hp.bound b off y;omega
  .rw[hb.block b (Ck0 m hs.size)];exact hs.same b m hE
  obtain⟨j,o,d,a⟩:=a;obtain⟨rfl,rfl⟩:=hR j o d;exact .inr (Cm3 hs.size (q b a).1)
 rcases hv with⟨rfl,_⟩ | ⟨b,cap,c,rfl,_⟩
 .exact .vec 0 none 0 0 (by grind[Lv]) rfl
 exact .vec 0 _ n cap (by grind[Lv]) rfl
open Go.RowKit Go.ChangeShapes
section
variable {S:X0}{P:Program}{F:M3}{K:List It}{st:St}{g:Cfg}{pr:Prop}
def BP2 (p:Option PV)(r:ARes):Prop:=match p with
 |none=>∃a,r=.ret a
 |some x=>r=.panic x
def Sh (S:X0)(f:FuncId)(first caps:List AV)(objs:List Obj)(L:List (List PV))(p:Option PV):Prop:= S.F f (first ++ .yf objs.length::caps) (objs++[.yld L true]) λr objs' ks=>∃b,objs'[objs.length]? = some (.yld [] b)/\ks[objs.length]? = some true/\(b=true->BP2 p r)/\(b=false->∃a,r=.ret a)
def endP:Option PV->Rv
 |none=>.normal
 |some x=>.panic x
def By7 (hS:H4 S P){g:Operand}{ps:Array Tmp}{asg body:Code}{f:FuncId}{first caps as bs:List AV}{objs:List Obj}(ids ts:List Nat)(gh:Nat)(L:List (List PV)){p:Option PV}{X:Type}(s:X->St)(J:List (List PV)->X->Prop)(x0:X)(idl:List (Nat×Nat))
 (hp:Hl st.env g=some (f,first,caps)) (m:∃fn,P.funcs[f]? = some fn/\fn.body.isSome=true/\(fn.name == "runtime.NumGoroutine")=false) (n:N2 ids st.Ym ids=some objs) (o:GV objs=true) (hd:I6 ids=true) (q:Fl ids first=some as) (t:Fl ids caps=some bs) (u:objs.length=ids.length)
 (v:gh<1000) (w:A2 st.Ym gh=none) (z:ids.length<1000) (a0:I6 ts=true) (d:∀ys∈L,ys.length=ps.size)
 (hF:Sh S f as bs objs L p) (hle:Le idl ⟨AN ts (ts.map (get st.env)),M0 ids (ids.map λ_=>false) st.Ym⟩ (s x0)) (h0:J L x0) (hk:∀x,(s x).env.map (·.1)=ts) (hn:∀x,A2 (s x).Ym gh=none)
 (c:∀ys rest x,J (ys::rest) x->G S P (Dz S P body gh ts (Bw2 s J rest) (kp S P K F)) (.code asg [] ⟨Nf ps.toList ys (s x).env,ins gh (.ghost ((s x).env.map (·.2))) (s x).Ym⟩))
 (i:∀x,J [] x->G S P F (.pop (endP p) K (s x))):G S P F (.code (.rangeFunc g ps asg body) K st):=by
 have j:∀{l:List Nat},I6 l=true->l.Nodup:=by
  intro l
  induction l with
  |nil=>grind
  |cons a r ih=>
   simp_all[I6,Ci6,Ck1,Cm0,decide_eq_false_iff_not,Co1]
 refine⟨f,first,caps,as,bs,objs,ids,ts,gh,L,Bw2 s J,λb r=>b=true->BP2 p r,hp,m,o,hd,q,t,n,v,w,z,j a0,d,hS.le idl _ _ _ hle ⟨hk x0,hn x0,x0,rfl,h0⟩,?_,?_,?_⟩
 .rintro ys rest _ _ _ ⟨x,rfl,hJ⟩;have h:=c ys rest x hJ;have e:Dz S P body gh ts (Bw2 s J rest) (kp S P K F)=λe s'=>match e with
   |.normal=>S.up s' λs'=>awp S P body (Hm S gh ts (Bw2 s J rest) (kp S P K F)) s'
   |_=>False:=by funext e s';cases e<;>rfl
  rw[e]at h;exact h
 .rintro _ r _ _ ⟨x,rfl,hJ⟩ hf;have h1:=hf rfl;have h2:=i x hJ;cases p with
  |none=>obtain⟨a,rfl⟩:=h1;exact h2
  |some y=>cases h1;exact h2
 rw[<- u];refine hS.monoF _ _ _ _ _ ?_ hF
 grind
def By8 (hS:H4 S P){g:Operand}{ps:Array Tmp}{asg body:Code}{f:FuncId}{first caps as bs:List AV}{objs:List Obj}{R T A:Type}{enc:T->List PV}{L:List T}{p:Option PV}{mb:(A->Option R)->T->A->Option R}{mk:A->Option R}{a0:A}{r:R}
 (ids ts:List Nat) (gh:Nat) (s:A->St) (idl:List (Nat×Nat)) (h:T2 L mb mk a0=some r) (w:Sh S f as bs objs (L.map enc) p)
 (hp:Hl st.env g=some (f,first,caps)) (i:∃fn,P.funcs[f]? = some fn/\fn.body.isSome=true/\(fn.name == "runtime.NumGoroutine")=false) (j:N2 ids st.Ym ids=some objs) (l:GV objs=true) (x:I6 ids=true) (m:Fl ids first=some as) (n:Fl ids caps=some bs) (o:objs.length=ids.length)
 (y:Nat.blt gh 1000=true) (q:A2 st.Ym gh=none) (z:Nat.blt ids.length 1000=true) (u:I6 ts=true) (v:∀t:T,(enc t).length=ps.size)
 (hle:Le idl ⟨AN ts (ts.map (get st.env)),M0 ids (ids.map λ_=>false) st.Ym⟩ (s a0)) (hk:∀a,(s a).env.map (·.1)=ts) (hn:∀a,A2 (s a).Ym gh=none)
 (b:∀(t:T) (next:St->Prop) (c:A->Option R) (a:A),(∀(st st1:St) (cs:List AV) (idl:List (Nat×Nat)) (a:A),Le idl st st1->A2 st1.Ym gh=some (.ghost cs)->cs.length=ts.length->A2 (del gh st1.Ym) gh=none->(⟨AN ts cs,del gh st1.Ym⟩:St)=s a->c a=some r->G S P (Hm S gh ts next (kp S P K F)) (.pop .normal [] st)) ->
  mb c t a=some r->G S P (Dz S P body gh ts next (kp S P K F)) (.code asg [] ⟨Nf ps.toList (enc t) (s a).env,ins gh (.ghost ((s a).env.map (·.2))) (s a).Ym⟩))
 (d:∀a,mk a=some r->G S P F (.pop (endP p) K (s a))):G S P F (.code (.rangeFunc g ps asg body) K st):=by
 refine By7 hS ids ts gh (L.map enc) s (λrest a=>∃L',rest=L'.map enc/\T2 L' mb mk a=some r) a0 idl hp i j l x m n o (by simp_all) q (by simp_all) u (λys hy=>?_) w hle ⟨L,rfl,h⟩ hk hn ?_ ?_
 .grind
 .rintro ys rest a ⟨L',hL,hx⟩;cases L' with
  |nil=>grind
  |cons t L'=>simp at hL;obtain⟨rfl,rfl⟩:=hL;refine b t _ (T2 L' mb mk) a (λst st1 cs idl a hle h1 h2 h3 h4 h5=>?_) hx;exact As8 hS st1 a idl hle h1 h2 h3 h4 ⟨L',rfl,h5⟩
 rintro a ⟨L',hL,hx⟩;cases L' with
 |nil=>exact d a hx
 |cons t L'=>grind
def AJ3 (hS:H4 S P)(hc:pr){f:FuncId}{as bs:List AV}{objs:List Obj}{R T A:Type}{enc:T->List PV}{L:List T}{p:Option PV}{mb:(A->Option R)->T->A->Option R}{mk:A->Option R}{a0:A}{r:R}
 (ids ts:List Nat) (gh:Nat) (s:A->St) (h:T2 L mb mk a0=some r) (x:Sh S f as bs objs (L.map enc) p)
 (i:∀t:T,(enc t).length=(LK (stp P g)).size) (hk:∀a,(s a).env.map (·.1)=ts) (hn:∀a,A2 (s a).Ym gh=none) (m:∀a,(⟨AN ts ((s a).env.map (·.2)),del gh (ins gh (.ghost ((s a).env.map (·.2))) (s a).Ym)⟩:St)=s a)
 (c:∀{next:St->Prop}(t:T) (d:A->Option R) (a:A),
  (∀{g' : Cfg}{pr:Prop}{a:A},pr->d a=some r->(hp:pr=D3 (cnd P g'):=by kernel_rfl)->(b:stp P g' = .pop .normal [] (stp P g').st:=by kernel_rfl)->(hle:KLe (stp P g').st (rst gh (s a)):=by exact kl)->KG S P (Hm S gh ts next (kp S P (stp P g).k F)) g') ->
  mb d t a=some r->KG S P (Dz S P (Ae1 (stp P g)) gh ts next (kp S P (stp P g).k F)) (.code (Ae0 (stp P g)) [] (Ae3 gh (LK (stp P g)) (enc t) (s a))))
 (j:∀a,mk a=some r->KG S P F (.pop (endP p) (stp P g).k (s a)))
 (hp:pr=D3 (cnd P g):=by kernel_rfl) (b:Ad9 P ids (stp P g)=some (f,as,bs,objs):=by kernel_rfl) (o:Nat.blt gh 1000=true:=by kernel_rfl) (n:A2 (stp P g).st.Ym gh=none:=by kernel_rfl) (q:I6 ts=true:=by kernel_rfl)
 (hle:KLe (Ae2 ids ts (stp P g)) (s a0):=by exact kl):KG S P F g:=by
 refine⟨GS hS hc ?_ hp⟩;have u:=(La b).2;replace b:=(La b).1;generalize stp P g=g1 at i c j b n hle;unfold Sf at b;split at b
 .rename_i op ps asg body K st;split at b
  .rename_i f' first caps v
   split at b
   .rename_i objs' as' bs' y z h4;split at b
    .rename_i w;simp only[Ci3,Cj6]at b;obtain⟨rfl,rfl,rfl,rfl⟩:=b;simp only[Ci6,Ck1,beq_iff_eq]at w;obtain⟨⟨⟨e3,e4⟩,e5⟩,e6⟩:=w;obtain⟨idl,hle⟩:=hle.out;refine By8 hS ids ts gh s idl h x v u y e3 e4 z h4 e5 o n e6 q i hle hk hn (λt next d a hb hm=>?_) (λa hm=>(j a hm).out);refine (c t d a (λ{_ _ a} hc l hp b hle=>⟨GS hS hc ?_ hp⟩) hm).out;obtain⟨ids',hle⟩:=hle.out;rw[b];have hl:((s a).env.map (·.2)).length=ts.length:=by rw[<- hk a];simp
     refine hb _ (rst gh (s a)) ((s a).env.map λp=>p.2) ids' a hle (JN gh (s a)) hl ?_ (m a) l
     have:=congrArg St.Ym (m a)
     simp only at this;show A2 (del gh (ins gh _ _)) gh=none;rw[this];exact hn a
    cases b
   cases b
  cases b
 cases b
def Bg6 (hS:H4 S P){f:FuncId}{fn:Func}{first caps:List AV}{objs:List Obj}{L:List (List PV)}{p:Option PV}(i:P.funcs[f]? = some fn)
 (h:KG S P (Ft S P (objs++[Obj.yld L true]).length fn.results.toList λr objs' ks=>∃b,objs'[objs.length]? = some (.yld [] b)/\ks[objs.length]? = some true/\(b=true->BP2 p r)/\(b=false->∃a,r=.ret a)) (.code (fn.body.getD .skip) [] { env:=Af5 (first ++ .yf objs.length::caps),Ym:=Yn (objs++[Obj.yld L true]) }))
 (hc:fn.body.isSome=true:=by kernel_rfl) (hn:Nat.ble (first ++ .yf objs.length::caps).length fn.ntmps=true:=by kernel_rfl) (j:Nat.blt (objs++[Obj.yld L true]).length 1000=true:=by kernel_rfl)
 (d:Ca fn.ntmps (fn.body.getD .skip)=true:=by kernel_rfl) (g:(fn.name == "runtime.NumGoroutine")=false:=by kernel_rfl):Sh S f first caps objs L p:=by
 obtain⟨code,c⟩:=Cj7.1 hc;rw[c,Cj0]at d h;exact OV hS i c (Cn3 hn) (by simp_all) rfl d g h.out
def By9 (hS:H4 S P){f:FuncId}{fn:Func}{args:List AV}{objs:List Obj}{Q:ARes->List Obj->List Bool->Prop}(d:P.funcs[f]? = some fn)
 (h:KG S P (Ft S P objs.length fn.results.toList Q) (.code (fn.body.getD .skip) [] { env:=Af5 args,Ym:=Yn objs }))
 (hc:fn.body.isSome=true:=by kernel_rfl) (hn:Nat.ble args.length fn.ntmps=true:=by kernel_rfl) (g:Nat.blt objs.length 1000=true:=by kernel_rfl)
 (b:Ca fn.ntmps (fn.body.getD .skip)=true:=by kernel_rfl) (c:(fn.name == "runtime.NumGoroutine")=false:=by kernel_rfl):S.F f args objs Q:=by
 obtain⟨code,a⟩:=Cj7.1 hc;rw[a,Cj0]at b h;exact OV hS d a (Cn3 hn) (by simp_all) rfl b c h.out
def panE:Cfg->Option PV
 |.ops all (o::_) _ st=>match Cb all st.env o,o.op with
  |some true,.panic x=>match aev st.env x with
   |.p (.iface t y)=>some (.iface t y)
   |_=>none
  |_,_=>none
 |_=>none
def panC (x:PV):Cfg->Cfg
 |.ops _ _ K st=>.pop (.panic x) K st
 |g=>g
def BP3 (hS:H4 S P)(hc:pr){x:PV}(hk:KG S P F (panC x (stp P g)))(hp:pr=D3 (cnd P g):=by kernel_rfl)(a:panE (stp P g)=some x:=by kernel_rfl):KG S P F g:=by
 refine⟨GS hS hc ?_ hp⟩;have hk:=hk.out;generalize stp P g=g1 at hk a;unfold panE at a
 repeat' split at a<;>try contradiction
 rename_i all o rest K st _ _ y b c _ t z hx;cases a;exact BN8 hS b c hx hk
def Bz0:Cfg->Option PV
 |.pop (.panic x) [] _=>some x
 |_=>none
def BH9 (hS:H4 S P)(hc:pr){n:Nat}{rs:List ResultVar}{Q:ARes->List Obj->List Bool->Prop}{x:PV}{objs:List Obj}(outs:List Nat)(c:Q (.panic x) objs (JE n outs))(hp:pr=D3 (cnd P g):=by kernel_rfl)
 (a:Bz0 (stp P g)=some x:=by kernel_rfl) (d:I6 outs=true:=by kernel_rfl) (b:N2 outs (stp P g).st.Ym outs=some objs:=by kernel_rfl):KG S P (Ft S P n rs Q) g:=by
 refine⟨GS hS hc ?_ hp⟩;generalize stp P g=g1 at a b;unfold Bz0 at a;split at a
 .cases a;exact⟨outs,objs,d,b,c⟩
 grind
theorem BP4 (hS:H4 S P){all rest:List Oper}{o:Oper}{c:Call}{f:Operand}{as:List AV}{Ym:C7}{fn:FuncId}{as' args:List AV}{objs objs' : List Obj}{ks:List Bool}{x:PV}(ids:List Nat)
 (d:Cb all st.env o=some true) (g:o.op=.call c) (b:c.callee=.value f) (ha:JB st.Ym (c.args.toList.map (aev st.env))=some (as,Ym))
 (hw:ZM st.env f as=some (fn,as')) (i:Fl ids as' = some args) (a:N2 ids Ym ids=some objs) (j:S.F fn args objs λres o k=>res=.panic x/\o=objs' /\ k=ks)
 (l:I6 ids=true) (hy:GV objs=true) (hn:Z7 Ym ids ks (o.dst.getD 0) objs'.length=true)
 (hk:G S P F (.pop (.panic x) K { env:=st.env,Ym:=back (I3 (o.dst.getD 0) ids ks objs'.length) (I3 (o.dst.getD 0) ids ks objs'.length) objs' (M0 ids ks Ym) })) :
 G S P F (.ops all (o::rest) K st):=by
 refine Cc hS d ?_;unfold wOp;obtain⟨callee,cargs,types⟩:=c;simp only at b ha;subst b;rw[g];refine .inl ⟨as,Ym,_,_,.inl ha,hw,ids,args,objs,l,i,a,hy,hS.monoF _ _ _ _ _ ?_ j⟩;rintro _ _ _ ⟨rfl,rfl,rfl⟩;exact⟨hn,hk⟩
def BI0 (ids:List Nat)(ks:List Bool)(x:PV)(objs' : List Obj):Cfg->Cfg
 |.ops all (o::rest) K st=>match o.op with
  |.call c=>match JB st.Ym (c.args.toList.map (aev st.env))with
   |some (_,Ym)=>mkO st.env (back (I3 (o.dst.getD 0) ids ks objs'.length) (I3 (o.dst.getD 0) ids ks objs'.length) objs' (M0 ids ks Ym)) λenv Ym=>.pop (.panic x) K ⟨env,Ym⟩
   |none=>.ops all (o::rest) K st
  |_=>.ops all (o::rest) K st
 |g=>g
def BP5 (hS:H4 S P)(ids:List Nat)(hc:pr){fn:FuncId}{args:List AV}{objs objs' : List Obj}{x:PV}{ks:List Bool}(f:S.F fn args objs λres o k=>res=.panic x/\o=objs' /\ k=ks)
 (hk:KG S P F (BI0 ids ks x objs' (stp P g))) (hp:pr=D3 (cnd P g):=by kernel_rfl) (a:AQ4 ids (stp P g)=some (fn,args,objs):=by kernel_rfl) (hn:AQ5 ids ks objs'.length (stp P g)=true:=by kernel_rfl):KG S P F g:=by
 refine⟨GS hS hc ?_ hp⟩;replace hk:=hk.out;generalize stp P g=g' at a hn hk;unfold AQ4 at a
 repeat' split at a<;>try contradiction
 rename_i i j _ _ c _ _ _ ha _ _ _ hw _ _ _ _ l d b;cases a;simp at b
 grind[BI0,AQ5,GZ,BP4]
def Wh (S:X0)(R:St->Prop)(X:PV->St->Prop):M3
 |.normal,st=>S.up st R
 |.panic x,st=>X x st
 |_,_=>False
def K_upN (hS:H4 S P)(hc:pr){R:St->Prop}{X:PV->St->Prop}(st:St)(hR:R st)(hp:pr=D3 (cnd P g):=by kernel_rfl)(a:stp P g=.pop .normal [] (stp P g).st:=by kernel_rfl)
 (hle:KLe (stp P g).st st:=by exact kl):KG S P (Wh S R X) g:=by
 refine⟨GS hS hc ?_ hp⟩;obtain⟨_,hle⟩:=hle.out;rw[a];exact hS.le _ _ _ R hle hR
def K_upP (hS:H4 S P)(hc:pr){R:St->Prop}{X:PV->St->Prop}{x:PV}(b:X x (stp P g).st)(hp:pr=D3 (cnd P g):=by kernel_rfl)(a:Bz0 (stp P g)=some x:=by kernel_rfl):KG S P (Wh S R X) g:=by
 refine⟨GS hS hc ?_ hp⟩;generalize stp P g=g1 at a b;unfold Bz0 at a;split at a
 .cases a;exact b
 grind
end
section
variable {S:X0}{P:Program}{F:M3}{K:List It}{g:Cfg}{pr:Prop}
def At7 (hS:H4 S P){all:List Oper}{o:Oper}{k k' : St->Prop}{Q Q' : M3}(hk:∀s,k s->k' s)(z:∀x s,Q (.panic x) s->Q' (.panic x) s){st:St}(h:Jw S P all o k Q st):Jw S P all o k' Q' st:=by
 have e:∀st,wOp S P o k Q st->wOp S P o k' Q' st:=by
  intro st h;have n:∀d ids f args st,Aq4 S d ids f args st (LC o.dst k Q)->Aq4 S d ids f args st (LC o.dst k' Q'):=by
   rintro d ids f args st ⟨a,ob,h1,l,m,q,u⟩;refine⟨a,ob,h1,l,m,q,hS.monoF _ _ _ _ _ (λr o ks ⟨v,w⟩=>⟨v,?_⟩) u⟩;cases r with
   |ret a=>exact hk _ w
   |panic x=>exact z _ _ w
  unfold wOp at h⊢;split at h
  .rcases h with⟨as,Ym,f',as',h1,l,ids,m⟩ | ⟨j,xs,Ym,ys,rest,h1,l,m,q,u,v⟩
   .exact .inl ⟨as,Ym,f',as',h1,l,ids,n _ _ _ _ _ m⟩
   exact .inr ⟨j,xs,Ym,ys,rest,h1,l,m,q,u,λb=>hk _ (v b)⟩
  .obtain⟨as,Ym,t,y,f',h1,l,m,ids,q⟩:=h;exact⟨as,Ym,t,y,f',h1,l,m,ids,n _ _ _ _ _ q⟩
  .obtain⟨t,y,h1,l⟩:=h;exact⟨t,y,h1,z _ _ l⟩
  .obtain⟨j,cl,last,seen,jm,es,h1,l,m,q,u,v,w⟩:=h;exact⟨j,cl,last,seen,jm,es,h1,l,m,q,u,λg=>hk _ (v g),λi hi hs=>hk _ (w i hi hs)⟩
  rcases h with⟨out,h1,l,m⟩ | ⟨c,x,h1,l,m⟩ | ⟨out,h1,l,m⟩
  .exact .inl ⟨out,h1,l,hk _ m⟩
  .exact .inr (.inl ⟨c,x,h1,l,hk _ m⟩)
  exact .inr (.inr ⟨out,h1,l,hk _ m⟩)
 unfold Jw at h⊢;refine hS.mono _ _ _ (λt h=>?_) h;split at h
 .exact e _ h
 obtain⟨b,h1,l⟩:=h;refine⟨b,h1,?_⟩;split
 .rename_i hb;rw[Kb hb]at l;exact e _ l
 rename_i hb;rw[Kd hb]at l;exact hk _ l
def BP6 (all:List Oper)(n:Nat):Bool:= Nat.blt n all.length&&(List.range all.length).all λi=>Nat.blt i n||(List.range i).all λj=>((BZ1 all).getD i []).contains j
def At8 (all:List Oper)(n:Nat):Bool:=(all.take n).all λo=>match o.guard with
 |some (j,_)=>Nat.blt j n
 |none=>true
def AR2 (all:List Oper){n:Nat}(a:At8 all n=true){o:Oper}(b:o∈all.take n){k:St->Prop}{Q:M3}{s:St}(h:Jw S P (all.take n) o k Q s):Jw S P all o k Q s:=by
 have h1:=Cj2.1 a o b;unfold Jw at h⊢;cases c:o.guard with
 |none=>simp_all
 |some q=>
  simp_all[Cw6,Iq,Cq6,Kb]
def Ae6 (hS:H4 S P){all:List Oper}{n:Nat}{Q:M3}{st:St}(c:JC all=true)(u:BP6 all n=true)(hg:At8 all n=true)
 (h:Aq5 S P (all.take n) (λe s=>match e with | .normal=>Lr S P all (all.drop n) Q s | .panic x=>Q (.panic x) s|_=>False) st):Aq5 S P all Q st:=by
 obtain⟨m,hdp,Inv,h0,f,a1⟩:=h;simp only[BP6,Ci6,Cw6,Cj2,Cl6,Cl1,Cm0,Lx]at u;obtain⟨hn,u⟩:=u
 let down:(Nat->Bool)->Prop:=λD=>∀i o,D i=true->all[i]? = some o->∀e∈o.after.toList,FZ e=true->D e.on=true
 let Inv' : (Nat->Bool)->St->Prop:=λD s=>down D/\(((∀i,n<=i->D i=false)/\Inv D s) \/ ∃j,n<=j/\j<=all.length/\(∀i,i<all.length->(D i=true↔i<j))/\Lr S P all (all.drop j) Q s)
 refine⟨m,c,Inv',by grind,?_,?_⟩
 .intro D i s o ⟨hD,hc⟩ ho v a;have q:i<all.length:=(by grind);have hanc:=OT c hD i o ho a;have g:down λj=>ite (j=i) true (D j):=by
   grind
  have b:(∀j,j<i->D j=true)->(∀j,i<j->j<all.length->D j=false)->n<=i->S.up s (Lr S P all (all.drop i) Q)->Jw S P all o (Inv' λj=>ite (j=i) true (D j)) Q s:=by
   intro l hhi hni w;have hd:all.drop i=o::all.drop (i+1):=by
    rw[Cr1 q]
    grind
   rw[hd]at w;have h3:Jw S P all o (Lr S P all (all.drop (i+1)) Q) Q s:=hS.trans _ _ w;refine OW hS (λs' r=>?_) (λe s h=>h) h3;refine⟨g,.inr ⟨i+1,by omega,q,λi' hi'=>?_,r⟩⟩
   grind
  rcases hc with⟨l,hI⟩ | ⟨j,t,y,z,hw⟩
  .by_cases hi:i<n
   .have a0 : (all.take n)[i]? = some o:=by rw[Cq6,Kb hi];omega
    have h1:=AR2 all hg (by grind) (f D i s o hI a0 v a);refine At7 hS (λs' r=>?_) (λx s' h=>h) h1
    grind
   have d:∀j,j<i->D j=true:=(by grind);have e:i=n:=by
    by_cases h4:n<i
    all_goals grind
   grind
  have e:i=j:=by
   grind
  subst e;refine b (by grind) (λj h1 w=>?_) t (hS.refl _ _ hw)
  grind
 rintro D s ⟨hD,hc⟩ d;rcases hc with⟨l,hI⟩ | ⟨j,t,y,z,hw⟩
 .have:=d n hn;rw[l n (Ci9 _)]at this;grind
 have e:j=all.length:=by
  grind
 subst e;rw[List.drop_length]at hw;exact hS.refl _ _ hw
def Rl (n:Nat)(ls:List (Nat×Cls)):Cfg->SC
 |.code (.region _ ops true) _ st=>⟨ops.toList.take n,Ch1 ls 0 (ops.toList.take n),ops.toList.take n,st.env,st.Ym,[]⟩
 |_=>⟨[],[],[],[],[],[]⟩
def Bg7 (n:Nat)(env:Env)(Ym:C7):Cfg->Cfg
 |.code (.region _ ops true) K _=>.ops ops.toList (ops.toList.drop n) K ⟨env,Ym⟩
 |g=>g
def Bg8 (n:Nat):Cfg->Bool
 |.code (.region _ ops true) _ _=>JC ops.toList&&BP6 ops.toList n&&At8 ops.toList n
 |_=>false
def Bz1 (hS:H4 S P)(hc:pr)(n:Nat)(ls:List (Nat×Cls))(h:DG S P (Rl n ls (stp P g)) λenv Ym=>KG S P F (Bg7 n env Ym (stp P g)))(hp:pr=D3 (cnd P g):=by kernel_rfl)(c:Ee (stp P g)=true:=by kernel_rfl)(a:P.follows .mixedOrders=true:=by kernel_rfl)
 (b:PL (Rl n ls (stp P g)).all (Rl n ls (stp P g)).cls=true:=by kernel_rfl) (hb:Bg8 n (stp P g)=true:=by kernel_rfl):KG S P F g:=by
 have e:(λenv Ym=>KG S P F (Bg7 n env Ym (stp P g)))=λenv Ym=>G S P F (Bg7 n env Ym (stp P g)):=by funext env Ym;exact propext ⟨λh=>h.out,λh=>⟨h⟩⟩
 rw[e]at h;refine⟨GS hS hc ?_ hp⟩;have h:=h.out;generalize stp P g=g' at c b h hb;unfold Ee at c;split at c
 .rename_i id ops K st;simp only[Bg8,Ci6]at hb;show awp S P (.region id ops true) (kp S P K F) st;simp only[awp,Kk];refine Ae6 hS hb.1.1 hb.1.2 hb.2 ?_;have d:(ops.toList.take n).toArray.toList=ops.toList.take n:=rfl
  have:=AG8 hS (F:=λe s=>match e with | .normal=>Lr S P ops.toList (ops.toList.drop n) (kp S P K F) s | .panic x=>kp S P K F (.panic x) s|_=>False) (K:=[]) (id:=id) (ops:=(ops.toList.take n).toArray) (Ch1 ls 0 (ops.toList.take n)) a b h
  simp_all[G,awp,Kk,kp,Rl]
 grind
end
open Go.RowKit Go.ChangeShapes Go.Deep
mutual
inductive LeD:PV->PV->Prop
 |refl (x:PV):LeD x x
 |sl {k n:Nat}{f g:Nat->List PV}(h:∀i,i<n->LeDs (f i) (g i)):LeD (.sl false k n f) (.sl false k n g)
inductive LeDs:List PV->List PV->Prop
 |nil:LeDs [] []
 |cons {x y:PV}{l r:List PV}(h:LeD x y) (h' : LeDs l r):LeDs (x::l) (y::r)
end
theorem LeDs.refl:∀l:List PV,LeDs l l
 |[]=>.nil
 |x::l=>.cons (.refl x) (LeDs.refl l)
def LeDs.length {l r:List PV}(h:LeDs l r):l.length=r.length:=by
 induction l generalizing r with
 |nil=>cases h;rfl
 |cons x l ih=>cases h<;>grind
def LeDs.get {l r:List PV}(h:LeDs l r):∀i,LeD (l.getD i default) (r.getD i default):=by
 induction l generalizing r with
 |nil=>cases h;exact λi=>.refl _
 |cons x l ih=>
  cases h with
  |cons h h'=>intro i;cases i<;>simp_all
def LeDs.append {a b c d:List PV}(h:LeDs a b)(h' : LeDs c d):LeDs (a++c) (b++d):=by
 induction a generalizing b with
 |nil=>cases h;grind
 |cons x l ih=>cases h with|cons h1 h2=>exact .cons h1 (ih h2)
def Yq.leD {w:World}{Pi:Nat->Nat->Prop}{v:Value}{x:PV}(h:Yq w Pi v x):∀{y:PV},LeD x y->Yq w Pi v y:=by
 induction h with
 |slnil k f=>intro y hy;cases hy with
  |refl=>exact .slnil _ _
  |sl h=>exact .slnil _ _
 |sl nn b off cap k n f c hn hk hc h sp hsp ih=>
  intro y hy;cases hy with
  |refl=>exact .sl nn b off cap k n f c hn hk hc h sp hsp
  |sl h'=>exact .sl false b off cap k n _ c hn (λi d=>by rw[<- (h' i d).length];grind) hc (λi j d g=>ih i j d g ((h' i d).get j)) sp hsp
 |v x=>intro y hy;cases hy;exact .v x
 |bb b=>intro y hy;cases hy;exact .bb b
 |str l=>intro y hy;cases hy;exact .str l
 |agg vs cs hs h1 h ih=>intro y hy;cases hy;exact .agg vs cs hs h1 h
 |ptr b off cs c hc h ih=>intro y hy;cases hy;exact .ptr b off cs c hc h
 |iface t x a h ih=>intro y hy;cases hy;exact .iface t x a h
 |fn f x y a b hx hy ha hb iha ihb=>intro y hy;cases hy;exact .fn f x _ a b hx ‹_› ha hb
def CRep.leD {W:World}{cs:List Value}{p q:List PV}(h:CRep W cs p)(hl:LeDs p q):CRep W cs q:=
 ⟨by rw[h.1,hl.length],λi a=>⟨(h.2 i (by rw[hl.length];omega)).1.leD (hl.get i),(h.2 i (by rw[hl.length];omega)).2⟩⟩
section
variable {P:Program}{t e:TypeId}{m:Nat}{pvs:List PV}
def Fk (f:Nat->Nat):Nat->Nat
 |0=>0
 |k+1=>Fk f k+f k
def BP7 (f:Nat->Nat){k n:Nat}(h:k<=n):Fk f k<=Fk f n:=by
 induction h with
 |refl=>omega
 |step _ ih=>grind[Fk]
def JP (f:Nat->Nat){k n:Nat}(h:k<n):f k<=Fk f n:=by
 have:=BP7 f (show k+1<=n from h)
 grind[Fk]
def Ae7 {f g:Nat->Nat}:∀{n:Nat},(∀i,i<n->f i<=g i)->Fk f n<=Fk g n
 |0,_=>Ci9 _
 |n+1,h=>by
  have h1:=Ae7 (n:=n) λi a=>h i (by omega);have b:=h n (by omega)
  grind[Fk]
def Wi (f:Nat->Nat):∀n,Ap7 ((List.range n).map f)=Fk f n:=by
 have app:∀a b:List Nat,Ap7 (a++b)=Ap7 a+Ap7 b:=by
  intro a b
  induction a with
  |nil=>simp[Ap7]
  |cons x r ih=>grind[Ad0]
 intro n
 induction n with
 |zero=>rfl
 |succ n ih=>rw[Cp5,Cp6,app,ih];simp[Fk,Ap7]
def IC (P:Program)(t:TypeId){T:Type}(c:T->List PV)(W:T->Prop)(sz:T->Nat):Prop:= ∀(m:Nat) (pvs:List PV),MC P m t pvs->∃x:T,LeDs pvs (c x)/\W x/\sz x<=m
def J2 {k:IntKind}(ht:P.underlying t=some (.int k)):IC P t (cI k) (λn=>(Lit.int k n).wf=true) (λ_=>1):=by
 intro m pvs h;cases h with
 |bool ht'=>rw[ht]at ht';grind
 |str ht'=>rw[ht]at ht';grind
 |slice _ ht'=>rw[ht]at ht';grind
 |arr ht'=>rw[ht]at ht';grind
 |struct ht'=>rw[ht]at ht';grind
 |int ht' hw hm=>rw[ht]at ht';grind[LeDs.refl]
def Wj (ht:P.underlying t=some .bool):IC P t cB (λ_=>True) (λ_=>1):=by
 intro m pvs h;cases h with
 |int ht'=>rw[ht]at ht';grind
 |str ht'=>rw[ht]at ht';grind
 |slice _ ht'=>rw[ht]at ht';grind
 |arr ht'=>rw[ht]at ht';grind
 |struct ht'=>rw[ht]at ht';grind
 |bool ht' hm=>exact⟨_,LeDs.refl _,trivial,hm⟩
def HI (ht:P.underlying t=some .string):IC P t cS (λ_=>True) (λl=>l.length+1):=by
 intro m pvs h;cases h with
 |int ht'=>rw[ht]at ht';grind
 |bool ht'=>rw[ht]at ht';grind
 |slice _ ht'=>rw[ht]at ht';grind
 |arr ht'=>rw[ht]at ht';grind
 |struct ht'=>rw[ht]at ht';grind
 |str ht' hm=>exact⟨_,LeDs.refl _,trivial,hm⟩
def M1 {T:Type}[Inhabited T]{c:T->List PV}{W:T->Prop}{sz:T->Nat}{k:Nat}(ht:P.underlying t=some (.slice e))(hk:P.cellsOf e=k)(h:IC P e c W sz) :IC P t (cL k c) (λs=>∀i,i<s.n->W (s.g i)) (λs=>Fk (λi=>sz (s.g i)) s.n+1):=by
 intro m pvs hs;cases hs with
 |int ht'=>rw[ht]at ht';grind
 |bool ht'=>rw[ht]at ht';grind
 |str ht'=>rw[ht]at ht';grind
 |arr ht'=>rw[ht]at ht';grind
 |struct ht'=>rw[ht]at ht';grind
 | @slice _ _ e' n f ms ht' hl hel hm=>
  rw[ht]at ht';cases ht';obtain⟨g,b⟩:=choose_lt (α:=T) (p:=λi x=>LeDs (f i) (c x)/\W x/\sz x<=ms i) λi a=>h _ _ (hel i a);refine⟨⟨n,g⟩,?_,by grind,?_⟩
  .subst hk;exact .cons (.sl (by grind)) .nil
  have h1:=Ae7 (n:=n) λi a=>(b i a).2.2;rw[Wi]at hm
  grind
def J9 {fs:Array Field}(ht:P.underlying t=some (.struct fs))(h:MC P m t pvs):∃m',JJ P m' (fs.toList.map (·.type)) pvs/\m' + 1<=m:=by cases h<;>grind
def B1 {ts:List TypeId}(h:JJ P m (t::ts) pvs):∃a b p q,pvs=p++q/\MC P a t p/\JJ P b ts q/\a+b<=m:=by cases h<;>grind
def Q8 (h:JJ P m [] pvs):pvs=[]:=by cases h;rfl
end
section
variable {κ ν : Type}
def JQ (eq : κ -> κ -> Bool)(k : κ)(z : ν):List (κ × ν)->Nat × ν×List (κ × ν)
 |[]=>(0,z,[(k,z)])
 |(a,v)::es=>ite (eq k a) (0,v,(k,v)::es) ((JQ eq k z es).1+1,(JQ eq k z es).2.1,(a,v)::(JQ eq k z es).2.2)
def BW3:List (κ × ν)->Nat -> ν -> List (κ × ν)
 |[],_,_=>[]
 |(a,_)::es,0,v=>(a,v)::es
 |p::es,n+1,v=>p::BW3 es n v
def Rm {kP : κ -> PV}{vP : ν -> PV}{cmp:PV->PV->Option Bool}{eq : κ -> κ -> Bool}(hc:∀a b,cmp (kP a) (kP b)=some (eq a b))(k : κ)(z : ν):∀es:List (κ × ν),
 ∃q,GU cmp (kP k) (DX kP vP es)=some q/\ent (kP k) (vP z) (DX kP vP es) q=((JQ eq k z es).1,vP (JQ eq k z es).2.1,DX kP vP (JQ eq k z es).2.2)
 |[]=>⟨none,rfl,rfl⟩
 |(a,v)::es=>by
  have e0:DX kP vP ((a,v)::es)=(kP a,vP v)::DX kP vP es:=rfl;rw[e0];simp only[GU,hc,JQ];cases h:eq k a
  .obtain⟨q,h1,c⟩:=Rm (vP:=vP) hc k z es;refine⟨q.map (· + 1),by grind,?_⟩;cases q with
   |none=>simp only[ent,Cj6]at c;simp only[ent,Cu6,Ci8,Lw,Cm2,Cj6];refine⟨by rw[c.1],c.2.1,?_⟩;rw[Cj3,c.2.2];rfl
   |some j=>simp only[ent,Cj6]at c;simp only[ent,Cj4,Ci8,Lw,Cj6];refine⟨by rw[c.1],by grind,?_⟩;rw[Cz2,Cz8,c.2.2];rfl
  exact⟨some 0,rfl,rfl⟩
def Ae8 {eq : κ -> κ -> Bool}(c:∀a b,eq a b=true->a=b){k : κ}{z v : ν}:∀{es:List (κ × ν)},K4 eq k es=some v->(JQ eq k z es).2=(v,es)
 |[],h=>by cases h
 |(a,x)::es,h=>by
  simp only[K4]at h;simp only[JQ];split at h
  .grind
  rename_i hk;rw[Kd hk,Ae8 c h]
def ME (eq : κ -> κ -> Bool)(k : κ)(z : ν):∀es:List (κ × ν),(JQ eq k z es).1<(JQ eq k z es).2.2.length
 |[]=>by simp[JQ]
 |(a,v)::es=>by
  have:=ME eq k z es
  grind[JQ]
def Nz {kP : κ -> PV}{vP : ν -> PV}:∀(es:List (κ × ν)) (i:Nat) (v : ν),i<es.length->BL1 (DX kP vP es) i (vP v)=DX kP vP (BW3 es i v)
 |[],i,v,h=>Kf h (by simp)
 |(a,x)::es,0,v,h=>rfl
 |p::es,n+1,v,h=>by
  have ih:=Nz (kP:=kP) (vP:=vP) es n v (by grind);have e0:DX kP vP (p::es)=(kP p.1,vP p.2)::DX kP vP es:=rfl;have e1:DX kP vP (BW3 (p::es) (n+1) v)=(kP p.1,vP p.2)::DX kP vP (BW3 es n v):=rfl;rw[e0,e1,<- ih]
  grind[BL1,List.getD_cons_succ]
def NA (eq : κ -> κ -> Bool)(k : κ)(z v : ν):∀es:List (κ × ν),BW3 (JQ eq k z es).2.2 (JQ eq k z es).1 v=Fj eq k v es
 |[]=>rfl
 |(a,x)::es=>by
  have ih:=NA eq k z v es;simp only[JQ,Fj];by_cases h:eq k a=true
  all_goals simp_all[Kk,Lw,Ci8,BW3,JQ]
end
section
variable {S:X0}{P:Program}{F:M3}{g:Cfg}{pr:Prop}
structure EntI where
 kt:TypeId
 key:PV
 z:PV
 es:List (PV×PV)
end
section
variable {S:X0}{P:Program}{pr:Prop}{sc:SC}{k:Env->C7->Prop}
def Bz2 (P:Program)(sc:SC):Option EntI:=match sc.cls,sc.rest with
 |cl::_,o::_=>match AP sc.all sc.env o,o.op,Ac7 cl sc.env (o.dst.getD 0) o.op with
  |some true,.mapEntry t m k,true=>match aev sc.env k,aev sc.env m with
   |.p key,.Yr j=>match A2 sc.Ym j,tk P t with
    |some (.map es),some (.map kt e)=>match LB P e with
     |some z=>if Jv P kt (nP key) then some ⟨kt,nP key,z,es⟩else none
     |none=>none
    |_,_=>none
   |_,_=>none
  |_,_,_=>none
 |_,_=>none
def Ae9 (P:Program)(sc:SC):Option EntI:=match sc.cls,sc.rest with
 |.l js::_,o::_=>match AP sc.all sc.env o,o.op with
  |some true,.mapEntry t m k=>match aev sc.env k,aev sc.env m with
   |.p key,.Yr j=>if js.contains j then match A2 sc.Ym j,tk P t with
    |some (.map es),some (.map kt e)=>match LB P e with
     |some z=>if Jv P kt (nP key) then some ⟨kt,nP key,z,es⟩else none
     |none=>none
    |_,_=>none
    else none
   |_,_=>none
  |_,_=>none
 |_,_=>none
def Bz3 (i:Nat)(y:PV)(es' : List (PV×PV))(sc:SC):SC:=match sc.rest with
 |o::rest=>match o.op with
  |.mapEntry _ m _=>match aev sc.env m with
   |.Yr j=>Bx4 o.dst (.tup [.p y,.p (pI .i64 i)]) sc.env (ins j (.map es') sc.Ym) λenv Ym=>⟨sc.all,sc.cls.tail,rest,env,Ym,sc.kn⟩
   |_=>sc
  |_=>sc
 |[]=>sc
def Bg9 (hc:pr){kt:TypeId}{key z y:PV}{es es' : List (PV×PV)}{i:Nat}(f:∃q,GU (Lq P kt) key es=some q/\ent key z es q=(i,y,es'))(b:D3 (KU P kt))(hk:DG S P (Bz3 i y es' (DB P sc)) k)
 (hp:pr=D3 (Wa P sc):=by kernel_rfl) (a:Bz2 P (DB P sc)=some ⟨kt,key,z,es⟩:=by kernel_rfl):DG S P sc k:=by
 refine⟨Bf7 hc ?_ hp⟩;obtain⟨q,f,u⟩:=f;replace hk:=hk.out;generalize DB P sc=s at a hk;obtain⟨all,cls,rest,env,Ym,kn⟩:=s;cases rest with
 |nil=>cases cls<;>simp[Bz2]at a
 |cons o rest=>
  cases cls with
  |nil=>grind[Bz2]
  |cons cl cls=>
   simp only[Bz2]at a
   repeat' split at a<;>try contradiction
   rename_i t m kk l g d _ _ kp j h1 n _ _ es0 kt0 e0 w ht _ z0 x r;simp at a;obtain⟨rfl,rfl,rfl,rfl⟩:=a;simp only[Bz3,g,n,Gg,Co6]at hk;refine AH1 (c:=KU P kt0) (v:=.tup [.p y,.p (pI .i64 i)]) (regs':=ins j (.map es') Ym) l ?_ b d hk;rw[g]
   grind[aop]
def Bz4 (hc:pr){kt:TypeId}{key z y:PV}{es:List (PV×PV)}{i:Nat}(d:∃q,GU (Lq P kt) key es=some q/\ent key z es q=(i,y,es))(b:D3 (KU P kt))(hk:DG S P (Bz3 i y es (DB P sc)) k)
 (hp:pr=D3 (Wa P sc):=by kernel_rfl) (a:Ae9 P (DB P sc)=some ⟨kt,key,z,es⟩:=by kernel_rfl):DG S P sc k:=by
 refine⟨Bf7 hc ?_ hp⟩;obtain⟨q,d,x⟩:=d;replace hk:=hk.out;generalize DB P sc=s at a hk;obtain⟨all,cls,rest,env,Ym,kn⟩:=s;cases rest with
 |nil=>cases cls<;>simp[Ae9]at a
 |cons o rest=>
  cases cls with
  |nil=>grind[Ae9]
  |cons cl cls=>
   cases cl with
   |l js=>
    simp only[Ae9]at a
    repeat' split at a<;>try contradiction
    rename_i t m kk g n _ _ kp j h1 r u _ _ es0 kt0 e0 f ht _ z0 hz v;simp at a;obtain⟨rfl,rfl,rfl,rfl⟩:=a;simp only[Bz3,n,r,Gg,Co6]at hk;have w:∀R2:C7,A2 R2 j=some (.map es0)->aop P env R2 (o.dst.getD 0) o.op=some ⟨KU P kt0,.tup [.p y,.p (pI .i64 i)],ins j (.map es0) R2⟩:=by
     grind[aop]
    have c:∀R2:C7,A2 R2 j=some (.map es0)->∀q,A2 (ins j (.map es0) R2) q=A2 R2 q:=by
     grind[O7]
    refine⟨true,g,?_⟩;rw[Kb rfl];exact⟨_,_,.inl ⟨_,w Ym f,b,trivial,c Ym f,by grind⟩,hk⟩
   |_=>simp[Ae9]at a
def Bz5 (sc:SC):Option (Int×PV×List (PV×PV)):=match sc.cls,sc.rest with
 |cl::_,o::_=>match AP sc.all sc.env o,o.op,Ac7 cl sc.env (o.dst.getD 0) o.op with
  |some true,.entryStore _ m s x,true=>match aev sc.env m,asInt (aev sc.env s),Fs sc.Ym (aev sc.env x)with
   |.Yr j,some s,some (y,Ym)=>match A2 Ym j with
    |some (.map es)=>some (s,y,es)
    |_=>none
   |_,_,_=>none
  |_,_,_=>none
 |_,_=>none
def Cb2 (es' : List (PV×PV))(sc:SC):SC:=match sc.rest with
 |o::rest=>match o.op with
  |.entryStore _ m s x=>match aev sc.env m,Fs sc.Ym (aev sc.env x)with
   |.Yr j,some (_,Ym)=>Bx4 o.dst QG sc.env (ins j (.map es') Ym) λenv Ym=>⟨sc.all,sc.cls.tail,rest,env,Ym,sc.kn⟩
   |_,_=>sc
  |_=>sc
 |[]=>sc
def Yi (hc:pr){i:Nat}{y:PV}{es es' : List (PV×PV)}(n:i<es.length)(f:BL1 es i y=es')(hk:DG S P (Cb2 es' (DB P sc)) k)
 (hp:pr=D3 (Wa P sc):=by kernel_rfl) (a:Bz5 (DB P sc)=some ((i:Int),y,es):=by kernel_rfl):DG S P sc k:=by
 refine⟨Bf7 hc ?_ hp⟩;replace hk:=hk.out;generalize DB P sc=s at a hk;obtain⟨all,cls,rest,env,Ym,kn⟩:=s;cases rest with
 |nil=>cases cls<;>simp[Bz5]at a
 |cons o rest=>
  cases cls with
  |nil=>grind[Bz5]
  |cons cl cls=>
   simp only[Bz5]at a
   repeat' split at a<;>try contradiction
   rename_i t m s x g d b _ _ _ j sv y0 regs1 h1 q l _ es0 r;simp at a;obtain⟨rfl,rfl,rfl⟩:=a;subst f;simp only[Cb2,d,h1,l,Gg,Co6]at hk;refine AH1 (c:=[0<=(i:Int)/\(i:Int)<(es0.length:Int)]) (v:=QG) (regs':=ins j (.map (BL1 es0 i y0)) regs1) g ?_ (show 0<=(i:Int)/\(i:Int)<(es0.length:Int) by omega) b hk;rw[d]
   grind[aop]
end
section
variable {S:X0}{P:Program}{F:M3}{g:Cfg}{pr:Prop}
def bldK (P:Program):Cfg->Cfg
 |.ops all (o::rest) K st=>match bop P st.Ym (o.dst.getD 0) o.op with
  |some out=>AQ3 o.dst out.val st.env out.Ym λst=>.ops all rest K st
  |none=>.ops all (o::rest) K st
 |g=>g
def bldI (P:Program):Cfg->Bool
 |.ops all (o::rest) K st=>(match Cb all st.env o with|some true=>true|_=>false)&&(bop P st.Ym (o.dst.getD 0) o.op).isSome
 |_=>false
def K_bld (hS:H4 S P)(hc:pr)(d:Nat)(hk:KG S P F (bldK P (Il P d g)))
 (hp:pr=D3 (BO1 P d g):=by kernel_rfl) (c:bldI P (Il P d g)=true:=by kernel_rfl):KG S P F g:=by
 refine⟨(Iu (u:=some d) (F:=F) hS 400 [] g (by subst hp;exact hc)).2 ?_⟩;have hk:=hk.out;show G S P F (Il P d g);generalize Il P d g=g1 at hk c;unfold bldI at c;split at c
 .rename_i all o rest K st;simp at c;obtain⟨i,hb⟩:=c;split at i
  .rename_i f;obtain⟨out,a⟩:=Cj7.1 hb;simp only[bldK,a,Hn]at hk;refine Cc hS f ?_;have b:D3 out.cond:=by
    unfold bop at a
    repeat' split at a<;>try contradiction
    cases a;exact trivial
   unfold wOp;split
   .grind[bop]
   .grind[bop]
   .grind[bop]
   .grind[bop]
   exact .inr (.inr ⟨out,a,b,hk⟩)
  grind
 grind
structure NextI where
 cl:Nat
 last:Nat
 seen:List Nat
 es:List (PV×PV)
def Cb3:Cfg->Option NextI
 |.ops all (o::rest) K st=>match Cb all st.env o,o.op with
  |some true,.next x false=>match aev st.env x with
   |.reg j 0=>match A2 st.Ym j with
    |some (.blk (1::cl::last::seen) jm)=>match A2 st.Ym jm with
     |some (.map es)=>some ⟨cl,last,seen,es⟩
     |_=>none
    |_=>none
   |_=>none
  |_,_=>none
 |_=>none
def Cb4:Cfg->Cfg
 |.ops all (o::rest) K st=>AQ3 o.dst (.tup [.p (.bb false)]) st.env st.Ym λst=>.ops all rest K st
 |g=>g
def Cb5 (i:Nat)(ky vl:PV):Cfg->Cfg
 |.ops all (o::rest) K st=>match o.op with
  |.next x _=>match aev st.env x with
   |.reg j _=>match A2 st.Ym j with
    |some (.blk (_::cl::_::seen) jm)=>match A2 st.Ym jm with
     |some (.map es)=>AQ3 o.dst (.tup [.p (.bb true),.p ky,.p vl]) st.env (ins j (.blk (1::cl::es.length::(i::seen)) jm) st.Ym) λst=>.ops all rest K st
     |_=>.ops all (o::rest) K st
    |_=>.ops all (o::rest) K st
   |_=>.ops all (o::rest) K st
  |_=>.ops all (o::rest) K st
 |g=>g
def Cb6 (hS:H4 S P)(hc:pr){cl last:Nat}{seen:List Nat}{es:List (PV×PV)}(h1:cl=es.length)(q:cl<=last){ky vl:Nat->PV}(f:∀i,i<es.length->es.getD i default=(ky i,vl i))
 (c:(∀i,i<es.length->i∈seen)->KG S P F (Cb4 (stp P g))) (ht:∀i,i<es.length->i ∉ seen->KG S P F (Cb5 i (ky i) (vl i) (stp P g)))
 (hp:pr=D3 (cnd P g):=by kernel_rfl) (d:Cb3 (stp P g)=some ⟨cl,last,seen,es⟩:=by kernel_rfl):KG S P F g:=by
 refine⟨GS hS hc ?_ hp⟩;replace c:=λx=>(c x).out;replace ht:=λi a b=>(ht i a b).out;generalize stp P g=g1 at c ht d;unfold Cb3 at d
 repeat' split at d<;>try contradiction
 rename_i all o rest K st _ _ x r l _ j hx _ cl' last' seen' jm m _ es' hm;cases d;simp only[Cb4,Cb5,l,hx,m,hm,Hn]at c ht;refine Cc hS r ?_;unfold wOp;rw[l];exact⟨j,cl,last,seen,jm,es,hx,m,hm,h1,q,c,λi n hs=>by rw[f i n];exact ht i n hs⟩
structure EntVI where
 last:Nat
 i:Nat
 es:List (PV×PV)
def Cb7:Cfg->Option EntVI
 |.ops all (o::rest) K st=>match Cb all st.env o,o.op with
  |some true,.entry x=>match aev st.env x with
   |.reg j 0=>match A2 st.Ym j with
    |some (.blk (1::_::last::i::_) jm)=>match A2 st.Ym jm with
     |some (.map es)=>some ⟨last,i,es⟩
     |_=>none
    |_=>none
   |_=>none
  |_,_=>none
 |_=>none
def Cb8 (ky vl:PV):Cfg->Cfg
 |.ops all (o::rest) K st=>AQ3 o.dst (.tup [.p ky,.p vl]) st.env st.Ym λst=>.ops all rest K st
 |g=>g
def Cb9 (hS:H4 S P)(hc:pr)(d:Nat){last i:Nat}{es:List (PV×PV)}(h1:last=es.length)(b:i<es.length)(ky vl:PV)(f:es.getD i default=(ky,vl))(hk:KG S P F (Cb8 ky vl (Il P d g)))
 (hp:pr=D3 (BO1 P d g):=by kernel_rfl) (a:Cb7 (Il P d g)=some ⟨last,i,es⟩:=by kernel_rfl):KG S P F g:=by
 refine⟨(Iu (u:=some d) (F:=F) hS 400 [] g (by subst hp;exact hc)).2 ?_⟩;have hk:=hk.out;show G S P F (Il P d g);generalize Il P d g=g1 at hk a;unfold Cb7 at a
 repeat' split at a<;>try contradiction
 rename_i all o rest K st _ _ x l m _ j hx _ cl' last' i' seen' jm n _ es' hm;cases a;simp only[Cb8,Hn]at hk;refine Cc hS l ?_;refine MB (c:=[last=es.length/\i<es.length]) (v:=.tup [.p ky,.p vl]) (R':=st.Ym) ?_ ⟨h1,b⟩ hk;rw[m]
 grind[aop]
def Cc0 (hS:H4 S P)(hc:pr)(n:Nat)(Pr:Nat->Prop)(s:List Nat->St)
 (b:∀{X:Type}{s' : X->St}{J:X->Prop}{m:X->Nat}{k:Nat}(seen:List Nat),(∀i∈seen,i<n/\Pr i) ->
  (∀{g' : Cfg}{pr:Prop}{i:Nat},pr->i<n->i ∉ seen->Pr i->(hp:pr=D3 (cnd P g'):=by kernel_rfl)->(a:stp P g' = .pop .normal (.lp X s' J m k::(stp P g).k) (stp P g').st:=by kernel_rfl)->(hle:KLe (stp P g').st (s (i::seen)):=by exact kl)->KG S P F g') ->
  KG S P F (.code (Uz (stp P g)) (.lp X s' J m k::(stp P g).k) (s seen)))
 (hp:pr=D3 (cnd P g):=by kernel_rfl) (hl:JL (stp P g)=true:=by kernel_rfl) (hle:KLe (stp P g).st (s []):=by exact kl):KG S P F g:=by
 refine⟨GS hS hc ?_ hp⟩;rw[XX hl];obtain⟨ids,hle⟩:=hle.out;refine AE9 hS s (λseen=>∀i∈seen,i<n/\Pr i) (λseen=>((List.range n).filter λi=>!seen.contains i).length) [] ids hle (by grind) λseen c=>?_;refine (b seen c λ{_ _ i} hc d hs j hp a hle=>⟨GS hS hc ?_ hp⟩).out;obtain⟨_,hle⟩:=hle.out;rw[a];refine Aq7 hS (i::seen) _ hle (λq f=>?_) ?_
 .grind
 refine filter_lt (λq=>!seen.contains q) (λq=>!(i::seen).contains q) (λq f=>?_) i ?_ ?_ (List.range n) (Cl6.2 d)
 all_goals grind
end
section
variable {S:X0}{P:Program}{pr:Prop}{sc:SC}{k:Env->C7->Prop}
def BP8:AV->Bool
 |.vec _ | .vecp _ _=>false
 |_=>true
def Rn {R:C7}:∀{l:List AV},l.all BP8=true->JB R l=some (l,R)
 |[],_=>rfl
 |a::r,h=>by simp only[Cq7,Ci6]at h;simp only[JB,Rn h.2];cases a<;>first|rfl|exact Kf h.1 (by simp[BP8])
def Si {ids:List Nat}{R R2:C7}:∀{l:List Nat},(∀j∈l,A2 R2 j=A2 R j)->N2 ids R2 l=N2 ids R l
 |[],_=>rfl
 |j::l,h=>by simp only[N2,h j (by simp),Si (l:=l) λq a=>h q (by simp[a])]
def HJ {q:Nat}:∀{ids:List Nat}{ks:List Bool}{R:C7},q ∉ ids->A2 (M0 ids ks R) q=A2 R q
 |[],ks,R,_=>by cases ks<;>rfl
 |j::ids,[],R,h=>by simp at h;simp only[M0];rw[HJ h.2,O7,Kd (Cp8 h.1)]
 |j::ids,b::ks,R,h=>by
  simp at h;simp only[M0];split
  .exact HJ h.2
  rw[HJ h.2,O7,Kd (Cp8 h.1)]
def ID {q:Nat}:∀{ids:List Nat}{ks:List Bool}{A B:C7},A2 A q=A2 B q->A2 (M0 ids ks A) q=A2 (M0 ids ks B) q
 |[],ks,A,B,h=>by cases ks<;>exact h
 |j::ids,[],A,B,h=>by simp only[M0];exact ID (by rw[O7,O7,h])
 |j::ids,b::ks,A,B,h=>by
  simp only[M0];split
  .exact ID h
  exact ID (by rw[O7,O7,h])
def Yj (ids:List Nat)(ks:List Bool)(n:Nat)(sc:SC):Bool:=match sc.cls,sc.rest with
 |.a js::_,o::_=>match o.op with
  |.call c=>((c.args.toList.map (aev sc.env)).all BP8&&ids.all λq=>js.contains q)&&(((I3 (o.dst.getD 0) ids ks n).all λq=>js.contains q)&&((List.range n).all λp=>js.contains (nid (o.dst.getD 0) p))&&Z7 sc.Ym ids ks (o.dst.getD 0) n)
  |_=>false
 |_,_=>false
def Yk (ids:List Nat)(hc:pr){fn:FuncId}{args:List AV}{objs objs' : List Obj}{r:AV}{ks:List Bool}(u:Yo S fn args objs r objs' ks)(hk:DG S P (Wd ids ks r objs' (DB P sc)) k)
 (hp:pr=D3 (Wa P sc):=by kernel_rfl) (b:Wb ids (DB P sc)=some (fn,args,objs):=by kernel_rfl) (hn:Yj ids ks objs'.length (DB P sc)=true:=by kernel_rfl):DG S P sc k:=by
 refine⟨Bf7 hc ?_ hp⟩;replace hk:=hk.out;generalize DB P sc=s at b hn hk;obtain⟨all,cls,rest,env,Ym,kn⟩:=s;cases rest with
 |nil=>grind[Wb]
 |cons o rest=>
  simp only[Wb]at b;split at b
  .rename_i c v l;split at b
   .rename_i f m;split at b
    .rename_i as regs1 ha;split at b
     .rename_i fn' as' hw;split at b
      .rename_i a0 ob0 w n;split at b
       .rename_i d;cases b;simp at d;cases cls with
        |nil=>grind[Yj]
        |cons cl cls=>
         cases cl with
         |a js=>
          simp only[Yj,l,Ci6]at hn;obtain⟨⟨g,x⟩,⟨y,z⟩,a1⟩:=hn;rw[Rn g]at ha;cases ha;simp only[Wd,l,Rn g,Gg,Co6]at hk;have t:∀q∈ids,q∈js:=(by grind);have i:∀q,q ∉ js->q ∉ I3 (o.dst.getD 0) ids ks objs'.length:=(by grind);refine⟨true,v,?_⟩;rw[Kb rfl];refine⟨_,_,.inr (.inr (.inr (.inr ⟨js,rfl,λq j=>?_,λR2 h2=>?_⟩))),hk⟩
          .rw[KZ (i q j),HJ (by grind)]
          refine⟨_,⟨c,f,_,R2,fn,as',args,objs,objs',ks,r,ids,l,m,Rn g,hw,w,(Si (by grind)).trans n,u,d.1,d.2,?_,rfl,rfl⟩,λq j=>Se (ID (h2 q j)),λq j=>(KZ (i q j)).trans (HJ (by grind))⟩
          grind[Z7,List.all_eq_true,nid]
         |_=>simp[Yj]at hn
       grind
      grind
     grind
    grind
   grind
  grind
end
section
variable {S:X0}{P:Program}{g:Cfg}{pr:Prop}
def Bh0 (outs:List Nat):List Nat->List Obj->C7
 |j::js,o::os=>ins j (unO outs o) (Bh0 outs js os)
 |_,_=>[]
def Bh1:List ResultVar->List AV->Env
 |.tmp t::rs,a::l=>ins t a (Bh1 rs l)
 |_,_=>[]
def BP9 (rs:List ResultVar)(outs:List Nat)(a:AV)(objs:List Obj):St:=
 ⟨match rs with
  |[r]=>Bh1 [r] [unA outs a]
  |rs=>match a with
   |.tup l=>Bh1 rs (unL outs l)
   |_=>[],Bh0 outs outs objs⟩
def kO (hS:H4 S P)(hc:pr){n:Nat}{rs:List ResultVar}{Q:ARes->List Obj->List Bool->Prop}{a:AV}{objs:List Obj}(outs:List Nat)(b:Q (.ret a) objs (JE n outs):=by exact⟨rfl,rfl,rfl⟩)(hp:pr=D3 (cnd P g):=by kernel_rfl)
 (c:(BW2 (stp P g)).isSome=true:=by kernel_rfl) (hle:KLe (stp P g).st (BP9 rs outs a objs):=by exact kl) (d:AQ7 P (BP9 rs outs a objs) rs outs=some (a,objs):=by kernel_rfl):KG S P (Ft S P n rs Q) g:=
 J8 hS hc (BP9 rs outs a objs) outs b hp c hle d
end
section
variable {α : Type}
def Bh2 (c : α -> List PV):Nat->List α -> List (Nat×List PV)
 |_,[]=>[]
 |k,a::l=>(k,c a)::Bh2 c (k+1) l
def Af0 (c : α -> List PV)(z:List PV):∀(l:List α) (k i:Nat) (d : α),i<l.length->G7 z (Bh2 c k l) (k+i)=c (l.getD i d)
 |[],k,i,d,h=>by grind
 |a::l,k,0,d,h=>by simp[Bh2,G7]
 |a::l,k,i+1,d,h=>by
  have:=Af0 c z l (k+1) i d (by grind)
  rw[show k+1+i=k+(i+1) by omega]at this
  simp_all[Bh2,G7,Kd]
def AR3 [Inhabited α](c : α -> List PV)(l:List α)(z:List PV):(Ys.fn l.length (Sl.of l).n (G7 z (Bh2 c 0 l)) (λi=>c ((Sl.of l).g i))).ok:=⟨rfl,λi a=>by
 have:=Af0 c z l 0 i default a
 rw[Cl5]at this;omega⟩
def P0 (c : α -> List PV)(v:Sl α)(x : α)(z:List PV):(Ys.fn (v.n+1) (v.push x).n (Du v.n (λi=>c (v.g i)) (G7 z [(0,c x)])) (λi=>c ((v.push x).g i))).ok:=⟨rfl,app1 same rfl rfl⟩
def appS (c : α -> List PV)(v w:Sl α):(Ys.fn (v.n+w.n) (v.app w).n (Du v.n (λi=>c (v.g i)) (λi=>c (w.g i))) (λi=>c ((v.app w).g i))).ok:=⟨rfl,Ad3 same rfl same rfl⟩
def PP (n:Nat)(f:Nat->PV):(Ys.fn n n (λi=>[(λi=>(Fi n f).getD i default) i]) (λi=>[f i])).ok:=⟨rfl,EA n f⟩
def Bz6 (n:Nat)(z:PV):(Ys.fn n n (λi=>[(λi=>(List.replicate n z).getD i default) i]) (λ_=>[z])).ok:=⟨rfl,Sg rfl⟩
def Br8 (c : α -> List PV)(v:Sl α)(z:List PV):(Ys.fn (0+v.n) v.n (Du 0 (G7 z []) (λi=>c (v.g i))) (λi=>c (v.g i))).ok:=⟨Cl5 _,λi _=>by simp[Du]⟩
variable {s t:St}{L M:Ys}
def kl1 (i:Nat)(h:L.ok)(h1:(leI s t).map (Bx3 [i] Ys.src)=(leI s t).map (Bx3 [i] Ys.tgt):=by kernel_rfl)
 (a:(leI s t).map (λK=>[K[i]?])=some [some L]:=by kernel_rfl):KLe s t:=klR [(i,L)] (al1 h al0) h1 a
def kl2 (i j:Nat)(h:L.ok)(g:M.ok)(h1:(leI s t).map (Bx3 [i,j] Ys.src)=(leI s t).map (Bx3 [i,j] Ys.tgt):=by kernel_rfl)
 (a:(leI s t).map (λK=>[K[i]?,K[j]?])=some [some L,some M]:=by kernel_rfl):KLe s t:=klR [(i,L),(j,M)] (al1 h (al1 g al0)) h1 a
end
section
variable {S:X0}{P:Program}{F:M3}{g:Cfg}{pr:Prop}{sc:SC}{k:Env->C7->Prop}{κ ν : Type}
def lkC {kP : κ -> PV}{vP : ν -> PV}{cmp:PV->PV->Option Bool}{eq : κ -> κ -> Bool}(hc:∀a b,cmp (kP a) (kP b)=some (eq a b)){q : κ}{es:List (κ × ν)}{r:Option ν}(o:K4 eq q es=r):find cmp (kP q) (DX kP vP es)=some (r.map vP):=by
 grind[Ad4]
def At9 (hS:H4 S P)(hc:pr)(kt e:TypeId)(kP : κ -> PV)(vP : ν -> PV)(eq : κ -> κ -> Bool){q : κ}{es:List (κ × ν)}{v : ν}(o:K4 eq q es=some v)(c:D3 (KU P kt))(hk:KG S P F (Bw8 (vP v) true (stp P g)))
 (d:∀a b,Lq P kt (kP a) (kP b)=some (eq a b):=by exact λ_ _=>by kernel_rfl) (hp:pr=D3 (cnd P g):=by kernel_rfl) (f:Bw7 P (stp P g)=some ⟨kt,e,kP q,DX kP vP es⟩:=by kernel_rfl) (hx:AQ6 P e (some (vP v))=some (vP v,true):=by kernel_rfl):KG S P F g:=
 AI5 hS hc (lkC d o) c hk hp f hx
def Au0 (hS:H4 S P)(hc:pr)(kt e:TypeId)(kP : κ -> PV)(vP : ν -> PV)(eq : κ -> κ -> Bool){q : κ}{es:List (κ × ν)}(o:K4 eq q es=none)(x:PV)(c:D3 (KU P kt))(hk:KG S P F (Bw8 x false (stp P g)))
 (d:∀a b,Lq P kt (kP a) (kP b)=some (eq a b):=by exact λ_ _=>by kernel_rfl) (hp:pr=D3 (cnd P g):=by kernel_rfl) (f:Bw7 P (stp P g)=some ⟨kt,e,kP q,DX kP vP es⟩:=by kernel_rfl) (hx:AQ6 P e none=some (x,false):=by kernel_rfl):KG S P F g:=
 AI5 hS hc (lkC d o) c hk hp f hx
def AR4 (hS:H4 S P)(hc:pr)(kt:TypeId)(kP : κ -> PV)(vP : ν -> PV)(eq : κ -> κ -> Bool)(q : κ)(y : ν)(es:List (κ × ν))(c:D3 (KU P kt))(hk:KG S P F (updK (DX kP vP (Fj eq q y es)) (stp P g)))
 (d:∀a b,Lq P kt (kP a) (kP b)=some (eq a b):=by exact λ_ _=>by kernel_rfl) (hp:pr=D3 (cnd P g):=by kernel_rfl) (f:updE P (stp P g)=some (kt,kP q,vP y,DX kP vP es):=by kernel_rfl):KG S P F g:=
 Bx7 hS hc (XV d q y es) c hk hp f
def Bz7 (hc:pr)(kt e:TypeId)(kP : κ -> PV)(vP : ν -> PV)(eq : κ -> κ -> Bool){q : κ}{es:List (κ × ν)}{v : ν}(o:K4 eq q es=some v)(c:D3 (KU P kt))(hk:DG S P (AI4 (vP v) true (DB P sc)) k)
 (d:∀a b,Lq P kt (kP a) (kP b)=some (eq a b):=by exact λ_ _=>by kernel_rfl) (hp:pr=D3 (Wa P sc):=by kernel_rfl) (f:We P (DB P sc)=some ⟨kt,e,kP q,DX kP vP es⟩:=by kernel_rfl) (hx:AQ6 P e (some (vP v))=some (vP v,true):=by kernel_rfl):DG S P sc k:=
 AI7 hc (lkC d o) c hk hp f hx
def BQ0 (hc:pr)(kt e:TypeId)(kP : κ -> PV)(vP : ν -> PV)(eq : κ -> κ -> Bool){q : κ}{es:List (κ × ν)}(o:K4 eq q es=none)(x:PV)(c:D3 (KU P kt))(hk:DG S P (AI4 x false (DB P sc)) k)
 (d:∀a b,Lq P kt (kP a) (kP b)=some (eq a b):=by exact λ_ _=>by kernel_rfl) (hp:pr=D3 (Wa P sc):=by kernel_rfl) (f:We P (DB P sc)=some ⟨kt,e,kP q,DX kP vP es⟩:=by kernel_rfl) (hx:AQ6 P e none=some (x,false):=by kernel_rfl):DG S P sc k:=
 AI7 hc (lkC d o) c hk hp f hx
def Yl (hc:pr)(kt:TypeId)(kP : κ -> PV)(vP : ν -> PV)(eq : κ -> κ -> Bool)(q : κ)(y : ν)(es:List (κ × ν))(c:D3 (KU P kt))(hk:DG S P (BO6 (DX kP vP (Fj eq q y es)) (DB P sc)) k)
 (d:∀a b,Lq P kt (kP a) (kP b)=some (eq a b):=by exact λ_ _=>by kernel_rfl) (hp:pr=D3 (Wa P sc):=by kernel_rfl) (f:AQ8 P (DB P sc)=some (kt,kP q,vP y,DX kP vP es):=by kernel_rfl):DG S P sc k:=
 Bx8 hc (XV d q y es) c hk hp f
end
abbrev oV {α : Type}(t:TypeId)(k:Nat)(c : α -> List PV)(s:Sl α)(b:Bool):Obj:=.vec t k s.n (λi=>c (s.g i)) b
abbrev oM {κ ν : Type}(kP : κ -> PV)(vP : ν -> PV)(es:List (κ × ν)):Obj:=.map (DX kP vP es)
section
variable {S:X0}{P:Program}{F:M3}{g:Cfg}{R X:Type}{A B:Option R}{r:R}{b:Bool}{pr:Prop}{sc:SC}{k:Env->C7->Prop}
def kJ (hS:H4 S P)[Decidable pr](h:(ite pr (ite b A B) none)=some r)(ht:A=some r->KG S P F (Bf5 (stp P g)))(a:B=some r->KG S P F (Bf6 (stp P g)))
 (hp:pr=D3 (cnd P g):=by kernel_rfl) (hb:At5 (stp P g)=some b:=by kernel_rfl):KG S P F g:=
 O3 hS (C0 h).1 (λc=>ht (itT c (C0 h).2)) (λc=>a (itF c (C0 h).2)) hp hb
def kX (hS:H4 S P)(hc:pr)(h:(ite b A B)=some r)(ht:A=some r->KG S P F (Bf5 (stp P g)))(a:B=some r->KG S P F (Bf6 (stp P g)))
 (hp:pr=D3 (cnd P g):=by kernel_rfl) (hb:At5 (stp P g)=some b:=by kernel_rfl):KG S P F g:=
 O3 hS hc (λc=>ht (itT c h)) (λc=>a (itF c h)) hp hb
def kV (hS:H4 S P)(hc:pr)(h:(ite b A B)=some r)(ht:A=some r->KG S P F (Sa true (stp P g)))(a:B=some r->KG S P F (Sa false (stp P g)))
 (hp:pr=D3 (cnd P g):=by kernel_rfl) (hb:AH7 (stp P g)=some b:=by kernel_rfl):KG S P F g:=
 IB hS hc (λc=>ht (itT c h)) (λc=>a (itF c h)) hp hb
def kT (hS:H4 S P)(ht:KG S P F (Bf5 (stp P g)))(hp:True=D3 (cnd P g):=by kernel_rfl)(hb:At5 (stp P g)=some true:=by kernel_rfl):KG S P F g:=
 O3 hS Ly (λ_=>ht) (λc=>by cases c) hp hb
def kF (hS:H4 S P)(a:KG S P F (Bf6 (stp P g)))(hp:True=D3 (cnd P g):=by kernel_rfl)(hb:At5 (stp P g)=some false:=by kernel_rfl):KG S P F g:=
 O3 hS Ly (λc=>by cases c) (λ_=>a) hp hb
def kD (hS:H4 S P){x:Option X}{f:X->Option R}(h:x.bind f=some r)(hc:pr){fn:FuncId}{args:List AV}{objs:List Obj}{objs' : X->List Obj}{rr:X->AV}{ks:List Bool}
 (a:∀{y},x=some y->Yo S fn args objs (rr y) (objs' y) ks) (hk:∀y,f y=some r->KG S P F (Bw6 [] ks (rr y) (objs' y) (stp P g)))
 (hp:pr=D3 (cnd P g):=by kernel_rfl) (b:AQ4 [] (stp P g)=some (fn,args,objs):=by kernel_rfl) (hn:∀y,AQ5 [] ks (objs' y).length (stp P g)=true:=by intro y;kernel_rfl):KG S P F g:=by
 obtain⟨y,e,h⟩:=E7 h;exact E2 hS [] hc (a e) (hk y h) hp b (hn y)
def dG (hc:pr)(h:(ite b A B)=some r)(ht:A=some r->DG S P (Sd true (DB P sc)) k)(a:B=some r->DG S P (Sd false (DB P sc)) k)(hp:pr=D3 (Wa P sc):=by kernel_rfl)(hb:XZ (DB P sc)=some b:=by kernel_rfl):DG S P sc k:=
 Yb hc (λc=>ht (itT c h)) (λc=>a (itF c h)) hp hb
def dE [Decidable pr](h:(ite pr A none)=some r)(hk:A=some r->k (DB P sc).env (DB P sc).Ym)(hp:pr=D3 (Wa P sc):=by kernel_rfl)(a:(DB P sc).rest.isEmpty=true:=by kernel_rfl):DG S P sc k:=
 D1 (C0 h).1 (hk (C0 h).2) hp a
def dP {x:Option X}{f:X->Option R}(h:x.bind f=some r)(hc:pr){fn:FuncId}{args:List AV}{rr:X->AV}(a:∀{y},x=some y->Yo S fn args [] (rr y) [] [])(hk:∀y,f y=some r->DG S P (Bf9 (rr y) (DB P sc)) k)(hp:pr=D3 (Wa P sc):=by kernel_rfl)(b:AI3 (DB P sc)=some (fn,args):=by kernel_rfl)(hn:AI2 (DB P sc)=true:=by kernel_rfl):DG S P sc k:=by obtain⟨y,e,h⟩:=E7 h;exact PO hc (a e) (hk y h) hp b hn
end
end Go.AM
