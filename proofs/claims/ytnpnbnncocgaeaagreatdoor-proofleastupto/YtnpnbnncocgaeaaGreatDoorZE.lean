/- Part 5. -/
import Derived.Test.YtnpnbnncocgaeaaGreatDoorZD
import Derived.Laws.IdiomRangeMap
set_option linter.defProp false
set_option linter.unusedSimpArgs false
set_option linter.unusedVariables false
set_option linter.unusedSectionVars false
namespace Go.AM
def Ca6:=@List.range_succ
def Cc4:=@List.map_append
def Cj9:=@List.getD_cons_succ
def Ck4:=@List.set_cons_succ
section
variable {S:W9}{P:Program}{F:M0}{g:Cfg}{pr:Prop}
def Bk8 (j:Nat)(ps:List PV):Cfg->Cfg
 |.ops all rest K st=>mkO (Be6 j ps st.env) (ins j .dead st.Qg) λenv Qg=>.ops all rest K ⟨env,Qg⟩
 |g=>g
def K_frzO (hS:H6 S P)(hc:pr)(j:Nat)(ps:List PV)(hk:KG S P F (Bk8 j ps (stp P g)))(hp:pr=E5 (cnd P g):=by kernel_rfl)(a:KT (stp P g)=true:=by kernel_rfl)
 (b:A2 (stp P g).st.Qg j=some (.cells (ps.map .p)):=by kernel_rfl):KG S P F g:=by
 refine⟨GF hS hc ?_ hp⟩;generalize stp P g=g1 at hk a b;unfold KT at a;split at a
 .have hk:=hk.out;simp only[Bk8,GM]at hk;exact YG hS (hS.frz _ j ps _ b hk)
 grind
def Bt8 (ids:List Nat):Cfg->Option (FuncId×List AV×List Obj)
 |.ops all (o::_) _ st=>match BM all st.env o,o.op with
  |some true,.call c=>match c.callee with
   |.value f=>match Yt st.env f (c.args.toList.map (aev st.env))with
    |some (fn,as')=>match ES ids as',N5 ids st.Qg ids with
     |some a,some ob=>if I1 ids&&GH ob then some (fn,a,ob)else none
     |_,_=>none
    |none=>none
   |_=>none
  |_,_=>none
 |_=>none
def Bt9 (ids:List Nat)(ks:List Bool)(n:Nat):Cfg->Bool
 |.ops _ (o::_) _ st=>Z0 st.Qg ids ks (o.dst.getD 0) n
 |_=>false
def Bu0 (ids:List Nat)(ks:List Bool)(r:AV)(objs' : List Obj):Cfg->Cfg
 |.ops all (o::rest) K st=>AH1 o.dst (unA (H9 (o.dst.getD 0) ids ks objs'.length) r) st.env
  (back (H9 (o.dst.getD 0) ids ks objs'.length) (H9 (o.dst.getD 0) ids ks objs'.length) objs' (K8 ids ks st.Qg)) λst=>.ops all rest K st
 |g=>g
def BA4 (hS:H6 S P)(ids:List Nat)(hc:pr){fn:FuncId}{args:List AV}{objs objs' : List Obj}{r:AV}{ks:List Bool}(f:Qi S fn args objs r objs' ks)(hk:KG S P F (Bu0 ids ks r objs' (stp P g)))
 (hp:pr=E5 (cnd P g):=by kernel_rfl) (a:Bt8 ids (stp P g)=some (fn,args,objs):=by kernel_rfl) (hn:Bt9 ids ks objs'.length (stp P g)=true:=by kernel_rfl):KG S P F g:=by
 refine⟨GF hS hc ?_ hp⟩;have hk:=hk.out;generalize stp P g=g' at a hn hk;unfold Bt8 at a
 repeat' split at a<;>try contradiction
 rename_i i j _ _ c _ _ _ hw _ _ _ _ l d b;cases a;simp at b
 grind[Bu0,Bt9,Hb,Bx2]
def unrT:List (St->Prop)->Nat->St->Prop
 |[],_,_=>False
 |a::_,0,t=>a t
 |_::l,i+1,t=>unrT l i t
def Bk9 (hS:H6 S P)(hc:pr)(n:Nat)(T:Nat->St->Prop)(s0:St){ids:List (Nat×Nat)}(o:T 0 s0)
 (j:∀(X:Type) (s' : X->St) (J:X->Prop) (m:X->Nat) (i k:Nat) (t:St),i<=n->T i t ->
  (∀(g' : Cfg) (ids:List (Nat×Nat)) (pr:Prop) (t' : St),pr->Nat.ble (i+1) n=true->T (i+1) t' -> (hp:pr=E5 (cnd P g'):=by kernel_rfl)->(q:stp P g' = .pop .normal (.lp X s' J m k::(stp P g).k) (stp P g').st:=by kernel_rfl)->(hle:KLe ids (stp P g').st t':=by exact kl)->KG S P F g') ->
  KG S P F (.code (TC (stp P g)) (.lp X s' J m k::(stp P g).k) t)) (hp:pr=E5 (cnd P g):=by kernel_rfl) (hl:Jp (stp P g)=true:=by kernel_rfl) (hle:KLe ids (stp P g).st s0:=by exact kl):KG S P F g:=by
 refine⟨GF hS hc ?_ hp⟩;rw[WM hl];refine Ax0 hS (X:=Nat×St) (λx=>x.2) (λx=>x.1<=n/\T x.1 x.2) (λx=>n-x.1) (0,s0) ids hle.out (by grind) ?_;rintro⟨i,t⟩ ⟨l,ht⟩;refine (j (Nat×St) (λx=>x.2) (λx=>x.1<=n/\T x.1 x.2) (λx=>n-x.1) i (n-i) t l ht λg' ids' pr' t' b hn c d f a=>⟨GF hS b ?_ d⟩).out;rw[f];have hn:i+1<=n:=BY5 hn;exact hS.le ids' _ _ _ a.out ⟨(i+1,t'),rfl,⟨hn,c⟩,by grind⟩
end
section
variable {S:W9}{P:Program}{F:M0}{g:Cfg}{pr:Prop}
def I7 (hS:H6 S P)(hc:pr)(d:Nat)(st:St){ids:List (Nat×Nat)}(hk:KG S P F (opsS st (IL P d g)))(hp:pr=E5 (Bz4 P d g):=by kernel_rfl)(a:KT (IL P d g)=true:=by kernel_rfl)(hle:KLe ids (IL P d g).st st:=by exact kl):KG S P F g:=by
 refine⟨(HU (u:=some d) (F:=F) hS 400 [] g (by subst hp;exact hc)).2 ?_⟩;have hk:=hk.out;have hle:=hle.out;show G S P F (IL P d g);generalize IL P d g=g' at a hle hk;unfold KT at a;split at a
 .exact AT7 hS st ids hle hk
 grind
end
section
variable {S:W9}{P:Program}{F:M0}{g:Cfg}{pr:Prop}
def BL8 (S:W9)(P:Program)(pv:PV)(m:String)(as:List AV)(r:AV):Prop:=∃t y fn,pv=.iface t y/\Yz P t m=some fn/\YF S fn (.p (nP y)::as) r
def invE:Cfg->Option (PV×String×List AV)
 |.ops all (o::_) _ st=>match BM all st.env o,o.op with
  |some true,.call c=>match c.callee with
   |.invoke rv m=>match Jf st.Qg (c.args.toList.map (aev st.env)),aev st.env rv with
    |some (as,_),.p pv=>match ES [] as with
     |some as'=>some (pv,m,as')
     |none=>none
    |_,_=>none
   |_=>none
  |_,_=>none
 |_=>none
def invK (r:AV):Cfg->Cfg
 |.ops all (o::rest) K st=>match o.op with
  |.call c=>match Jf st.Qg (c.args.toList.map (aev st.env))with
   |some (_,Qg)=>AH1 o.dst (unA [] r) st.env Qg λst=>.ops all rest K st
   |none=>.ops all (o::rest) K st
  |_=>.ops all (o::rest) K st
 |g=>g
def QB (hS:H6 S P)(hc:pr){pv:PV}{m:String}{as:List AV}{r:AV}(b:BL8 S P pv m as r)(hk:KG S P F (invK r (stp P g)))
 (hp:pr=E5 (cnd P g):=by kernel_rfl) (a:invE (stp P g)=some (pv,m,as):=by kernel_rfl):KG S P F g:=by
 obtain⟨t,y,fn,rfl,hm,b⟩:=b;refine⟨GF hS hc ?_ hp⟩;have hk:=hk.out;generalize stp P g=g' at a hk;unfold invE at a
 repeat' split at a<;>try contradiction
 rename_i i f _ _ _ c _ _ _ _ _ ha d _ _ j;cases a;simp only[invK,f,ha,Hb]at hk;refine Bj0 hS i f c ha d hm (args:=.p (nP y)::_) ?_ b hk
 grind[ES,Ys]
def D9 (hS:H6 S P)(hc:pr)(d j:Nat)(ps:List PV)(hk:KG S P F (Bk8 j ps (IL P d g)))(hp:pr=E5 (Bz4 P d g):=by kernel_rfl)(a:KT (IL P d g)=true:=by kernel_rfl)
 (b:A2 (IL P d g).st.Qg j=some (.cells (ps.map .p)):=by kernel_rfl):KG S P F g:=by
 refine⟨(HU (u:=some d) (F:=F) hS 400 [] g (by subst hp;exact hc)).2 ?_⟩;have hk:=hk.out;show G S P F (IL P d g);generalize IL P d g=g' at a b hk;unfold KT at a;split at a
 .simp only[Bk8,GM]at hk;exact YG hS (hS.frz _ j ps _ b hk)
 grind
def Bl0 (j j' : Nat):AV->AV
 |.vecp i m=>if i=j then .vec j' else .vecp i m
 |a=>a
def Bl1 (j j' : Nat):List AV->List AV
 |[]=>[]
 |a::r=>Bl0 j j' a::Bl1 j j' r
def Bl2 (j j' : Nat):Env->Env
 |[]=>[]
 |(t,a)::r=>(t,Bl0 j j' a)::Bl2 j j' r
def AH4 (j j' : Nat):C8->C8
 |[]=>[]
 |(t,.cells cs)::r=>(t,.cells (Bl1 j j' cs))::AH4 j j' r
 |(t,o)::r=>(t,o)::AH4 j j' r
def msA (j:Nat)(r:List Nat):AV->List Nat
 |.vecp i m=>if i=j then m::r else r
 |_=>r
def msL (j:Nat):List AV->List Nat
 |[]=>[]
 |a::r=>msA j (msL j r) a
def msE (j:Nat):Env->List Nat
 |[]=>[]
 |(_,a)::r=>msA j (msE j r) a
def msR (j:Nat):C8->List Nat
 |[]=>[]
 |(_,.cells cs)::r=>msL j cs++msR j r
 |_::r=>msR j r
def AU9 {j:Nat}{r:List Nat}{a:AV}:∀x∈r,x∈msA j r a:=by
 intro x hx;unfold msA
 grind
def AA6 {j n j' : Nat}{r:List Nat}{a:AV}(h:∀m∈msA j r a,m=n):Bf2 j n j' a=Bl0 j j' a:=by
 cases a with
 |vecp i m=>
  simp only[Bf2,Bl0];by_cases e:i=j
  all_goals simp_all[msA]
 |_=>rfl
def AA7 {j n j' : Nat}:∀{l:List AV},(∀m∈msL j l,m=n)->Bs2 j n j' l=Bl1 j j' l
 |[],_=>rfl
 |a::r,h=>by simp only[Bs2,Bl1,AA6 (r:=msL j r) h,AA7 λm hm=>h m (AU9 m hm)]
def AA8 {j n j' : Nat}:∀{l:Env},(∀m∈msE j l,m=n)->Bs1 j n j' l=Bl2 j j' l
 |[],_=>rfl
 |(t,a)::r,h=>by simp only[Bs1,Bl2,AA6 (r:=msE j r) h,AA8 λm hm=>h m (AU9 m hm)]
def WU {j n j' : Nat}:∀{l:C8},(∀m∈msR j l,m=n)->Aw9 j n j' l=AH4 j j' l
 |[],_=>rfl
 |(t,o)::r,h=>by
  cases o with
  |cells cs=>simp only[Aw9,AH4,BG7,AA7 λm hm=>h m (BW5 _ hm),WU λm hm=>h m (BW0 _ hm)]
  |_=>simp only[Aw9,AH4,BG7,WU (l:=r) h]
def truC (j j' : Nat)(e:TypeId)(k n:Nat)(f:Nat->List PV):Cfg->Cfg
 |.ops all rest K st=>mkO (Bl2 j j' st.env) (ins j' (.vec e k n f false) (ins j .dead (AH4 j j' st.Qg))) λenv Qg=>.ops all rest K ⟨env,Qg⟩
 |g=>g
def BL9 (hS:H6 S P)(hc:pr)(d j n j' : Nat){e:TypeId}{k N:Nat}{f:Nat->List PV}(hn:n<=N)(hk:KG S P F (truC j j' e k n f (IL P d g)))(hp:pr=E5 (Bz4 P d g):=by kernel_rfl)(b:KT (IL P d g)=true:=by kernel_rfl)
 (c:A2 (IL P d g).st.Qg j=some (.vec e k N f false):=by kernel_rfl) (i:A2 (IL P d g).st.Qg j' = none:=by kernel_rfl) (h1:Nat.ble 1000 j' = true:=by kernel_rfl)
 (hm:(msE j (IL P d g).st.env++msR j (IL P d g).st.Qg)=List.replicate (msE j (IL P d g).st.env++msR j (IL P d g).st.Qg).length n:=by kernel_rfl):KG S P F g:=by
 refine⟨(HU (u:=some d) (F:=F) hS 400 [] g (by subst hp;exact hc)).2 ?_⟩;have hk:=hk.out;show G S P F (IL P d g);generalize IL P d g=g' at b c i hk hm;unfold KT at b;split at b
 .rename_i st;have a:∀m∈msE j st.env++msR j st.Qg,m=n:=λm h=>by
   rw[show msE j st.env++msR j st.Qg=_ from hm]at h
   grind
  simp only[truC,GM]at hk;refine YG hS (hS.trunc _ j j' n N k e f _ c hn i (BY5 h1) ?_);rw[AA8 λm h=>a m (by grind),WU λm h=>a m (by grind)];omega
 grind
end
abbrev cA {α : Type}(n:Nat)(c : α -> PV)(f:Nat -> α):List PV:=EQ n (λi=>c (f i))
def H3 (n:Nat)(f:Nat->PV):(EQ n f).length=n:=by simp[EQ]
def Ej (n:Nat)(f:Nat->PV):∀i,i<n->[(EQ n f).getD i default]=[f i]:=by
 grind[EQ]
def Ro {n:Nat}{z:PV}{ps:List PV}(h:ps=List.replicate n z):∀i,i<n->[ps.getD i default]=[z]:=by
 grind
def AH5 {n:Nat}{f g:Nat->PV}(h:∀i,i<n->[f i]=[g i]):EQ n f=EQ n g:=by
 grind[EQ,List.map_congr_left]
abbrev Vg {α : Type}(f:Nat -> α)(k:Nat)(x : α):Nat -> α:=λi=>if i=k then x else f i
def BA5 {α : Type}{c : α -> PV}{n k:Nat}{v:Nat -> α}{f:Nat->PV}{e:PV}{x : α}(h:∀i,i<n->[f i]=[c (v i)])(hx:e=c x):∀i,i<n->[if i=k then e else f i]=[c (if i=k then x else v i)]:=by
 grind
def app1H {α : Type}{c : α -> List PV}{n:Nat}{v:Sl α}{f g:Nat->List PV}{z : α}(h:∀i,i<n->f i=c (v.g i))(hn:n=v.n):∀i,i<n+1->i≠v.n->DF n f g i=c ((v.push z).g i):=by
 subst hn;intro i b a;have hl:i<v.n:=by omega
 show (if i<v.n then f i else g (i-v.n))=c (if i<v.n then v.g i else z);rw[Fg hl,Fg hl];grind
def setH {α : Type}{c : α -> List PV}{n k:Nat}{v:Sl α}{f e:Nat->List PV}{x : α}(h:∀i,i<n->i≠k->f i=c (v.g i))(hx:k<n->e k=c x):∀i,i<n->(λl=>if l=k then e l else f l) i=c ((v.upd k x).g i):=by
 grind
section
variable {S:W9}{P:Program}{F:M0}{g:Cfg}{R X:Type}{A B:Option R}{r:R}{b:Bool}
def kI (hS:H6 S P)(h:(if b then A else B)=some r)(ht:A=some r->KG S P F (BL2 (stp P g)))(a:B=some r->KG S P F (BL3 (stp P g)))
 (hp:True=E5 (cnd P g):=by kernel_rfl) (hb:Bz5 (stp P g)=some b:=by kernel_rfl):KG S P F g:=
 C6 hS trivial (λc=>ht (itT c h)) (λc=>a (itF c h)) hp hb
def kG (hS:H6 S P)(h:(if b then A else B)=some r)(ht:A=some r->KG S P F (Zr true (stp P g)))(a:B=some r->KG S P F (Zr false (stp P g)))
 (hp:True=E5 (cnd P g):=by kernel_rfl) (hb:AT8 (stp P g)=some b:=by kernel_rfl):KG S P F g:=
 FS hS trivial (λc=>ht (itT c h)) (λc=>a (itF c h)) hp hb
def kR (hS:H6 S P){n:Nat}{rs:List ResultVar}{Q:ARes->List Obj->List Bool->Prop}{a:AV}{objs:List Obj}(b:Q (.ret a) objs (IH n []):=by exact⟨rfl,rfl,rfl⟩)
 (hp:True=E5 (cnd P g):=by kernel_rfl) (c:(Bz7 (stp P g)).bind (λst=>Al8 P st rs [])=some (a,objs):=by kernel_rfl):KG S P (Et S P n rs Q) g:=
 AU6 hS trivial [] b hp c
theorem Ug (hS:H6 S P)(h:(if b then A else B)=some r)(a:B=some r->KG S P F (BL3 (stp P g)))(ht:A=some r->KG S P F (BL2 (stp P g)):=by intro h;cases h;exact kR (by assumption))
 (hp:True=E5 (cnd P g):=by kernel_rfl)(hb:Bz5 (stp P g)=some b:=by kernel_rfl):KG S P F g:=kI hS h ht a hp hb
def kC (hS:H6 S P){x:Option X}{f:X->Option R}(h:x.bind f=some r){fn:FuncId}{args:List AV}{objs:List Obj}{objs' : X->List Obj}{rr:X->AV}{ks:List Bool}
 (a:∀{y},x=some y->Qi S fn args objs (rr y) (objs' y) ks) (hk:∀y,f y=some r->KG S P F (Bz6 [] ks (rr y) (objs' y) (stp P g)))
 (hp:True=E5 (cnd P g):=by kernel_rfl) (b:AT9 [] (stp P g)=some (fn,args,objs):=by kernel_rfl) (hn:∀y,AU0 [] ks (objs' y).length (stp P g)=true:=by intro y;kernel_rfl):KG S P F g:=by
 obtain⟨y,e,h⟩:=A7 h;exact A8 hS [] trivial (a e) (hk y h) hp b (hn y)
end
inductive BT where
 |l (b:Bool)
 |n (b:Bool) (t f:BT)
def BT.ev:BT->Bool
 |.l b=>b
 |.n b t f=>if b then t.ev else f.ev
inductive BE where
 |a (b:Bool)
 |n (x y:BE)
 |o (x y:BE)
def BE.den:BE->Bool
 |.a b=>b
 |.n x y=>x.den&&y.den
 |.o x y=>x.den||y.den
def BE.tr:BE->BT->BT->BT
 |.a b,t,f=>.n b t f
 |.n x y,t,f=>x.tr (y.tr t f) f
 |.o x y,t,f=>x.tr t (y.tr t f)
def BE.top:BE->BT
 |.a b=>.l b
 |.n x y=>x.tr y.top (.l false)
 |.o x y=>x.tr (.l true) y.top
def BE.tr_ev:∀(e:BE) (t f:BT),(e.tr t f).ev=if e.den then t.ev else f.ev
 |.a b,t,f=>rfl
 |.n x y,t,f=>by simp only[tr,den,x.tr_ev,y.tr_ev];by_cases h:x.den=true<;>simp[h]
 |.o x y,t,f=>by simp only[tr,den,x.tr_ev,y.tr_ev];by_cases h:x.den=true<;>simp[h]
def BE.top_ev:∀e:BE,e.top.ev=e.den
 |.a b=>rfl
 |.n x y=>by simp only[top,den,x.tr_ev,y.top_ev,BT.ev];by_cases h:x.den=true<;>simp[h]
 |.o x y=>by simp only[top,den,x.tr_ev,y.top_ev,BT.ev];by_cases h:x.den=true<;>simp[h]
def keeps:Op->Bool
 |.move _ | .assign _ | .pick .. | .load .. | .nilCheck _ | .binOp .. | .unOp .. | .convert .. | .fieldAddr .. | .field .. | .indexAddr .. | .index .. | .extract ..=>true
 |.call { callee:=.builtin .len,.. } | .call { callee:=.builtin .min,.. } | .call { callee:=.builtin .max,.. }=>true
 |_=>false
def AH6 {P:Program}{env:Env}{Qg:C8}{d:Nat}{o:Op}{out:Out}(hk:keeps o=true)(h:aop P env Qg d o=some out):out.Qg=Qg:=by unfold keeps at hk;split at hk<;>first|(cases hk;done)|(simp only[aop]at h;(repeat' split at h)<;>first|(cases h;rfl)|cases h)
def Vh {o:Op}(hk:keeps o=true):Bf4 o=true:=by unfold keeps at hk;split at hk<;>first|cases hk;done|rfl
def Bl3:List Prop->List Prop
 |[]=>[]
 |c=>[E5 c]
def bgo (P:Program)(Qg:C8)(o:Oper)(last:Bool)(rec:List Prop->Env->Option (BT×List Prop))(c:List Prop)(env:Env)(runs:Bool):Option (BT×List Prop):=match runs with
 |true=>match keeps o.op,o.dst with
  |true,some d=>match aop P env Qg d o.op with
   |some ⟨p,v,_⟩=>match last with
    |true=>match QM v with
     |some b=>some (.l b,Bl3 (p++c))
     |none=>none
    |false=>fA v λv=>AQ0 d v env λenv=>rec (p++c) env
   |none=>none
  |_,_=>none
 |false=>match last,o.dst with
  |false,some d=>AQ0 d Df env λenv=>rec c env
  |_,_=>none
def bev (P:Program)(all:List Oper)(Qg:C8):List Oper->List Prop->Env->Option (BT×List Prop)
 |[],_,_=>none
 |o::rest,c,env=>
  match o.guard with
  |none=>bgo P Qg o rest.isEmpty (λc env=>bev P all Qg rest c env) c env true
  |some (j,want)=>match get env (HS all j)with
   |.p (.v (.bool b))=>bgo P Qg o rest.isEmpty (λc env=>bev P all Qg rest c env) c env (b==want)
   |.p (.v (.tuple _))=>bgo P Qg o rest.isEmpty (λc env=>bev P all Qg rest c env) c env false
   |.p (.bb b)=>match AQ0 (HS all j) (.p (.v (.bool true))) env λenv=>bgo P Qg o rest.isEmpty (λc env=>bev P all Qg rest c env) [] env want,
    AQ0 (HS all j) (.p (.v (.bool false))) env λenv=>bgo P Qg o rest.isEmpty (λc env=>bev P all Qg rest c env) [] env !want with
    |some (t,ct),some (f,cf)=>some (.n b t f,Bl3 c++(ct.map (λp=>b=true->p)++cf.map (λp=>b=false->p)))
    |_,_=>none
   |_=>none
def AO9 (l:List Oper):List Nat:=l.filterMap (·.dst)
def BA6 (ks:List Nat)(env:Env):Env:=env.filter λq=>!ks.contains q.1
def AA9 (ks:List Nat)(env:Env)(x:Nat):get (BA6 ks env) x=if x∈ks then .top else get env x:=by
 induction env with
 |nil=>simp[BA6,get]
 |cons q r ih=>
  obtain⟨i,a⟩:=q;simp only[BA6,List.filter_cons];by_cases b:i∈ks
  .rw[Gb (by simpa using b)]
   have:=ih
   simp only[BA6]at this;rw[this];by_cases hx:x∈ks
   .simp[hx]
   have:i≠x:=λe=>hx (e ▸ b)
   simp[hx,get,this]
  rw[Fg (by simpa using b)];simp only[get]
  have:=ih
  simp only[BA6]at this;rw[this];by_cases hx:i=x
  .subst hx;simp[b]
  simp[hx]
def Am1:List Oper->Option Nat
 |[]=>none
 |[o]=>o.dst
 |_::r=>Am1 r
section
variable {S:W9}{P:Program}
def Vi {c:List Prop}(h:∀p∈Bl3 c,p):E5 c:=by
 cases c with
 |nil=>trivial
 |cons p r=>exact h _ (by simp[Bl3])
def BM0 (hS:H6 S P){all:List Oper}{Qg:C8}{Q:M0}{post:List Oper}{envF:Env}{V:Bool}{d:Nat}(hQ:∀s,S.up s (KQ S P all post Q)->KQ S P all post Q s)(hV:get envF d=.p (.bb V))
 (hw:KQ S P all post Q ⟨envF,Qg⟩) :
 ∀(L:List Oper) (c:List Prop) (env:Env) (T:BT) (C:List Prop),bev P all Qg L c env=some (T,C)->(∀p∈C,p)->T.ev=V->Am1 L=some d ->
  (∀x,x≠d->Wp (get envF x) (get env x) \/ (x∈AO9 L/\get envF x=.top))->(∀x∈AO9 L,x≠d->get envF x=.top)->E5 c/\KQ S P all (L++post) Q ⟨env,Qg⟩:=by
 intro L
 induction L with
 |nil=>intro c env T C h;cases h
 |cons o rest ih=>
  intro c env T C h w i hd hl ht;simp only[bev,LZ]at h;have key:∀(c:List Prop) (env:Env) (runs:Bool) (T:BT) (C:List Prop),bgo P Qg o rest.isEmpty (λc env=>bev P all Qg rest c env) c env runs=some (T,C)->(∀p∈C,p)->T.ev=V ->
   (∀x,x≠d->Wp (get envF x) (get env x) \/ (x∈AO9 (o::rest)/\get envF x=.top)) ->
   E5 c/\(if runs then wOp S P o (KQ S P all (rest++post) Q) Q ⟨env,Qg⟩else KQ S P all (rest++post) Q (put ⟨env,Qg⟩ o.dst Df)):=by
   intro c env runs T C h w i hl;have l:rest.isEmpty=false->Am1 rest=some d:=by
    intro hr;cases rest with
    |nil=>cases hr
    |cons a r=>simpa[Am1]using hd
   have a0:∀{d'},o.dst=some d' -> AO9 (o::rest)=d' :: AO9 rest:=λg=>by simp[AO9,g]
   have m:∀d' (v:AV),o.dst=some d' -> ∀x,x≠d->Wp (get envF x) (get (ins d' v env) x) \/ (x∈AO9 rest/\get envF x=.top):=by
    intro d' v g x hx;rw[Fl];by_cases n:d' = x
    .subst n;exact .inl (.inl (ht _ (by rw[a0 g];exact Ca7 ..) hx))
    rw[Gb n];rcases hl x hx with h|⟨h1,h2⟩
    .exact .inl h
    exact .inl (.inl h2)
   cases runs with
   |true=>
    simp only[bgo,AE4,LZ,Hu]at h⊢;split at h
    .rename_i d' hk g;split at h
     .rename_i p v regs' ha;have hr:regs' = Qg:=AH6 hk ha;subst hr;have ha' : aop P env regs' (o.dst.getD 0) o.op=some ⟨p,v,regs'⟩:=by rw[g];exact ha
      split at h
      .rename_i u;split at h
       .rename_i b hb;cases h;have a1:=Vi w;obtain⟨hc,hp⟩:=(FJ _ _).1 a1;refine⟨hc,Qv (Vh hk) ha' hp ?_⟩;obtain rfl:rest=[]:=Ci6.1 u;simp only[Am1]at hd;have e:d' = d:=by rw[g]at hd;exact BZ7 hd
        subst e;refine hQ _ (hS.less _ ⟨envF,regs'⟩ _ (λx=>?_) (λ_=>by rw[g];rfl) (by simpa using hw));rw[g];show Wp (get envF x) (get (ins d' v env) x);rw[Fl];by_cases hx:d' = x
        .subst hx;rw[Fg rfl,hV];have i:b=V:=i;subst i;unfold QM at hb;split at hb
         .cases hb;exact .inr (.inr ⟨_,rfl,rfl⟩)
         .cases hb;exact .inr (.inl rfl)
         cases hb
        rw[Gb hx];rcases hl x (λe=>hx e.symm)with h|⟨_,h⟩
        .exact h
        exact .inl h
       cases h
      rename_i u;have hn:∀x,x≠d->Wp (get envF x) (get (ins d' v env) x) \/ (x∈AO9 rest/\get envF x=.top):=m d' v g;obtain⟨a1,a2⟩:=ih _ _ _ _ h w i (l (by simpa using u)) hn (λx hx=>ht x (by rw[a0 g];exact BX1 _ hx));obtain⟨hc,hp⟩:=(FJ _ _).1 a1;exact⟨hc,Qv (Vh hk) ha' hp (by rw[g];exact a2)⟩
     cases h
    cases h
   |false=>
    simp only[bgo,LZ,BT6,Ih]at h⊢;split at h
    .rename_i d' u g;have hn:∀x,x≠d->Wp (get envF x) (get (ins d' Df env) x) \/ (x∈AO9 rest/\get envF x=.top):=m d' _ g;obtain⟨hc,a2⟩:=ih _ _ _ _ h w i (l (by simpa using u)) hn (λx hx=>ht x (by rw[a0 g];exact BX1 _ hx));exact⟨hc,by rw[g];exact a2⟩
    cases h
  simp only[BU1,KQ];cases hg:o.guard with
  |none=>simp only[hg]at h;obtain⟨hc,hk⟩:=key _ _ _ _ _ h w i hl;exact⟨hc,hS.refl _ _ (by simpa[hg]using hk)⟩
  |some q=>
   obtain⟨j,want⟩:=q;simp only[hg]at h;split at h
   .rename_i b hb;obtain⟨hc,hk⟩:=key _ _ _ _ _ h w i hl;refine⟨hc,hS.refl _ _ ⟨some b,by rw[hb];rfl,?_⟩⟩;have e:(some b=some want)↔(b==want)=true:=by simp
    by_cases z:(b==want)=true
    .rw[Fg (e.2 z)];simpa[z]using hk
    rw[Gb (λx=>z (e.1 x))];simpa[z]using hk
   .rename_i tt hb;obtain⟨hc,hk⟩:=key _ _ _ _ _ h w i hl;refine⟨hc,hS.refl _ _ ⟨none,by rw[hb];rfl,?_⟩⟩;rw[Gb (by simp)];simpa using hk
   .rename_i b hb;split at h
    .rename_i t ct f cf h1 h2;cases h;have hc:E5 c:=Vi λp hp=>w p (BW5 _ hp);refine⟨hc,hS.bool _ _ b _ hb ?_⟩;have hl2:∀x,x≠d->Wp (get envF x) (get (ins (HS all j) (.p (.v (.bool b))) env) x) \/ (x∈AO9 (o::rest)/\get envF x=.top):=by
      intro x hx;rw[Fl];by_cases n:HS all j=x
      .subst n;rw[Fg rfl];rcases hl _ hx with h|h
       .rw[hb]at h;rcases h with h|h|⟨y,h1,h2⟩
        .exact .inl (.inl h)
        .exact .inl (.inr (.inr ⟨b,h,rfl⟩))
        cases h2
       exact .inr h
      rw[Gb n];exact hl x hx
     cases b with
     |true=>
      obtain⟨_,hk⟩:=key _ _ _ _ _ h1 (λp hp=>w (true=true->p) (BW0 _ (BW5 _ (BZ1.2 ⟨p,hp,rfl⟩))) rfl) i hl2;refine⟨some true,by show yv (get (ins _ _ _) _)=_;rw[Fl,Fg rfl];rfl,?_⟩;cases want with
      |true=>simpa using hk
      |false=>simpa using hk
     |false=>
      obtain⟨_,hk⟩:=key _ _ _ _ _ h2 (λp hp=>w (false=false->p) (BW0 _ (BW0 _ (BZ1.2 ⟨p,hp,rfl⟩))) rfl) i hl2;refine⟨some false,by show yv (get (ins _ _ _) _)=_;rw[Fl,Fg rfl];rfl,?_⟩;cases want with
      |true=>simpa using hk
      |false=>simpa using hk
    cases h
   cases h
end
def BA7 (P:Program)(m:Nat):Cfg->Option (BT×List Prop)
 |.ops all rest K st=>bev P all st.Qg (rest.take m) [] st.env
 |_=>none
def BM1 (m:Nat)(b:Bool):Cfg->Cfg
 |.ops all rest K st=>match Am1 (rest.take m)with
  |some d=>mkO (ins d (.p (.bb b)) (BA6 (AO9 (rest.take m)) st.env)) st.Qg λenv Qg=>.ops all (rest.drop m) K ⟨env,Qg⟩
  |none=>.ops all rest K st
 |g=>g
def BM2 (m:Nat):Cfg->Bool
 |.ops all rest K st=>(Am1 (rest.take m)).isSome
 |_=>false
def BM3:List Prop->Prop
 |[]=>True
 |p::r=>r.foldl And p
def Bl4 {l:List Prop}(h:BM3 l):∀p∈l,p:=by
 have:∀(r:List Prop) (p:Prop),r.foldl And p->p/\∀q∈r,q:=by
  intro r
  induction r with
  |nil=>intro p h;exact⟨h,λq b=>by cases b⟩
  |cons a r ih=>intro p h;obtain⟨⟨h1,c⟩,d⟩:=ih _ h;exact⟨h1,λq b=>by rcases BX5.1 b with rfl|b;exact c;exact d q b⟩
 cases l with
 |nil=>intro p hp;cases hp
 |cons a r=>obtain⟨h1,c⟩:=this _ _ h;exact λq b=>by rcases BX5.1 b with rfl|b;exact h1;exact c q b
section
variable {S:W9}{P:Program}{F:M0}{g:Cfg}{pr pc:Prop}
def kB (hS:H6 S P)(n:∀s,S.up s (F .normal)->F .normal s)(hc:pr)(c:pc)(m:Nat)(E:BE)(hk:KG S P F (BM1 m E.den (stp P g)))
 (hp:pr=E5 (cnd P g):=by kernel_rfl) (a:(BA7 P m (stp P g)).map (·.1)=some E.top:=by kernel_rfl) (b:(BA7 P m (stp P g)).map (λx=>BM3 x.2)=some pc:=by kernel_rfl) (f:BM2 m (stp P g)=true:=by kernel_rfl):KG S P F g:=by
 refine⟨GF hS hc ?_ hp⟩;have hk:=hk.out;generalize stp P g=g' at hk a b f;unfold BA7 at a b;split at a
 .rename_i all rest K st;simp only[BM2,BU6]at f;obtain⟨d,j⟩:=f;simp only[BM1,j,GM]at hk;cases hb:bev P all st.Qg (rest.take m) [] st.env with
  |none=>rw[hb]at a;cases a
  |some q=>
   obtain⟨T,C⟩:=q;simp only[hb]at a b;simp only[BU2,BT2]at a b;subst a
   have:=(BM0 hS (Q:=kp S P K F) (post:=rest.drop m) (envF:=ins d (.p (.bb E.den)) (BA6 (AO9 (rest.take m)) st.env)) (V:=E.den) (d:=d) ?_ (by rw[Fl,Fg rfl]) hk (rest.take m) [] st.env E.top C hb
    (Bl4 (b ▸ c)) E.top_ev j (λx hx=>?_) (λx hx i=>?_)).2
   .rwa [Ce4]at this
   .intro s h;cases l:rest.drop m with
    |nil=>rw[l]at h;exact Bj3 hS n K s h
    |cons o r=>rw[l]at h;exact hS.trans _ _ h
   .rw[Fl,Gb (λe=>hx e.symm),AA9];split
    .exact .inl (.inl rfl)
    exact .inl (.inr (.inl rfl))
   rw[Fl,Gb (λe=>i e.symm),AA9,Fg hx]
 cases a
end
def famC (op:Wo):Cfg->List Prop
 |.ops _ _ _ st=>match X1 op st with
  |some (c,_)=>c
  |none=>[False]
 |_=>[False]
def famG (op:Wo):Cfg->Cfg
 |.ops all rest K st=>match X1 op st with
  |some (_,st)=>mkO st.env st.Qg λenv Qg=>.ops all rest K ⟨env,Qg⟩
  |none=>.ops all rest K st
 |g=>g
section
variable {S:W9}{P:Program}{F:M0}{g:Cfg}{pr pc:Prop}
def FU (hS:H6 S P)(hc:pr)(d:Nat)(op:Wo)(b:pc)(hk:KG S P F (famG op (IL P d g)))(hp:pr=E5 (Bz4 P d g):=by kernel_rfl)(f:KT (IL P d g)=true:=by kernel_rfl)
 (a:pc=E5 (famC op (IL P d g)):=by kernel_rfl):KG S P F g:=by
 refine⟨(HU (u:=some d) (F:=F) hS 400 [] g (by subst hp;exact hc)).2 ?_⟩;have hk:=hk.out;show G S P F (IL P d g);generalize IL P d g=g' at f a hk;unfold KT at f;split at f
 .rename_i all o rest K st;simp only[famC]at a;simp only[famG]at hk;cases i:X1 op st with
  |none=>rw[i]at a;grind
  |some q=>obtain⟨c,st'⟩:=q;simp only[i,GM]at hk a;subst a;exact YG hS (hS.fam op _ _ c _ i b hk)
 grind
end
def BM4 (j k n:Nat)(e:TypeId)(g:Nat->List PV)(vw:Bool):Cfg->Cfg
 |.ops all rest K st=>mkO st.env (ins j (.vec e k n g vw) st.Qg) λenv Qg=>.ops all rest K ⟨env,Qg⟩
 |g=>g
def AV0 {S:W9}{P:Program}{F:M0}{g:Cfg}{pr:Prop}(hS:H6 S P)(hc:pr)(d j:Nat){k n:Nat}{e:TypeId}{vw:Bool}(f q:Nat->List PV)(c:∀i,i<n->leC (f i) (q i))(hk:KG S P F (BM4 j k n e q vw (IL P d g)))
 (hp:pr=E5 (Bz4 P d g):=by kernel_rfl) (a:KT (IL P d g)=true:=by kernel_rfl) (b:A2 (IL P d g).st.Qg j=some (.vec e k n f vw):=by kernel_rfl):KG S P F g:=by
 refine⟨(HU (u:=some d) (F:=F) hS 400 [] g (by subst hp;exact hc)).2 ?_⟩;have hk:=hk.out;show G S P F (IL P d g);generalize IL P d g=g1 at hk a b;unfold KT at a;split at a
 .simp only[BM4,GM]at hk;exact YG hS (hS.vecq _ j n k e f q vw _ b c hk)
 grind
def leCn {k:Nat}{g:Nat->List PV}:leC [.v (.slice none 0 0)] [.sl false k 0 g]:=Jd BR4 leC0
def leCr (l:List PV):leC l l:=⟨rfl,λ_=>.p (.inl rfl)⟩
def BM5 (op:Wo):Cfg->List Prop
 |.code _ _ st=>match X1 op st with
  |some (c,_)=>c
  |none=>[False]
 |_=>[False]
def BM6 (op:Wo):Cfg->Cfg
 |.code c K st=>match X1 op st with
  |some (_,st)=>mkO st.env st.Qg λenv Qg=>.code c K ⟨env,Qg⟩
  |none=>.code c K st
 |g=>g
def AB0 {S:W9}{P:Program}{F:M0}{g:Cfg}{pr pc:Prop}(hS:H6 S P)(hc:pr)(op:Wo)(f:pc)(hk:KG S P F (BM6 op (stp P g)))(hp:pr=E5 (cnd P g):=by kernel_rfl)(i:DO (stp P g)=true:=by kernel_rfl)(d:P.follows .mixedOrders=true:=by kernel_rfl)
 (b:Jg (Jq (stp P g)).all=true:=by kernel_rfl) (a:pc=E5 (BM5 op (stp P g)):=by kernel_rfl):KG S P F g:=by
 refine⟨GF hS hc ?_ hp⟩;generalize stp P g=g1 at hk i b a;unfold DO at i;split at i
 .rename_i id ops K st;have hk:=hk.out;simp only[BM6]at hk;simp only[BM5]at a;cases j:X1 op st with
  |none=>rw[j]at a;grind
  |some q=>
   obtain⟨c,st'⟩:=q;simp only[j,GM]at hk a;subst a;show awp S P (.region id ops true) (kp S P K F) st;simp only[awp,Hu];have l : Aj0 S P ops.toList (kp S P K F) st':=by
    have:awp S P (.region id ops true) (kp S P K F) st':=hk
    simp_all[awp,Hu]
   exact Az4 hS d b (hS.fam op _ _ c _ j f l)
 grind
def ZD {P:Program}{f:FuncId}{vw:Bool}{args:List PV}{e:TypeId}{k n:Nat}{g:Nat->List PV}(r:∀as w,(callFunc f as).run P w=.ok (.enter f as) w)(hk:∀i,i<n->(g i).length=k)
 (h:∀(w:World) (Pi:Nat->Nat->Prop) (vs:Array Value),(∀b off,Pi b off->b<w.heap.size)->vs.size=args.length->(∀i,i<args.length->Sb w Pi (vs.getD i undef) (args.getD i default)) ->
  Calls P f vs w λx w'=>∃v,x=.returned v/\RowKit.Below w.heap.size w w' /\ ((v=.slice none 0 0/\n=0) \/ ∃b cap c,v=.slice (some ⟨b,0,none⟩) n cap/\w.heap.size<=b/\w'.heap[b]? = some (.cells c e (0,0))/\n<=cap/\c.size=cap*k/\cap<=maxLen /\
   ∀i j,i<n->j<k->Sb w Pi (c.getD (i*k+j) undef) ((g i).getD j default)/\(c.getD (i*k+j) undef).oneCell' = true)):Qi (HP P) f (args.map .p) [] (.vec 0) [.vec e k n g vw] []:=by
 intro 𝒢 C w vs rho hG hs hsz;have hno0:∀j,A2 (Qh []) j=none:=λj=>by simp[Qh,Qh.go,A2]
 have h0:=h w (Prv C.X (A2 (Qh [])) rho) vs (λb off hp=>by
  rcases hp with hp|⟨j,o,d,_⟩
  .exact hs.hp.bound b off hp
  grind) (by grind) (λi z=>by
  have:=hs.env i
  rw[CW]at this;have e:(args.map AV.p).getD i .top=.p (args.getD i default):=by grind
  rw[e]at this;exact this.toP)
 refine⟨_,_,r _ _,callsIn_wide.2 (h0.mono ?_)⟩;rintro x w' ⟨v,rfl,hb,hv⟩;have hR:∀j o,A2 (Qh [Obj.vec e k n g vw]) j=some o->j=0/\o=.vec e k n g vw:=λj o d=>by
  simp only[Qh,Qh.go,A2]at d
  grind
 have hR0:A2 (Qh [Obj.vec e k n g vw]) 0=some (.vec e k n g vw):=rfl
 let rho' : Nat->Value:=λj=>if j=0 then v else rho j
 have hr0:rho' 0=v:=rfl;have q:∀b,G1 v (.vec e k n g vw) b->w.heap.size<=b/\b<w'.heap.size:=by
  intro b s;rcases hv with⟨rfl,_⟩ | ⟨b',cap,c,rfl,h1,h2,_⟩
  .cases s
  cases s;grind
 have t:∀b o,Prv C.X (A2 (Qh [Obj.vec e k n g vw])) rho' b o->C.X b o \/ w.heap.size<=b:=by
  rintro b o (y|⟨j,o',d,a,_⟩)
  all_goals grind
 have l:S0 w (Prv C.X (A2 (Qh [])) rho) w' (Prv C.X (A2 (Qh [Obj.vec e k n g vw])) rho'):=λb o u hp hc=>by
  have m:=BY8 w ⟨b,o,none⟩ hc;refine⟨by rw[<- hc];exact BW4 (hb.block b m),λhpp=>?_⟩;rcases t b o hpp with y|hge
  .exact hp (.inl y)
  grind
 refine⟨C,.ret (.vec 0),[.vec e k n g vw],[],rho',hG,⟨rfl,rfl,rfl⟩,?_,⟨v,rfl,?_⟩,by grind⟩
 .refine⟨⟨λj o d=>?_,by grind,λj o b off d a y=>?_,λb off hp=>BU8 (hs.hp.bound b off hp) hb.size⟩,hs.ext.trans ⟨hb.os,hb.output⟩,BX7 hs.size hb.size,λb m hE=>?_,hs.keep.trans l,λb a=>?_,by grind⟩
  .obtain⟨rfl,rfl⟩:=hR j o d;rw[hr0];rcases hv with hn|⟨b,cap,c,rfl,h1,h2,h3,h4,h5,h6⟩
   .exact .inl hn
   exact .inr ⟨b,cap,c,rfl,h2,h3,h4,h5,hk,λi j z d=>⟨(h6 i j z d).1.keeps l,(h6 i j z d).2⟩⟩
  .obtain⟨rfl,rfl⟩:=hR j o d;have h1:=(q b a).1;have h2:=hs.hp.bound b off y;omega
  .rw[hb.block b (BU8 m hs.size)];exact hs.same b m hE
  obtain⟨j,o,d,a⟩:=a;obtain⟨rfl,rfl⟩:=hR j o d;exact .inr (BX7 hs.size (q b a).1)
 rcases hv with⟨rfl,_⟩ | ⟨b,cap,c,rfl,_⟩
 .exact .vec 0 none 0 0 (by grind[Lv]) rfl
 exact .vec 0 _ n cap (by grind[Lv]) rfl
open Go.RowKit Go.ChangeShapes
section
variable {S:W9}{P:Program}{F:M0}{K:List It}{st:St}{g:Cfg}{pr:Prop}
def BA8 (p:Option PV)(r:ARes):Prop:=match p with
 |none=>∃a,r=.ret a
 |some x=>r=.panic x
def Rp (S:W9)(f:FuncId)(first caps:List AV)(objs:List Obj)(L:List (List PV))(p:Option PV):Prop:= S.F f (first ++ .yf objs.length::caps) (objs++[.yld L true]) λr objs' ks=>∃b,objs'[objs.length]? = some (.yld [] b)/\ks[objs.length]? = some true/\(b=true->BA8 p r)/\(b=false->∃a,r=.ret a)
def endP:Option PV->QL
 |none=>.normal
 |some x=>.panic x
def Bl5 (hS:H6 S P){g:Operand}{ps:Array Tmp}{asg body:Code}{f:FuncId}{first caps as bs:List AV}{objs:List Obj}(ids ts:List Nat)(gh:Nat)(L:List (List PV)){p:Option PV}{X:Type}(s:X->St)(J:List (List PV)->X->Prop)(x0:X)(idl:List (Nat×Nat))
 (hp:GZ st.env g=some (f,first,caps)) (n:∃fn,P.funcs[f]? = some fn/\fn.body.isSome=true/\(fn.name == "runtime.NumGoroutine")=false) (q:N5 ids st.Qg ids=some objs) (t:GH objs=true) (hd:I1 ids=true) (u:ES ids first=some as) (v:ES ids caps=some bs) (w:objs.length=ids.length)
 (z:gh<1000) (a0:A2 st.Qg gh=none) (a1:ids.length<1000) (a2:I1 ts=true) (d:∀ys∈L,ys.length=ps.size)
 (hF:Rp S f as bs objs L p) (hle:Le idl ⟨AC ts (ts.map (get st.env)),K8 ids (ids.map λ_=>false) st.Qg⟩ (s x0)) (h0:J L x0) (hk:∀x,(s x).env.map (·.1)=ts) (hn:∀x,A2 (s x).Qg gh=none)
 (c:∀ys rest x,J (ys::rest) x->G S P (Di S P body gh ts (Bj1 s J rest) (kp S P K F)) (.code asg [] ⟨MI ps.toList ys (s x).env,ins gh (.ghost ((s x).env.map (·.2))) (s x).Qg⟩))
 (i:∀x,J [] x->G S P F (.pop (endP p) K (s x))):G S P F (.code (.rangeFunc g ps asg body) K st):=by
 have j:∀{l:List Nat},I1 l=true->l.Nodup:=by
  intro l
  induction l with
  |nil=>intro _;exact Cc1
  |cons a r ih=>intro h;simp only[I1,BT5,BU5,BX0,decide_eq_false_iff_not]at h;exact BY2.2 ⟨h.1,ih h.2⟩
 refine⟨f,first,caps,as,bs,objs,ids,ts,gh,L,Bj1 s J,λb r=>b=true->BA8 p r,hp,n,t,hd,u,v,q,z,a0,a1,j a2,d,hS.le idl _ _ _ hle ⟨hk x0,hn x0,x0,rfl,h0⟩,?_,?_,?_⟩
 .rintro ys rest _ _ _ ⟨x,rfl,hJ⟩;have h:=c ys rest x hJ;have e:Di S P body gh ts (Bj1 s J rest) (kp S P K F)=λe s'=>match e with
   |.normal=>S.up s' λs'=>awp S P body (Ha S gh ts (Bj1 s J rest) (kp S P K F)) s'
   |_=>False:=by funext e s';cases e<;>rfl
  rw[e]at h;exact h
 .rintro _ r _ _ ⟨x,rfl,hJ⟩ hf;have h1:=hf rfl;have m:=i x hJ;cases p with
  |none=>obtain⟨a,rfl⟩:=h1;exact m
  |some y=>cases h1;exact m
 rw[<- w];refine hS.monoF _ _ _ _ _ ?_ hF;rintro r o ks ⟨b,h1,m,h3,h4⟩;exact⟨b,h1,m,h3,h4⟩
def Bl6 (hS:H6 S P){g:Operand}{ps:Array Tmp}{asg body:Code}{f:FuncId}{first caps as bs:List AV}{objs:List Obj}{R T A:Type}{enc:T->List PV}{L:List T}{p:Option PV}{mb:(A->Option R)->T->A->Option R}{mk:A->Option R}{a0:A}{r:R}
 (ids ts:List Nat) (gh:Nat) (s:A->St) (idl:List (Nat×Nat)) (h:T9 L mb mk a0=some r) (y:Rp S f as bs objs (L.map enc) p)
 (hp:GZ st.env g=some (f,first,caps)) (j:∃fn,P.funcs[f]? = some fn/\fn.body.isSome=true/\(fn.name == "runtime.NumGoroutine")=false) (l:N5 ids st.Qg ids=some objs) (m:GH objs=true) (z:I1 ids=true) (n:ES ids first=some as) (o:ES ids caps=some bs) (q:objs.length=ids.length)
 (u:Nat.blt gh 1000=true) (v:A2 st.Qg gh=none) (w:Nat.blt ids.length 1000=true) (x:I1 ts=true) (d:∀t:T,(enc t).length=ps.size)
 (hle:Le idl ⟨AC ts (ts.map (get st.env)),K8 ids (ids.map λ_=>false) st.Qg⟩ (s a0)) (hk:∀a,(s a).env.map (·.1)=ts) (hn:∀a,A2 (s a).Qg gh=none)
 (b:∀(t:T) (next:St->Prop) (c:A->Option R) (a:A),(∀(st st1:St) (cs:List AV) (idl:List (Nat×Nat)) (a:A),Le idl st st1->A2 st1.Qg gh=some (.ghost cs)->cs.length=ts.length->A2 (del gh st1.Qg) gh=none->(⟨AC ts cs,del gh st1.Qg⟩:St)=s a->c a=some r->G S P (Ha S gh ts next (kp S P K F)) (.pop .normal [] st)) ->
  mb c t a=some r->G S P (Di S P body gh ts next (kp S P K F)) (.code asg [] ⟨MI ps.toList (enc t) (s a).env,ins gh (.ghost ((s a).env.map (·.2))) (s a).Qg⟩))
 (i:∀a,mk a=some r->G S P F (.pop (endP p) K (s a))):G S P F (.code (.rangeFunc g ps asg body) K st):=by
 refine Bl5 hS ids ts gh (L.map enc) s (λrest a=>∃L',rest=L'.map enc/\T9 L' mb mk a=some r) a0 idl hp j l m z n o q (by simpa[Ce6]using u) v (by simpa[Ce6]using w) x (λys hy=>?_) y hle ⟨L,rfl,h⟩ hk hn ?_ ?_
 .obtain⟨t,_,rfl⟩:=BZ1.1 hy;exact d t
 .rintro ys rest a ⟨L',hL,hx⟩;cases L' with
  |nil=>cases hL
  |cons t L'=>simp only[BU9,Ca5]at hL;obtain⟨rfl,rfl⟩:=hL;refine b t _ (T9 L' mb mk) a (λst st1 cs idl a hle h1 h2 h3 h4 h5=>?_) hx;exact Al3 hS st1 a idl hle h1 h2 h3 h4 ⟨L',rfl,h5⟩
 rintro a ⟨L',hL,hx⟩;cases L' with
 |nil=>exact i a hx
 |cons t L'=>cases hL
def AB1 (hS:H6 S P)(hc:pr){f:FuncId}{as bs:List AV}{objs:List Obj}{R T A:Type}{enc:T->List PV}{L:List T}{p:Option PV}{mb:(A->Option R)->T->A->Option R}{mk:A->Option R}{a0:A}{r:R}
 (ids ts:List Nat) (gh:Nat) (s:A->St) {idl:List (Nat×Nat)}(h:T9 L mb mk a0=some r) (x:Rp S f as bs objs (L.map enc) p)
 (i:∀t:T,(enc t).length=(Ll (stp P g)).size) (hk:∀a,(s a).env.map (·.1)=ts) (hn:∀a,A2 (s a).Qg gh=none) (m:∀a,(⟨AC ts ((s a).env.map (·.2)),del gh (ins gh (.ghost ((s a).env.map (·.2))) (s a).Qg)⟩:St)=s a)
 (c:∀(t:T) (next:St->Prop) (d:A->Option R) (a:A),
  (∀(g' : Cfg) (ids:List (Nat×Nat)) (pr:Prop) (a:A),pr->d a=some r->(hp:pr=E5 (cnd P g'):=by kernel_rfl)->(b:stp P g' = .pop .normal [] (stp P g').st:=by kernel_rfl)->(hle:KLe ids (stp P g').st (rst gh (s a)):=by exact kl)->KG S P (Ha S gh ts next (kp S P (stp P g).k F)) g') ->
  mb d t a=some r->KG S P (Di S P (Zy (stp P g)) gh ts next (kp S P (stp P g).k F)) (.code (Zx (stp P g)) [] (ZA gh (Ll (stp P g)) (enc t) (s a))))
 (j:∀a,mk a=some r->KG S P F (.pop (endP p) (stp P g).k (s a)))
 (hp:pr=E5 (cnd P g):=by kernel_rfl) (b:Zw P ids (stp P g)=some (f,as,bs,objs):=by kernel_rfl) (o:Nat.blt gh 1000=true:=by kernel_rfl) (n:A2 (stp P g).st.Qg gh=none:=by kernel_rfl) (q:I1 ts=true:=by kernel_rfl)
 (hle:KLe idl (Zz ids ts (stp P g)) (s a0):=by exact kl):KG S P F g:=by
 refine⟨GF hS hc ?_ hp⟩;have u:=(KE b).2;replace b:=(KE b).1;generalize stp P g=g1 at i c j b n hle;unfold Rn at b;split at b
 .rename_i op ps asg body K st;split at b
  .rename_i f' first caps v
   split at b
   .rename_i objs' as' bs' y z h4;split at b
    .rename_i w;simp only[BT2,BU4]at b;obtain⟨rfl,rfl,rfl,rfl⟩:=b;simp only[BT5,BU5,beq_iff_eq]at w;obtain⟨⟨⟨e3,e4⟩,e5⟩,e6⟩:=w;refine Bl6 hS ids ts gh s idl h x v u y e3 e4 z h4 e5 o n e6 q i hle.out hk hn (λt next d a hb hm=>?_) (λa hm=>(j a hm).out);refine (c t next d a (λg' ids' pr a hc l hp b hle=>⟨GF hS hc ?_ hp⟩) hm).out;rw[b];have hl:((s a).env.map (·.2)).length=ts.length:=by rw[<- hk a];simp
     refine hb _ (rst gh (s a)) ((s a).env.map λp=>p.2) ids' a hle.out (Jr gh (s a)) hl ?_ (m a) l
     have:=congrArg St.Qg (m a)
     simp only at this;show A2 (del gh (ins gh _ _)) gh=none;rw[this];exact hn a
    cases b
   cases b
  cases b
 cases b
def AV1 (hS:H6 S P){f:FuncId}{fn:Func}{first caps:List AV}{objs:List Obj}{L:List (List PV)}{p:Option PV}(i:P.funcs[f]? = some fn)
 (h:KG S P (Et S P (objs++[Obj.yld L true]).length fn.results.toList λr objs' ks=>∃b,objs'[objs.length]? = some (.yld [] b)/\ks[objs.length]? = some true/\(b=true->BA8 p r)/\(b=false->∃a,r=.ret a)) (.code (fn.body.getD .skip) [] { env:=Uf (first ++ .yf objs.length::caps),Qg:=Qh (objs++[Obj.yld L true]) }))
 (hc:fn.body.isSome=true:=by kernel_rfl) (hn:Nat.ble (first ++ .yf objs.length::caps).length fn.ntmps=true:=by kernel_rfl) (j:Nat.blt (objs++[Obj.yld L true]).length 1000=true:=by kernel_rfl)
 (d:BL fn.ntmps (fn.body.getD .skip)=true:=by kernel_rfl) (g:(fn.name == "runtime.NumGoroutine")=false:=by kernel_rfl):Rp S f first caps objs L p:=by
 obtain⟨code,c⟩:=BU6.1 hc;rw[c,BT9]at d h;exact Or hS i c (BY5 hn) (by simpa[Ce6]using j) rfl d g h.out
def Bl7 (hS:H6 S P){f:FuncId}{fn:Func}{args:List AV}{objs:List Obj}{Q:ARes->List Obj->List Bool->Prop}(d:P.funcs[f]? = some fn)
 (h:KG S P (Et S P objs.length fn.results.toList Q) (.code (fn.body.getD .skip) [] { env:=Uf args,Qg:=Qh objs }))
 (hc:fn.body.isSome=true:=by kernel_rfl) (hn:Nat.ble args.length fn.ntmps=true:=by kernel_rfl) (g:Nat.blt objs.length 1000=true:=by kernel_rfl)
 (b:BL fn.ntmps (fn.body.getD .skip)=true:=by kernel_rfl) (c:(fn.name == "runtime.NumGoroutine")=false:=by kernel_rfl):S.F f args objs Q:=by
 obtain⟨code,a⟩:=BU6.1 hc;rw[a,BT9]at b h;exact Or hS d a (BY5 hn) (by simpa[Ce6]using g) rfl b c h.out
def panE:Cfg->Option PV
 |.ops all (o::_) _ st=>match BM all st.env o,o.op with
  |some true,.panic x=>match aev st.env x with
   |.p (.iface t y)=>some (.iface t y)
   |_=>none
  |_,_=>none
 |_=>none
def panC (x:PV):Cfg->Cfg
 |.ops _ _ K st=>.pop (.panic x) K st
 |g=>g
def BA9 (hS:H6 S P)(hc:pr){x:PV}(hk:KG S P F (panC x (stp P g)))(hp:pr=E5 (cnd P g):=by kernel_rfl)(a:panE (stp P g)=some x:=by kernel_rfl):KG S P F g:=by
 refine⟨GF hS hc ?_ hp⟩;have hk:=hk.out;generalize stp P g=g1 at hk a;unfold panE at a
 repeat' split at a<;>try contradiction
 rename_i all o rest K st _ _ y b c _ t z hx;cases a;exact Bz1 hS b c hx hk
def Bl8:Cfg->Option PV
 |.pop (.panic x) [] _=>some x
 |_=>none
def Bu1 (hS:H6 S P)(hc:pr){n:Nat}{rs:List ResultVar}{Q:ARes->List Obj->List Bool->Prop}{x:PV}{objs:List Obj}(outs:List Nat)(c:Q (.panic x) objs (IH n outs))(hp:pr=E5 (cnd P g):=by kernel_rfl)
 (a:Bl8 (stp P g)=some x:=by kernel_rfl) (d:I1 outs=true:=by kernel_rfl) (b:N5 outs (stp P g).st.Qg outs=some objs:=by kernel_rfl):KG S P (Et S P n rs Q) g:=by
 refine⟨GF hS hc ?_ hp⟩;generalize stp P g=g1 at a b;unfold Bl8 at a;split at a
 .cases a;exact⟨outs,objs,d,b,c⟩
 cases a
def BB0 (hS:H6 S P){all rest:List Oper}{o:Oper}{c:Call}{f:Operand}{as:List AV}{Qg:C8}{fn:FuncId}{as' args:List AV}{objs objs' : List Obj}{ks:List Bool}{x:PV}(ids:List Nat)
 (d:BM all st.env o=some true) (g:o.op=.call c) (b:c.callee=.value f) (ha:Jf st.Qg (c.args.toList.map (aev st.env))=some (as,Qg))
 (hw:Yt st.env f as=some (fn,as')) (i:ES ids as' = some args) (a:N5 ids Qg ids=some objs) (j:S.F fn args objs λres o k=>res=.panic x/\o=objs' /\ k=ks)
 (l:I1 ids=true) (hy:GH objs=true) (hn:Z0 Qg ids ks (o.dst.getD 0) objs'.length=true)
 (hk:G S P F (.pop (.panic x) K { env:=st.env,Qg:=back (H9 (o.dst.getD 0) ids ks objs'.length) (H9 (o.dst.getD 0) ids ks objs'.length) objs' (K8 ids ks Qg) })) :
 G S P F (.ops all (o::rest) K st):=by
 refine BN hS d ?_;unfold wOp;obtain⟨callee,cargs,types⟩:=c;simp only at b ha;subst b;rw[g];refine .inl ⟨as,Qg,_,_,.inl ha,hw,ids,args,objs,l,i,a,hy,hS.monoF _ _ _ _ _ ?_ j⟩;rintro _ _ _ ⟨rfl,rfl,rfl⟩;exact⟨hn,hk⟩
def Bu2 (ids:List Nat)(ks:List Bool)(x:PV)(objs' : List Obj):Cfg->Cfg
 |.ops all (o::rest) K st=>match o.op with
  |.call c=>match Jf st.Qg (c.args.toList.map (aev st.env))with
   |some (_,Qg)=>mkO st.env (back (H9 (o.dst.getD 0) ids ks objs'.length) (H9 (o.dst.getD 0) ids ks objs'.length) objs' (K8 ids ks Qg)) λenv Qg=>.pop (.panic x) K ⟨env,Qg⟩
   |none=>.ops all (o::rest) K st
  |_=>.ops all (o::rest) K st
 |g=>g
def BB1 (hS:H6 S P)(ids:List Nat)(hc:pr){fn:FuncId}{args:List AV}{objs objs' : List Obj}{x:PV}{ks:List Bool}(i:S.F fn args objs λres o k=>res=.panic x/\o=objs' /\ k=ks)
 (hk:KG S P F (Bu2 ids ks x objs' (stp P g))) (hp:pr=E5 (cnd P g):=by kernel_rfl) (b:AT9 ids (stp P g)=some (fn,args,objs):=by kernel_rfl) (hn:AU0 ids ks objs'.length (stp P g)=true:=by kernel_rfl):KG S P F g:=by
 refine⟨GF hS hc ?_ hp⟩;replace hk:=hk.out;generalize stp P g=g' at b hn hk;unfold AT9 at b
 repeat' split at b<;>try contradiction
 rename_i j f _ _ c _ _ _ ha _ _ _ hw _ _ _ _ l d a;cases b;simp only[BT5]at a;simp only[Bu2,AU0,f,ha,GM]at hk hn;exact BB0 hS ids j f c ha hw l d i a.1 a.2 hn hk
def Vj (S:W9)(R:St->Prop)(X:PV->St->Prop):M0
 |.normal,st=>S.up st R
 |.panic x,st=>X x st
 |_,_=>False
def K_upN (hS:H6 S P)(hc:pr){R:St->Prop}{X:PV->St->Prop}(st:St){ids:List (Nat×Nat)}(hR:R st)(hp:pr=E5 (cnd P g):=by kernel_rfl)(a:stp P g=.pop .normal [] (stp P g).st:=by kernel_rfl)
 (hle:KLe ids (stp P g).st st:=by exact kl):KG S P (Vj S R X) g:=by
 refine⟨GF hS hc ?_ hp⟩;rw[a];exact hS.le ids _ _ R hle.out hR
def K_upP (hS:H6 S P)(hc:pr){R:St->Prop}{X:PV->St->Prop}{x:PV}(b:X x (stp P g).st)(hp:pr=E5 (cnd P g):=by kernel_rfl)(a:Bl8 (stp P g)=some x:=by kernel_rfl):KG S P (Vj S R X) g:=by
 refine⟨GF hS hc ?_ hp⟩;generalize stp P g=g1 at a b;unfold Bl8 at a;split at a
 .cases a;exact b
 cases a
end
section
variable {S:W9}{P:Program}{F:M0}{K:List It}{g:Cfg}{pr:Prop}
def Am2 (hS:H6 S P){all:List Oper}{o:Oper}{k k' : St->Prop}{Q Q' : M0}(hk:∀s,k s->k' s)(z:∀x s,Q (.panic x) s->Q' (.panic x) s){st:St}(h:Jc S P all o k Q st):Jc S P all o k' Q' st:=by
 have e:∀st,wOp S P o k Q st->wOp S P o k' Q' st:=by
  intro st h;have n:∀d ids f args st,Ai9 S d ids f args st (Lc o.dst k Q)->Ai9 S d ids f args st (Lc o.dst k' Q'):=by
   rintro d ids f args st ⟨a,ob,h1,l,m,q,u⟩;refine⟨a,ob,h1,l,m,q,hS.monoF _ _ _ _ _ (λr o ks ⟨v,w⟩=>⟨v,?_⟩) u⟩;cases r with
   |ret a=>exact hk _ w
   |panic x=>exact z _ _ w
  unfold wOp at h⊢;split at h
  .rcases h with⟨as,Qg,f',as',h1,l,ids,m⟩ | ⟨j,xs,Qg,ys,rest,h1,l,m,q,u,v⟩
   .exact .inl ⟨as,Qg,f',as',h1,l,ids,n _ _ _ _ _ m⟩
   exact .inr ⟨j,xs,Qg,ys,rest,h1,l,m,q,u,λb=>hk _ (v b)⟩
  .obtain⟨as,Qg,t,y,f',h1,l,m,ids,q⟩:=h;exact⟨as,Qg,t,y,f',h1,l,m,ids,n _ _ _ _ _ q⟩
  .obtain⟨t,y,h1,l⟩:=h;exact⟨t,y,h1,z _ _ l⟩
  .obtain⟨j,cl,last,seen,jm,es,h1,l,m,q,u,v,w⟩:=h;exact⟨j,cl,last,seen,jm,es,h1,l,m,q,u,λg=>hk _ (v g),λi hi hs=>hk _ (w i hi hs)⟩
  rcases h with⟨out,h1,l,m⟩ | ⟨c,x,h1,l,m⟩ | ⟨out,h1,l,m⟩
  .exact .inl ⟨out,h1,l,hk _ m⟩
  .exact .inr (.inl ⟨c,x,h1,l,hk _ m⟩)
  exact .inr (.inr ⟨out,h1,l,hk _ m⟩)
 unfold Jc at h⊢;refine hS.mono _ _ _ (λt h=>?_) h;split at h
 .exact e _ h
 obtain⟨b,h1,l⟩:=h;refine⟨b,h1,?_⟩;split
 .rename_i hb;rw[Fg hb]at l;exact e _ l
 rename_i hb;rw[Gb hb]at l;exact hk _ l
def BB2 (all:List Oper)(n:Nat):Bool:= Nat.blt n all.length&&(List.range all.length).all λi=>Nat.blt i n||(List.range i).all λj=>((BK3 all).getD i []).contains j
def Am3 (all:List Oper)(n:Nat):Bool:=(all.take n).all λo=>match o.guard with
 |some (j,_)=>Nat.blt j n
 |none=>true
def AH7 (all:List Oper){n:Nat}(a:Am3 all n=true){o:Oper}(b:o∈all.take n){k:St->Prop}{Q:M0}{s:St}(h:Jc S P (all.take n) o k Q s):Jc S P all o k Q s:=by
 have h1:=BU0.1 a o b;unfold Jc at h⊢;cases c:o.guard with
 |none=>simp_all
 |some q=>
  simp_all[Ce6,HS,Cb7,Fg]
def ZE (hS:H6 S P){all:List Oper}{n:Nat}{Q:M0}{st:St}(c:Jg all=true)(u:BB2 all n=true)(hg:Am3 all n=true)
 (h:Aj0 S P (all.take n) (λe s=>match e with | .normal=>KQ S P all (all.drop n) Q s | .panic x=>Q (.panic x) s|_=>False) st):Aj0 S P all Q st:=by
 obtain⟨m,hdp,Inv,h0,f,a1⟩:=h;simp only[BB2,BT5,Ce6,BU0,BW9,BV9,BX0,decide_eq_true_eq]at u;obtain⟨hn,u⟩:=u
 let down:(Nat->Bool)->Prop:=λD=>∀i o,D i=true->all[i]? = some o->∀e∈o.after.toList,FK e=true->D e.on=true
 let Inv' : (Nat->Bool)->St->Prop:=λD s=>down D/\(((∀i,n<=i->D i=false)/\Inv D s) \/ ∃j,n<=j/\j<=all.length/\(∀i,i<all.length->(D i=true↔i<j))/\KQ S P all (all.drop j) Q s)
 refine⟨m,c,Inv',by grind,?_,?_⟩
 .intro D i s o ⟨hD,hc⟩ ho v a;have q:i<all.length:=(by grind);have hanc:=Oo c hD i o ho a;have g:down λj=>if j=i then true else D j:=by
   grind
  have b:(∀j,j<i->D j=true)->(∀j,i<j->j<all.length->D j=false)->n<=i->S.up s (KQ S P all (all.drop i) Q)->Jc S P all o (Inv' λj=>if j=i then true else D j) Q s:=by
   intro l hhi hni w;have hd:all.drop i=o::all.drop (i+1):=by
    rw[Cc0 q]
    grind
   rw[hd]at w;have h3:Jc S P all o (KQ S P all (all.drop (i+1)) Q) Q s:=hS.trans _ _ w;refine Ot hS (λs' r=>?_) (λe s h=>h) h3;refine⟨g,.inr ⟨i+1,by omega,q,λi' hi'=>?_,r⟩⟩
   grind
  rcases hc with⟨l,hI⟩ | ⟨j,t,y,z,hw⟩
  .by_cases hi:i<n
   .have a0 : (all.take n)[i]? = some o:=by rw[Cb7,Fg hi];omega
    have h1:=AH7 all hg (by grind) (f D i s o hI a0 v a);refine Am2 hS (λs' r=>?_) (λx s' h=>h) h1
    grind
   have d:∀j,j<i->D j=true:=(by grind);have e:i=n:=by
    by_cases h4:n<i
    all_goals grind
   grind
  have e:i=j:=by
   grind
  subst e;refine b (by grind) (λj h1 w=>?_) t (hS.refl _ _ hw)
  grind
 rintro D s ⟨hD,hc⟩ d;rcases hc with⟨l,hI⟩ | ⟨j,t,y,z,hw⟩
 .have:=d n hn;rw[l n (BT8 _)]at this;grind
 have e:j=all.length:=by
  grind
 subst e;rw[List.drop_length]at hw;exact hS.refl _ _ hw
def QC (n:Nat)(ls:List (Nat×Cls)):Cfg->SC
 |.code (.region _ ops true) _ st=>⟨ops.toList.take n,BS0 ls 0 (ops.toList.take n),ops.toList.take n,st.env,st.Qg,[]⟩
 |_=>⟨[],[],[],[],[],[]⟩
def AV2 (n:Nat)(env:Env)(Qg:C8):Cfg->Cfg
 |.code (.region _ ops true) K _=>.ops ops.toList (ops.toList.drop n) K ⟨env,Qg⟩
 |g=>g
def AV3 (n:Nat):Cfg->Bool
 |.code (.region _ ops true) _ _=>Jg ops.toList&&BB2 ops.toList n&&Am3 ops.toList n
 |_=>false
def Bl9 (hS:H6 S P)(hc:pr)(n:Nat)(ls:List (Nat×Cls))(h:DG S P (QC n ls (stp P g)) λenv Qg=>KG S P F (AV2 n env Qg (stp P g)))(hp:pr=E5 (cnd P g):=by kernel_rfl)(c:DO (stp P g)=true:=by kernel_rfl)(a:P.follows .mixedOrders=true:=by kernel_rfl)
 (b:MW (QC n ls (stp P g)).all (QC n ls (stp P g)).cls=true:=by kernel_rfl) (hb:AV3 n (stp P g)=true:=by kernel_rfl):KG S P F g:=by
 have e:(λenv Qg=>KG S P F (AV2 n env Qg (stp P g)))=λenv Qg=>G S P F (AV2 n env Qg (stp P g)):=by funext env Qg;exact propext ⟨λh=>h.out,λh=>⟨h⟩⟩
 rw[e]at h;refine⟨GF hS hc ?_ hp⟩;have h:=h.out;generalize stp P g=g' at c b h hb;unfold DO at c;split at c
 .rename_i id ops K st;simp only[AV3,BT5]at hb;show awp S P (.region id ops true) (kp S P K F) st;simp only[awp,Hu];refine ZE hS hb.1.1 hb.1.2 hb.2 ?_;have d:(ops.toList.take n).toArray.toList=ops.toList.take n:=rfl
  have:=Zh hS (F:=λe s=>match e with | .normal=>KQ S P ops.toList (ops.toList.drop n) (kp S P K F) s | .panic x=>kp S P K F (.panic x) s|_=>False) (K:=[]) (id:=id) (ops:=(ops.toList.take n).toArray) (BS0 ls 0 (ops.toList.take n)) a b h
  simp_all[G,awp,Hu,kp,QC]
 grind
end
open Go.RowKit Go.ChangeShapes Go.Deep
mutual
inductive LeD:PV->PV->Prop
 |refl (x:PV):LeD x x
 |sl {k n:Nat}{f g:Nat->List PV}(h:∀i,i<n->LeDs (f i) (g i)):LeD (.sl false k n f) (.sl false k n g)
inductive LeDs:List PV->List PV->Prop
 |nil:LeDs [] []
 |cons {x y:PV}{l r:List PV}(h:LeD x y) (h' : LeDs l r):LeDs (x::l) (y::r)
end
theorem LeDs.refl:∀l:List PV,LeDs l l
 |[]=>.nil
 |x::l=>.cons (.refl x) (LeDs.refl l)
def LeDs.length {l r:List PV}(h:LeDs l r):l.length=r.length:=by
 induction l generalizing r with
 |nil=>cases h;rfl
 |cons x l ih=>cases h<;>grind
def LeDs.get {l r:List PV}(h:LeDs l r):∀i,LeD (l.getD i default) (r.getD i default):=by
 induction l generalizing r with
 |nil=>cases h;exact λi=>.refl _
 |cons x l ih=>
  cases h with
  |cons h h'=>intro i;cases i<;>simp_all
def LeDs.append {a b c d:List PV}(h:LeDs a b)(h' : LeDs c d):LeDs (a++c) (b++d):=by
 induction a generalizing b with
 |nil=>cases h;grind
 |cons x l ih=>cases h with|cons h1 h2=>exact .cons h1 (ih h2)
def Sb.leD {w:World}{Pi:Nat->Nat->Prop}{v:Value}{x:PV}(h:Sb w Pi v x):∀{y:PV},LeD x y->Sb w Pi v y:=by
 induction h with
 |slnil k f=>intro y hy;cases hy with
  |refl=>exact .slnil _ _
  |sl h=>exact .slnil _ _
 |sl nn b off cap k n f c hn hk hc h sp hsp ih=>
  intro y hy;cases hy with
  |refl=>exact .sl nn b off cap k n f c hn hk hc h sp hsp
  |sl h'=>exact .sl false b off cap k n _ c hn (λi d=>by rw[<- (h' i d).length];grind) hc (λi j d g=>ih i j d g ((h' i d).get j)) sp hsp
 |v x=>intro y hy;cases hy;exact .v x
 |bb b=>intro y hy;cases hy;exact .bb b
 |str l=>intro y hy;cases hy;exact .str l
 |agg vs cs hs h1 h ih=>intro y hy;cases hy;exact .agg vs cs hs h1 h
 |ptr b off cs c hc h ih=>intro y hy;cases hy;exact .ptr b off cs c hc h
 |iface t x a h ih=>intro y hy;cases hy;exact .iface t x a h
 |fn f x y a b hx hy ha hb iha ihb=>intro y hy;cases hy;exact .fn f x _ a b hx ‹_› ha hb
def CRep.leD {W:World}{cs:List Value}{p q:List PV}(h:CRep W cs p)(hl:LeDs p q):CRep W cs q:=
 ⟨by rw[h.1,hl.length],λi a=>⟨(h.2 i (by rw[hl.length];omega)).1.leD (hl.get i),(h.2 i (by rw[hl.length];omega)).2⟩⟩
section
variable {P:Program}{t e:TypeId}{m:Nat}{pvs:List PV}
def EY (f:Nat->Nat):Nat->Nat
 |0=>0
 |k+1=>EY f k+f k
def BB3 (f:Nat->Nat){k n:Nat}(h:k<=n):EY f k<=EY f n:=by
 induction h with
 |refl=>omega
 |step _ ih=>grind[EY]
def Jt (f:Nat->Nat){k n:Nat}(h:k<n):f k<=EY f n:=by
 have:=BB3 f (show k+1<=n from h)
 grind[EY]
def ZF {f g:Nat->Nat}:∀{n:Nat},(∀i,i<n->f i<=g i)->EY f n<=EY g n
 |0,_=>BT8 _
 |n+1,h=>by
  have h1:=ZF (n:=n) λi a=>h i (by omega);have b:=h n (by omega)
  grind[EY]
def Vk (f:Nat->Nat):∀n,Ai3 ((List.range n).map f)=EY f n:=by
 have app:∀a b:List Nat,Ai3 (a++b)=Ai3 a+Ai3 b:=by
  intro a b
  induction a with
  |nil=>simp[Ai3]
  |cons x r ih=>grind[Zl]
 intro n
 induction n with
 |zero=>rfl
 |succ n ih=>rw[Ca6,Cc4,app,ih];simp[EY,Ai3]
def KU (P:Program)(t:TypeId){T:Type}(c:T->List PV)(W:T->Prop)(sz:T->Nat):Prop:= ∀(m:Nat) (pvs:List PV),Mi P m t pvs->∃x:T,LeDs pvs (c x)/\W x/\sz x<=m
def T8 {k:IntKind}(ht:P.underlying t=some (.int k)):KU P t (cI k) (λn=>(Lit.int k n).wf=true) (λ_=>1):=by
 intro m pvs h;cases h with
 |bool ht'=>rw[ht]at ht';grind
 |str ht'=>rw[ht]at ht';grind
 |slice _ ht'=>rw[ht]at ht';grind
 |arr ht'=>rw[ht]at ht';grind
 |struct ht'=>rw[ht]at ht';grind
 |int ht' hw hm=>rw[ht]at ht';grind[LeDs.refl]
def Vl (ht:P.underlying t=some .bool):KU P t cB (λ_=>True) (λ_=>1):=by
 intro m pvs h;cases h with
 |int ht'=>rw[ht]at ht';grind
 |str ht'=>rw[ht]at ht';grind
 |slice _ ht'=>rw[ht]at ht';grind
 |arr ht'=>rw[ht]at ht';grind
 |struct ht'=>rw[ht]at ht';grind
 |bool ht' hm=>exact⟨_,LeDs.refl _,trivial,hm⟩
def Hs (ht:P.underlying t=some .string):KU P t cS (λ_=>True) (λl=>l.length+1):=by
 intro m pvs h;cases h with
 |int ht'=>rw[ht]at ht';grind
 |bool ht'=>rw[ht]at ht';grind
 |slice _ ht'=>rw[ht]at ht';grind
 |arr ht'=>rw[ht]at ht';grind
 |struct ht'=>rw[ht]at ht';grind
 |str ht' hm=>exact⟨_,LeDs.refl _,trivial,hm⟩
def K9 {T:Type}[Inhabited T]{c:T->List PV}{W:T->Prop}{sz:T->Nat}{k:Nat}(ht:P.underlying t=some (.slice e))(hk:P.cellsOf e=k)(h:KU P e c W sz) :KU P t (cL k c) (λs=>∀i,i<s.n->W (s.g i)) (λs=>EY (λi=>sz (s.g i)) s.n+1):=by
 intro m pvs hs;cases hs with
 |int ht'=>rw[ht]at ht';grind
 |bool ht'=>rw[ht]at ht';grind
 |str ht'=>rw[ht]at ht';grind
 |arr ht'=>rw[ht]at ht';grind
 |struct ht'=>rw[ht]at ht';grind
 | @slice _ _ e' n f ms ht' hl hel hm=>
  rw[ht]at ht';cases ht';obtain⟨g,b⟩:=choose_lt (α:=T) (p:=λi x=>LeDs (f i) (c x)/\W x/\sz x<=ms i) λi a=>h _ _ (hel i a);refine⟨⟨n,g⟩,?_,by grind,?_⟩
  .subst hk;exact .cons (.sl (by grind)) .nil
  have h1:=ZF (n:=n) λi a=>(b i a).2.2;rw[Vk]at hm
  grind
def P8 {fs:Array Field}(ht:P.underlying t=some (.struct fs))(h:Mi P m t pvs):∃m',Jm P m' (fs.toList.map (·.type)) pvs/\m' + 1<=m:=by cases h<;>grind
def B6 {ts:List TypeId}(h:Jm P m (t::ts) pvs):∃a b p q,pvs=p++q/\Mi P a t p/\Jm P b ts q/\a+b<=m:=by cases h<;>grind
def X3 (h:Jm P m [] pvs):pvs=[]:=by cases h;rfl
end
section
variable {κ ν : Type}
def Ju (eq : κ -> κ -> Bool)(k : κ)(z : ν):List (κ × ν)->Nat × ν×List (κ × ν)
 |[]=>(0,z,[(k,z)])
 |(a,v)::es=>if eq k a then (0,v,(k,v)::es)else ((Ju eq k z es).1+1,(Ju eq k z es).2.1,(a,v)::(Ju eq k z es).2.2)
def BH3:List (κ × ν)->Nat -> ν -> List (κ × ν)
 |[],_,_=>[]
 |(a,_)::es,0,v=>(a,v)::es
 |p::es,n+1,v=>p::BH3 es n v
def QD {kP : κ -> PV}{vP : ν -> PV}{cmp:PV->PV->Option Bool}{eq : κ -> κ -> Bool}(hc:∀a b,cmp (kP a) (kP b)=some (eq a b))(k : κ)(z : ν):∀es:List (κ × ν),
 ∃q,GG cmp (kP k) (DH kP vP es)=some q/\ent (kP k) (vP z) (DH kP vP es) q=((Ju eq k z es).1,vP (Ju eq k z es).2.1,DH kP vP (Ju eq k z es).2.2)
 |[]=>⟨none,rfl,rfl⟩
 |(a,v)::es=>by
  have e0:DH kP vP ((a,v)::es)=(kP a,vP v)::DH kP vP es:=rfl;rw[e0];simp only[GG,hc,Ju];cases h:eq k a
  .obtain⟨q,h1,c⟩:=QD (vP:=vP) hc k z es;refine⟨q.map (· + 1),by grind,?_⟩;cases q with
   |none=>simp only[ent,BU4]at c;simp only[ent,Cf6,BT6,Ih,BW3,BU4];refine⟨by rw[c.1],c.2.1,?_⟩;rw[BU1,c.2.2];rfl
   |some j=>simp only[ent,BU4]at c;simp only[ent,BU2,BT6,Ih,BU4];refine⟨by rw[c.1],by grind,?_⟩;rw[Cj9,Ck4,c.2.2];rfl
  exact⟨some 0,rfl,rfl⟩
def ZG {eq : κ -> κ -> Bool}(c:∀a b,eq a b=true->a=b){k : κ}{z v : ν}:∀{es:List (κ × ν)},O1 eq k es=some v->(Ju eq k z es).2=(v,es)
 |[],h=>by cases h
 |(a,x)::es,h=>by
  simp only[O1]at h;simp only[Ju];split at h
  .grind
  rename_i hk;rw[Gb hk,ZG c h]
def Mk (eq : κ -> κ -> Bool)(k : κ)(z : ν):∀es:List (κ × ν),(Ju eq k z es).1<(Ju eq k z es).2.2.length
 |[]=>by simp[Ju]
 |(a,v)::es=>by
  have:=Mk eq k z es
  grind[Ju]
def Nd {kP : κ -> PV}{vP : ν -> PV}:∀(es:List (κ × ν)) (i:Nat) (v : ν),i<es.length->Bw5 (DH kP vP es) i (vP v)=DH kP vP (BH3 es i v)
 |[],i,v,h=>Hc h (by simp)
 |(a,x)::es,0,v,h=>rfl
 |p::es,n+1,v,h=>by
  have ih:=Nd (kP:=kP) (vP:=vP) es n v (by grind);have e0:DH kP vP (p::es)=(kP p.1,vP p.2)::DH kP vP es:=rfl;have e1:DH kP vP (BH3 (p::es) (n+1) v)=(kP p.1,vP p.2)::DH kP vP (BH3 es n v):=rfl;rw[e0,e1,<- ih]
  grind[Bw5,List.getD_cons_succ]
def Nf (eq : κ -> κ -> Bool)(k : κ)(z v : ν):∀es:List (κ × ν),BH3 (Ju eq k z es).2.2 (Ju eq k z es).1 v=GL eq k v es
 |[]=>rfl
 |(a,x)::es=>by
  have ih:=Nf eq k z v es;simp only[Ju,GL];by_cases h:eq k a=true
  all_goals simp_all[Hu,Ih,BT6,BH3,Ju]
end
section
variable {S:W9}{P:Program}{F:M0}{g:Cfg}{pr:Prop}
structure EntI where
 kt:TypeId
 key:PV
 z:PV
 es:List (PV×PV)
end
section
variable {S:W9}{P:Program}{pr:Prop}{sc:SC}{k:Env->C8->Prop}
def Bm0 (P:Program)(sc:SC):Option EntI:=match sc.cls,sc.rest with
 |cl::_,o::_=>match AE sc.all sc.env o,o.op,Zi cl sc.env (o.dst.getD 0) o.op with
  |some true,.mapEntry t m k,true=>match aev sc.env k,aev sc.env m with
   |.p key,.Sc j=>match A2 sc.Qg j,tk P t with
    |some (.map es),some (.map kt e)=>match Lb P e with
     |some z=>if HQ P kt (nP key) then some ⟨kt,nP key,z,es⟩else none
     |none=>none
    |_,_=>none
   |_,_=>none
  |_,_,_=>none
 |_,_=>none
def ZH (P:Program)(sc:SC):Option EntI:=match sc.cls,sc.rest with
 |.l js::_,o::_=>match AE sc.all sc.env o,o.op with
  |some true,.mapEntry t m k=>match aev sc.env k,aev sc.env m with
   |.p key,.Sc j=>if js.contains j then match A2 sc.Qg j,tk P t with
    |some (.map es),some (.map kt e)=>match Lb P e with
     |some z=>if HQ P kt (nP key) then some ⟨kt,nP key,z,es⟩else none
     |none=>none
    |_,_=>none
    else none
   |_,_=>none
  |_,_=>none
 |_,_=>none
def Bm1 (i:Nat)(y:PV)(es' : List (PV×PV))(sc:SC):SC:=match sc.rest with
 |o::rest=>match o.op with
  |.mapEntry _ m _=>match aev sc.env m with
   |.Sc j=>Bk2 o.dst (.tup [.p y,.p (pI .i64 i)]) sc.env (ins j (.map es') sc.Qg) λenv Qg=>⟨sc.all,sc.cls.tail,rest,env,Qg,sc.kn⟩
   |_=>sc
  |_=>sc
 |[]=>sc
def AV4 (hc:pr){kt:TypeId}{key z y:PV}{es es' : List (PV×PV)}{i:Nat}(f:∃q,GG (KP P kt) key es=some q/\ent key z es q=(i,y,es'))(b:E5 (Ky P kt))(hk:DG S P (Bm1 i y es' (Fb P sc)) k)
 (hp:pr=E5 (Zt P sc):=by kernel_rfl) (a:Bm0 P (Fb P sc)=some ⟨kt,key,z,es⟩:=by kernel_rfl):DG S P sc k:=by
 refine⟨AU1 hc ?_ hp⟩;obtain⟨q,f,u⟩:=f;replace hk:=hk.out;generalize Fb P sc=s at a hk;obtain⟨all,cls,rest,env,Qg,kn⟩:=s;cases rest with
 |nil=>cases cls<;>simp[Bm0]at a
 |cons o rest=>
  cases cls with
  |nil=>grind[Bm0]
  |cons cl cls=>
   simp only[Bm0]at a
   repeat' split at a<;>try contradiction
   rename_i t m kk l g d _ _ kp j h1 n _ _ es0 kt0 e0 w ht _ z0 x r;simp at a;obtain⟨rfl,rfl,rfl,rfl⟩:=a;simp only[Bm1,g,n,FR,BZ6]at hk;refine Az1 (c:=Ky P kt0) (v:=.tup [.p y,.p (pI .i64 i)]) (regs':=ins j (.map es') Qg) l ?_ b d hk;rw[g]
   grind[aop]
def Bm2 (hc:pr){kt:TypeId}{key z y:PV}{es:List (PV×PV)}{i:Nat}(d:∃q,GG (KP P kt) key es=some q/\ent key z es q=(i,y,es))(b:E5 (Ky P kt))(hk:DG S P (Bm1 i y es (Fb P sc)) k)
 (hp:pr=E5 (Zt P sc):=by kernel_rfl) (a:ZH P (Fb P sc)=some ⟨kt,key,z,es⟩:=by kernel_rfl):DG S P sc k:=by
 refine⟨AU1 hc ?_ hp⟩;obtain⟨q,d,x⟩:=d;replace hk:=hk.out;generalize Fb P sc=s at a hk;obtain⟨all,cls,rest,env,Qg,kn⟩:=s;cases rest with
 |nil=>cases cls<;>simp[ZH]at a
 |cons o rest=>
  cases cls with
  |nil=>grind[ZH]
  |cons cl cls=>
   cases cl with
   |l js=>
    simp only[ZH]at a
    repeat' split at a<;>try contradiction
    rename_i t m kk g n _ _ kp j h1 r u _ _ es0 kt0 e0 f ht _ z0 hz v;simp at a;obtain⟨rfl,rfl,rfl,rfl⟩:=a;simp only[Bm1,n,r,FR,BZ6]at hk;have w:∀R2:C8,A2 R2 j=some (.map es0)->aop P env R2 (o.dst.getD 0) o.op=some ⟨Ky P kt0,.tup [.p y,.p (pI .i64 i)],ins j (.map es0) R2⟩:=by
     grind[aop]
    have c:∀R2:C8,A2 R2 j=some (.map es0)->∀q,A2 (ins j (.map es0) R2) q=A2 R2 q:=by
     grind[O4]
    refine⟨true,g,?_⟩;rw[Fg rfl];exact⟨_,_,.inl ⟨_,w Qg f,b,trivial,c Qg f,by grind⟩,hk⟩
   |_=>simp[ZH]at a
def Bm3 (sc:SC):Option (Int×PV×List (PV×PV)):=match sc.cls,sc.rest with
 |cl::_,o::_=>match AE sc.all sc.env o,o.op,Zi cl sc.env (o.dst.getD 0) o.op with
  |some true,.entryStore _ m s x,true=>match aev sc.env m,asInt (aev sc.env s),Fa sc.Qg (aev sc.env x)with
   |.Sc j,some s,some (y,Qg)=>match A2 Qg j with
    |some (.map es)=>some (s,y,es)
    |_=>none
   |_,_,_=>none
  |_,_,_=>none
 |_,_=>none
def BM7 (es' : List (PV×PV))(sc:SC):SC:=match sc.rest with
 |o::rest=>match o.op with
  |.entryStore _ m s x=>match aev sc.env m,Fa sc.Qg (aev sc.env x)with
   |.Sc j,some (_,Qg)=>Bk2 o.dst PX sc.env (ins j (.map es') Qg) λenv Qg=>⟨sc.all,sc.cls.tail,rest,env,Qg,sc.kn⟩
   |_,_=>sc
  |_=>sc
 |[]=>sc
def WV (hc:pr){i:Nat}{y:PV}{es es' : List (PV×PV)}(n:i<es.length)(f:Bw5 es i y=es')(hk:DG S P (BM7 es' (Fb P sc)) k)
 (hp:pr=E5 (Zt P sc):=by kernel_rfl) (a:Bm3 (Fb P sc)=some ((i:Int),y,es):=by kernel_rfl):DG S P sc k:=by
 refine⟨AU1 hc ?_ hp⟩;replace hk:=hk.out;generalize Fb P sc=s at a hk;obtain⟨all,cls,rest,env,Qg,kn⟩:=s;cases rest with
 |nil=>cases cls<;>simp[Bm3]at a
 |cons o rest=>
  cases cls with
  |nil=>grind[Bm3]
  |cons cl cls=>
   simp only[Bm3]at a
   repeat' split at a<;>try contradiction
   rename_i t m s x g d b _ _ _ j sv y0 regs1 h1 q l _ es0 r;simp at a;obtain⟨rfl,rfl,rfl⟩:=a;subst f;simp only[BM7,d,h1,l,FR,BZ6]at hk;refine Az1 (c:=[0<=(i:Int)/\(i:Int)<(es0.length:Int)]) (v:=PX) (regs':=ins j (.map (Bw5 es0 i y0)) regs1) g ?_ (show 0<=(i:Int)/\(i:Int)<(es0.length:Int) by omega) b hk;rw[d]
   grind[aop]
end
section
variable {S:W9}{P:Program}{F:M0}{g:Cfg}{pr:Prop}
def bldK (P:Program):Cfg->Cfg
 |.ops all (o::rest) K st=>match bop P st.Qg (o.dst.getD 0) o.op with
  |some out=>AH1 o.dst out.val st.env out.Qg λst=>.ops all rest K st
  |none=>.ops all (o::rest) K st
 |g=>g
def bldI (P:Program):Cfg->Bool
 |.ops all (o::rest) K st=>(match BM all st.env o with|some true=>true|_=>false)&&(bop P st.Qg (o.dst.getD 0) o.op).isSome
 |_=>false
def K_bld (hS:H6 S P)(hc:pr)(d:Nat)(hk:KG S P F (bldK P (IL P d g)))
 (hp:pr=E5 (Bz4 P d g):=by kernel_rfl) (c:bldI P (IL P d g)=true:=by kernel_rfl):KG S P F g:=by
 refine⟨(HU (u:=some d) (F:=F) hS 400 [] g (by subst hp;exact hc)).2 ?_⟩;have hk:=hk.out;show G S P F (IL P d g);generalize IL P d g=g1 at hk c;unfold bldI at c;split at c
 .rename_i all o rest K st;simp at c;obtain⟨i,hb⟩:=c;split at i
  .rename_i f;obtain⟨out,a⟩:=BU6.1 hb;simp only[bldK,a,Hb]at hk;refine BN hS f ?_;have b:E5 out.cond:=by
    unfold bop at a
    repeat' split at a<;>try contradiction
    cases a;exact trivial
   unfold wOp;split
   .grind[bop]
   .grind[bop]
   .grind[bop]
   .grind[bop]
   exact .inr (.inr ⟨out,a,b,hk⟩)
  grind
 grind
structure NextI where
 cl:Nat
 last:Nat
 seen:List Nat
 es:List (PV×PV)
def BM8:Cfg->Option NextI
 |.ops all (o::rest) K st=>match BM all st.env o,o.op with
  |some true,.next x false=>match aev st.env x with
   |.reg j 0=>match A2 st.Qg j with
    |some (.blk (1::cl::last::seen) jm)=>match A2 st.Qg jm with
     |some (.map es)=>some ⟨cl,last,seen,es⟩
     |_=>none
    |_=>none
   |_=>none
  |_,_=>none
 |_=>none
def BM9:Cfg->Cfg
 |.ops all (o::rest) K st=>AH1 o.dst (.tup [.p (.bb false)]) st.env st.Qg λst=>.ops all rest K st
 |g=>g
def BN0 (i:Nat)(ky vl:PV):Cfg->Cfg
 |.ops all (o::rest) K st=>match o.op with
  |.next x _=>match aev st.env x with
   |.reg j _=>match A2 st.Qg j with
    |some (.blk (_::cl::_::seen) jm)=>match A2 st.Qg jm with
     |some (.map es)=>AH1 o.dst (.tup [.p (.bb true),.p ky,.p vl]) st.env (ins j (.blk (1::cl::es.length::(i::seen)) jm) st.Qg) λst=>.ops all rest K st
     |_=>.ops all (o::rest) K st
    |_=>.ops all (o::rest) K st
   |_=>.ops all (o::rest) K st
  |_=>.ops all (o::rest) K st
 |g=>g
def BN1 (hS:H6 S P)(hc:pr){cl last:Nat}{seen:List Nat}{es:List (PV×PV)}(h1:cl=es.length)(q:cl<=last){ky vl:Nat->PV}(f:∀i,i<es.length->es.getD i default=(ky i,vl i))
 (c:(∀i,i<es.length->i∈seen)->KG S P F (BM9 (stp P g))) (ht:∀i,i<es.length->i ∉ seen->KG S P F (BN0 i (ky i) (vl i) (stp P g)))
 (hp:pr=E5 (cnd P g):=by kernel_rfl) (d:BM8 (stp P g)=some ⟨cl,last,seen,es⟩:=by kernel_rfl):KG S P F g:=by
 refine⟨GF hS hc ?_ hp⟩;replace c:=λx=>(c x).out;replace ht:=λi a b=>(ht i a b).out;generalize stp P g=g1 at c ht d;unfold BM8 at d
 repeat' split at d<;>try contradiction
 rename_i all o rest K st _ _ x r l _ j hx _ cl' last' seen' jm m _ es' hm;cases d;simp only[BM9,BN0,l,hx,m,hm,Hb]at c ht;refine BN hS r ?_;unfold wOp;rw[l];exact⟨j,cl,last,seen,jm,es,hx,m,hm,h1,q,c,λi n hs=>by rw[f i n];exact ht i n hs⟩
structure EntVI where
 last:Nat
 i:Nat
 es:List (PV×PV)
def BN2:Cfg->Option EntVI
 |.ops all (o::rest) K st=>match BM all st.env o,o.op with
  |some true,.entry x=>match aev st.env x with
   |.reg j 0=>match A2 st.Qg j with
    |some (.blk (1::_::last::i::_) jm)=>match A2 st.Qg jm with
     |some (.map es)=>some ⟨last,i,es⟩
     |_=>none
    |_=>none
   |_=>none
  |_,_=>none
 |_=>none
def BN3 (ky vl:PV):Cfg->Cfg
 |.ops all (o::rest) K st=>AH1 o.dst (.tup [.p ky,.p vl]) st.env st.Qg λst=>.ops all rest K st
 |g=>g
def BN4 (hS:H6 S P)(hc:pr)(d:Nat){last i:Nat}{es:List (PV×PV)}(h1:last=es.length)(b:i<es.length)(ky vl:PV)(f:es.getD i default=(ky,vl))(hk:KG S P F (BN3 ky vl (IL P d g)))
 (hp:pr=E5 (Bz4 P d g):=by kernel_rfl) (a:BN2 (IL P d g)=some ⟨last,i,es⟩:=by kernel_rfl):KG S P F g:=by
 refine⟨(HU (u:=some d) (F:=F) hS 400 [] g (by subst hp;exact hc)).2 ?_⟩;have hk:=hk.out;show G S P F (IL P d g);generalize IL P d g=g1 at hk a;unfold BN2 at a
 repeat' split at a<;>try contradiction
 rename_i all o rest K st _ _ x l m _ j hx _ cl' last' i' seen' jm n _ es' hm;cases a;simp only[BN3,Hb]at hk;refine BN hS l ?_;refine Mh (c:=[last=es.length/\i<es.length]) (v:=.tup [.p ky,.p vl]) (R':=st.Qg) ?_ ⟨h1,b⟩ hk;rw[m]
 grind[aop]
def BN5 (hS:H6 S P)(hc:pr)(n:Nat)(Pr:Nat->Prop)(s:List Nat->St){ids:List (Nat×Nat)}
 (b:∀(X:Type) (s' : X->St) (J:X->Prop) (m:X->Nat) (k:Nat) (seen:List Nat),(∀i∈seen,i<n/\Pr i) ->
  (∀(g' : Cfg) (ids:List (Nat×Nat)) (pr:Prop) (i:Nat),pr->i<n->i ∉ seen->Pr i->(hp:pr=E5 (cnd P g'):=by kernel_rfl)->(a:stp P g' = .pop .normal (.lp X s' J m k::(stp P g).k) (stp P g').st:=by kernel_rfl)->(hle:KLe ids (stp P g').st (s (i::seen)):=by exact kl)->KG S P F g') ->
  KG S P F (.code (TC (stp P g)) (.lp X s' J m k::(stp P g).k) (s seen)))
 (hp:pr=E5 (cnd P g):=by kernel_rfl) (hl:Jp (stp P g)=true:=by kernel_rfl) (hle:KLe ids (stp P g).st (s []):=by exact kl):KG S P F g:=by
 refine⟨GF hS hc ?_ hp⟩;rw[WM hl];refine Ax0 hS s (λseen=>∀i∈seen,i<n/\Pr i) (λseen=>((List.range n).filter λi=>!seen.contains i).length) [] ids hle.out (by grind) λseen c=>?_;refine (b (List Nat) s _ _ _ seen c λg' ids pr i hc d hs j hp a hle=>⟨GF hS hc ?_ hp⟩).out;rw[a];refine Aj2 hS (i::seen) ids hle.out (λq f=>?_) ?_
 .grind
 refine filter_lt (λq=>!seen.contains q) (λq=>!(i::seen).contains q) (λq f=>?_) i ?_ ?_ (List.range n) (BW9.2 d)
 all_goals grind
end
section
variable {S:W9}{P:Program}{pr:Prop}{sc:SC}{k:Env->C8->Prop}
def BB4:AV->Bool
 |.vec _ | .vecp _ _=>false
 |_=>true
def QE {R:C8}:∀{l:List AV},l.all BB4=true->Jf R l=some (l,R)
 |[],_=>rfl
 |a::r,h=>by simp only[Cb9,BT5]at h;simp only[Jf,QE h.2];cases a<;>first|rfl|exact Hc h.1 (by simp[BB4])
def Rq {ids:List Nat}{R R2:C8}:∀{l:List Nat},(∀j∈l,A2 R2 j=A2 R j)->N5 ids R2 l=N5 ids R l
 |[],_=>rfl
 |j::l,h=>by simp only[N5,h j (by simp),Rq (l:=l) λq a=>h q (by simp[a])]
def Ht {q:Nat}:∀{ids:List Nat}{ks:List Bool}{R:C8},q ∉ ids->A2 (K8 ids ks R) q=A2 R q
 |[],ks,R,_=>by cases ks<;>rfl
 |j::ids,[],R,h=>by simp at h;simp only[K8];rw[Ht h.2,O4,Gb (Cb0 h.1)]
 |j::ids,b::ks,R,h=>by
  simp at h;simp only[K8];split
  .exact Ht h.2
  rw[Ht h.2,O4,Gb (Cb0 h.1)]
def Ic {q:Nat}:∀{ids:List Nat}{ks:List Bool}{A B:C8},A2 A q=A2 B q->A2 (K8 ids ks A) q=A2 (K8 ids ks B) q
 |[],ks,A,B,h=>by cases ks<;>exact h
 |j::ids,[],A,B,h=>by simp only[K8];exact Ic (by rw[O4,O4,h])
 |j::ids,b::ks,A,B,h=>by
  simp only[K8];split
  .exact Ic h
  exact Ic (by rw[O4,O4,h])
def WW (ids:List Nat)(ks:List Bool)(n:Nat)(sc:SC):Bool:=match sc.cls,sc.rest with
 |.a js::_,o::_=>match o.op with
  |.call c=>((c.args.toList.map (aev sc.env)).all BB4&&ids.all λq=>js.contains q)&&(((H9 (o.dst.getD 0) ids ks n).all λq=>js.contains q)&&((List.range n).all λp=>js.contains (nid (o.dst.getD 0) p))&&Z0 sc.Qg ids ks (o.dst.getD 0) n)
  |_=>false
 |_,_=>false
def WX (ids:List Nat)(hc:pr){fn:FuncId}{args:List AV}{objs objs' : List Obj}{r:AV}{ks:List Bool}(hF:Qi S fn args objs r objs' ks)(hk:DG S P (Ve ids ks r objs' (Fb P sc)) k)
 (hp:pr=E5 (Zt P sc):=by kernel_rfl) (b:Vc ids (Fb P sc)=some (fn,args,objs):=by kernel_rfl) (hn:WW ids ks objs'.length (Fb P sc)=true:=by kernel_rfl):DG S P sc k:=by
 refine⟨AU1 hc ?_ hp⟩;replace hk:=hk.out;generalize Fb P sc=s at b hn hk;obtain⟨all,cls,rest,env,Qg,kn⟩:=s;cases rest with
 |nil=>simp[Vc]at b
 |cons o rest=>
  simp only[Vc]at b;split at b
  .rename_i c hg t;split at b
   .rename_i f u;split at b
    .rename_i as regs1 ha;split at b
     .rename_i fn' as' hw;split at b
      .rename_i a0 ob0 hr v;split at b
       .rename_i i;cases b;simp only[BT5]at i;cases cls with
        |nil=>simp[WW]at hn
        |cons cl cls=>
         cases cl with
         |a js=>
          simp only[WW,t,BT5]at hn;obtain⟨⟨l,w⟩,⟨x,y⟩,m⟩:=hn;rw[QE l]at ha;cases ha;simp only[Ve,t,QE l,FR,BZ6]at hk;have d:∀q∈ids,q∈js:=λq g=>by simpa using BU0.1 w q g
          have n:∀q,q ∉ js->q ∉ H9 (o.dst.getD 0) ids ks objs'.length:=λq g h=>g (by simpa using BU0.1 x q h);refine⟨true,hg,?_⟩;rw[Fg rfl];refine⟨_,_,.inr (.inr (.inr (.inr ⟨js,rfl,λq g=>?_,λR2 z=>?_⟩))),hk⟩
          .rw[KD (n q g),Ht λh=>g (d q h)]
          refine⟨_,⟨c,f,_,R2,fn,as',args,objs,objs',ks,r,ids,t,u,QE l,hw,hr,(Rq λj hj=>z j (d j hj)).trans v,hF,i.1,i.2,?_,rfl,rfl⟩,λq g=>Rm (Ic (z q g)),λq g=>(KD (n q g)).trans (Ht λh=>g (d q h))⟩;unfold Z0 at m⊢;rw[BU0]at m⊢;intro p hp;have h1:=m p hp;have h3:nid (o.dst.getD 0) p∈js:=by simpa using BU0.1 y p hp
          rw[z _ h3];exact h1
         |_=>simp[WW]at hn
       cases b
      cases b
     cases b
    cases b
   cases b
  cases b
end
section
variable {S:W9}{P:Program}{g:Cfg}{pr:Prop}
def AV5 (outs:List Nat):List Nat->List Obj->C8
 |j::js,o::os=>ins j (unO outs o) (AV5 outs js os)
 |_,_=>[]
def AV6:List ResultVar->List AV->Env
 |.tmp t::rs,a::l=>ins t a (AV6 rs l)
 |_,_=>[]
def AV7 (rs:List ResultVar)(outs:List Nat)(a:AV)(objs:List Obj):St:=
 ⟨match rs with
  |[r]=>AV6 [r] [unA outs a]
  |rs=>match a with
   |.tup l=>AV6 rs (unL outs l)
   |_=>[],AV5 outs outs objs⟩
def BN6 (R:C8)(outs:List Nat):List (Nat×Nat):=(outs.filter λj=>(A2 R j).isSome).map λj=>(j,j)
def kOi (hS:H6 S P)(hc:pr){n:Nat}{rs:List ResultVar}{Q:ARes->List Obj->List Bool->Prop}{a:AV}{objs:List Obj}(ids:List (Nat×Nat))(outs:List Nat)(b:Q (.ret a) objs (IH n outs):=by exact⟨rfl,rfl,rfl⟩)(hp:pr=E5 (cnd P g):=by kernel_rfl)
 (c:(Bz7 (stp P g)).isSome=true:=by kernel_rfl) (hle:KLe ids (stp P g).st (AV7 rs outs a objs):=by exact kl) (d:Al8 P (AV7 rs outs a objs) rs outs=some (a,objs):=by kernel_rfl):KG S P (Et S P n rs Q) g:=
 P3 hS hc (AV7 rs outs a objs) outs b hp c hle d
def kO (hS:H6 S P)(hc:pr){n:Nat}{rs:List ResultVar}{Q:ARes->List Obj->List Bool->Prop}{a:AV}{objs:List Obj}(outs:List Nat)(b:Q (.ret a) objs (IH n outs):=by exact⟨rfl,rfl,rfl⟩)(hp:pr=E5 (cnd P g):=by kernel_rfl)
 (c:(Bz7 (stp P g)).isSome=true:=by kernel_rfl) (hle:KLe (BN6 (stp P g).st.Qg outs) (stp P g).st (AV7 rs outs a objs):=by exact kl) (d:Al8 P (AV7 rs outs a objs) rs outs=some (a,objs):=by kernel_rfl):KG S P (Et S P n rs Q) g:=
 kOi hS hc _ outs b hp c hle d
end
section
variable {α : Type}
def AV8 (c : α -> List PV):Nat->List α -> List (Nat×List PV)
 |_,[]=>[]
 |k,a::l=>(k,c a)::AV8 c (k+1) l
def ZI (c : α -> List PV)(z:List PV):∀(l:List α) (k i:Nat) (d : α),i<l.length->H2 z (AV8 c k l) (k+i)=c (l.getD i d)
 |[],k,i,d,h=>by grind
 |a::l,k,0,d,h=>by simp[AV8,H2]
 |a::l,k,i+1,d,h=>by
  have:=ZI c z l (k+1) i d (by grind)
  rw[show k+1+i=k+(i+1) by omega]at this
  simp_all[AV8,H2,Gb]
def AP0 [Inhabited α](c : α -> List PV)(l:List α)(z:List PV):(Sd.fn l.length (Sl.of l).n (H2 z (AV8 c 0 l)) (λi=>c ((Sl.of l).g i))).ok:=⟨rfl,λi a=>by
 have:=ZI c z l 0 i default a
 rw[BW8]at this;omega⟩
def R7 (c : α -> List PV)(v:Sl α)(x : α)(z:List PV):(Sd.fn (v.n+1) (v.push x).n (DF v.n (λi=>c (v.g i)) (H2 z [(0,c x)])) (λi=>c ((v.push x).g i))).ok:=⟨rfl,app1 same rfl rfl⟩
def appS (c : α -> List PV)(v w:Sl α):(Sd.fn (v.n+w.n) (v.app w).n (DF v.n (λi=>c (v.g i)) (λi=>c (w.g i))) (λi=>c ((v.app w).g i))).ok:=⟨rfl,Zo same rfl same rfl⟩
def Pf (n:Nat)(f:Nat->PV):(Sd.fn n n (λi=>[(λi=>(EQ n f).getD i default) i]) (λi=>[f i])).ok:=⟨rfl,Ej n f⟩
def Bm4 (n:Nat)(z:PV):(Sd.fn n n (λi=>[(λi=>(List.replicate n z).getD i default) i]) (λ_=>[z])).ok:=⟨rfl,Ro rfl⟩
def Bu3 (c : α -> List PV)(v:Sl α)(z:List PV):(Sd.fn (0+v.n) v.n (DF 0 (H2 z []) (λi=>c (v.g i))) (λi=>c (v.g i))).ok:=⟨BW8 _,λi _=>by simp[DF]⟩
variable {ids:List (Nat×Nat)}{s t:St}{L M:Sd}
def kl1 (i:Nat)(h:L.ok)(h1:(leK ids s t).map (Bk1 [i] Sd.src)=(leK ids s t).map (Bk1 [i] Sd.tgt):=by kernel_rfl)
 (a:(leK ids s t).map (λK=>[K[i]?])=some [some L]:=by kernel_rfl):KLe ids s t:=klR [(i,L)] (al1 h al0) h1 a
def kl2 (i j:Nat)(h:L.ok)(g:M.ok)(h1:(leK ids s t).map (Bk1 [i,j] Sd.src)=(leK ids s t).map (Bk1 [i,j] Sd.tgt):=by kernel_rfl)
 (a:(leK ids s t).map (λK=>[K[i]?,K[j]?])=some [some L,some M]:=by kernel_rfl):KLe ids s t:=klR [(i,L),(j,M)] (al1 h (al1 g al0)) h1 a
end
section
variable {S:W9}{P:Program}{F:M0}{g:Cfg}{pr:Prop}{sc:SC}{k:Env->C8->Prop}{κ ν : Type}
def lkC {kP : κ -> PV}{vP : ν -> PV}{cmp:PV->PV->Option Bool}{eq : κ -> κ -> Bool}(hc:∀a b,cmp (kP a) (kP b)=some (eq a b)){q : κ}{es:List (κ × ν)}{r:Option ν}(o:O1 eq q es=r):find cmp (kP q) (DH kP vP es)=some (r.map vP):=by
 grind[Zp]
def Am4 (hS:H6 S P)(hc:pr)(kt e:TypeId)(kP : κ -> PV)(vP : ν -> PV)(eq : κ -> κ -> Bool){q : κ}{es:List (κ × ν)}{v : ν}(o:O1 eq q es=some v)(c:E5 (Ky P kt))(hk:KG S P F (Bj6 (vP v) true (stp P g)))
 (d:∀a b,KP P kt (kP a) (kP b)=some (eq a b):=by exact λ_ _=>by kernel_rfl) (hp:pr=E5 (cnd P g):=by kernel_rfl) (f:Bj5 P (stp P g)=some ⟨kt,e,kP q,DH kP vP es⟩:=by kernel_rfl) (hx:AH2 P e (some (vP v))=some (vP v,true):=by kernel_rfl):KG S P F g:=
 AA3 hS hc (lkC d o) c hk hp f hx
def Am5 (hS:H6 S P)(hc:pr)(kt e:TypeId)(kP : κ -> PV)(vP : ν -> PV)(eq : κ -> κ -> Bool){q : κ}{es:List (κ × ν)}(o:O1 eq q es=none)(x:PV)(c:E5 (Ky P kt))(hk:KG S P F (Bj6 x false (stp P g)))
 (d:∀a b,KP P kt (kP a) (kP b)=some (eq a b):=by exact λ_ _=>by kernel_rfl) (hp:pr=E5 (cnd P g):=by kernel_rfl) (f:Bj5 P (stp P g)=some ⟨kt,e,kP q,DH kP vP es⟩:=by kernel_rfl) (hx:AH2 P e none=some (x,false):=by kernel_rfl):KG S P F g:=
 AA3 hS hc (lkC d o) c hk hp f hx
def AH8 (hS:H6 S P)(hc:pr)(kt:TypeId)(kP : κ -> PV)(vP : ν -> PV)(eq : κ -> κ -> Bool)(q : κ)(y : ν)(es:List (κ × ν))(c:E5 (Ky P kt))(hk:KG S P F (updK (DH kP vP (GL eq q y es)) (stp P g)))
 (d:∀a b,KP P kt (kP a) (kP b)=some (eq a b):=by exact λ_ _=>by kernel_rfl) (hp:pr=E5 (cnd P g):=by kernel_rfl) (f:updE P (stp P g)=some (kt,kP q,vP y,DH kP vP es):=by kernel_rfl):KG S P F g:=
 Bk5 hS hc (WK d q y es) c hk hp f
def Bm5 (hc:pr)(kt e:TypeId)(kP : κ -> PV)(vP : ν -> PV)(eq : κ -> κ -> Bool){q : κ}{es:List (κ × ν)}{v : ν}(o:O1 eq q es=some v)(c:E5 (Ky P kt))(hk:DG S P (AA2 (vP v) true (Fb P sc)) k)
 (d:∀a b,KP P kt (kP a) (kP b)=some (eq a b):=by exact λ_ _=>by kernel_rfl) (hp:pr=E5 (Zt P sc):=by kernel_rfl) (f:Vf P (Fb P sc)=some ⟨kt,e,kP q,DH kP vP es⟩:=by kernel_rfl) (hx:AH2 P e (some (vP v))=some (vP v,true):=by kernel_rfl):DG S P sc k:=
 AA5 hc (lkC d o) c hk hp f hx
def BB5 (hc:pr)(kt e:TypeId)(kP : κ -> PV)(vP : ν -> PV)(eq : κ -> κ -> Bool){q : κ}{es:List (κ × ν)}(o:O1 eq q es=none)(x:PV)(c:E5 (Ky P kt))(hk:DG S P (AA2 x false (Fb P sc)) k)
 (d:∀a b,KP P kt (kP a) (kP b)=some (eq a b):=by exact λ_ _=>by kernel_rfl) (hp:pr=E5 (Zt P sc):=by kernel_rfl) (f:Vf P (Fb P sc)=some ⟨kt,e,kP q,DH kP vP es⟩:=by kernel_rfl) (hx:AH2 P e none=some (x,false):=by kernel_rfl):DG S P sc k:=
 AA5 hc (lkC d o) c hk hp f hx
def WY (hc:pr)(kt:TypeId)(kP : κ -> PV)(vP : ν -> PV)(eq : κ -> κ -> Bool)(q : κ)(y : ν)(es:List (κ × ν))(c:E5 (Ky P kt))(hk:DG S P (BA2 (DH kP vP (GL eq q y es)) (Fb P sc)) k)
 (d:∀a b,KP P kt (kP a) (kP b)=some (eq a b):=by exact λ_ _=>by kernel_rfl) (hp:pr=E5 (Zt P sc):=by kernel_rfl) (f:AH3 P (Fb P sc)=some (kt,kP q,vP y,DH kP vP es):=by kernel_rfl):DG S P sc k:=
 Bk6 hc (WK d q y es) c hk hp f
end
abbrev oV {α : Type}(t:TypeId)(k:Nat)(c : α -> List PV)(s:Sl α)(b:Bool):Obj:=.vec t k s.n (λi=>c (s.g i)) b
abbrev oM {κ ν : Type}(kP : κ -> PV)(vP : ν -> PV)(es:List (κ × ν)):Obj:=.map (DH kP vP es)
end Go.AM
