/- What a law's walk and its plain proof need, part 4: no condition of its own. -/
import Derived.Test.YtlbooedblpdmaaaGreatDoorAC
import Derived.ProofKit
import Derived.WideKeyArgs
import Derived.Deep.Slices
import Derived.OpenShut
import Derived.KernelRfl
set_option linter.defProp false
set_option linter.unusedSimpArgs false
set_option linter.unusedVariables false
set_option linter.unusedSectionVars false
namespace Go.AM
def T3:=True.intro
def Cl2:=@Int.toNat_natCast
def Cp2:=@List.mem_map
def Cp4:=@BitVec.eq_of_toNat_eq
def Ct2:=@Nat.le_of_ble_eq_true
def Cy0:=@List.mem_singleton
def CB2:=@Nat.shiftRight_eq_div_pow
def CB4:=@Nat.pow_le_pow_right
def CB7:=@BitVec.toNat_ushiftRight
def CD0:=@List.take_append_drop
def CD3:=@Nat.blt_eq
def CD6:=@List.tail_cons
def CF2:=@Nat.min_eq_right
def CG7:=@Int.fdiv_eq_ediv_of_nonneg
def CH5:=@List.drop_zero
def CH7:=@List.length_range
def CJ2:=@Nat.lt_succ_self
def CJ3:=@List.filter_cons
def CJ9:=@BitVec.toNat_shiftLeft
def CL2:=@Go.WideShapes.add_plain
def CM1:=@BitVec.toNat_ofInt
def CM2:=@Int.natCast_nonneg
def CM3:=@List.sum_cons
def CM4:=@List.getElem_range
def clsOf:Op->Cls
 |.store .. | .alloc _ | .box .. | .buildSlice .. | .makeMap .. | .makeSlice .. | .mapUpdate .. | .entryStore .. | .mapEntry ..=>.w
 |.load .. | .indexAddr .. | .lookup ..=>.r
 |.call { callee:=.builtin .len,.. } | .call { callee:=.builtin .cap,.. }=>.r
 |.call { callee:=.builtin .min,.. } | .call { callee:=.builtin .max,.. }=>.n
 |.call _=>.w
 |_=>.n
def isR (env:Env):Op->Bool
 |.load .. | .indexAddr ..=>true
 |.lookup _ _ k _=>isP (aev env k)
 |.call { callee:=.builtin .len,.. }=>true
 |o=>isN env o
def inJ (js:List Nat):AV->Bool
 |.p _=>true
 |.vec i=>js.contains i
 |.vecp i _=>js.contains i
 |_=>false
def adJ (js:List Nat):AV->Bool
 |.reg i _=>js.contains i
 |.elt i _ _ _=>js.contains i
 |_=>false
def mrJ (js:List Nat):AV->Bool
 |.mref i=>js.contains i
 |_=>false
def isL (js:List Nat)(env:Env):Op->Bool
 |.lookup _ m k _=>mrJ js (aev env m)&&isP (aev env k)
 |.load _ a=>adJ js (aev env a)
 |.indexAddr _ x _=>adJ js (aev env x)||inJ js (aev env x)
 |.call { callee:=.builtin .len,args,.. }=>args.toList.all fun x=>inJ js (aev env x)
 |_=>false
def isA (js:List Nat)(env:Env)(d:Nat):Op->Bool
 |.alloc _=>js.contains (nid d 0)
 |.box _ _=>js.contains (nid d 0)
 |.store _ a _=>adJ js (aev env a)
 |.call { callee:=.builtin .append,args,.. }=>js.contains (nid d 0)&&args.toList.all fun x=>inJ js (aev env x)
 |.buildSlice _ _ parts=>js.contains (nid d 0)&&parts.toList.all fun q=>isP (aev env q.2)
 |_=>false
def isB (js:List Nat)(env:Env)(d:Nat):Op->Bool
 |.buildSlice _ _ parts=>js.contains (nid d 0)&&parts.toList.all fun q=>inJ js (aev env q.2)
 |_=>false
def Bf2 (cl:Cls)(env:Env)(d:Nat)(o:Op):Bool:=match cl with
 |.n=>isN env o
 |.r=>isR env o
 |.w=>true
 |.l j=>isL j env o
 |.a j=>isA j env d o
 |.b j=>isB j env d o
structure SRes:Type 1 where
 conds:List Prop
 cls:List Cls
 rest:List Oper
 env:Env
 regs:F5
def Ce6 (kn:List Nat)(all:List Oper)(env:Env)(o:Oper):Bool:=match o.guard with
 |none=>false
 |some (j,_)=>match kn.contains j with
  |true=>false
  |false=>match get env (Kr all j)with
   |.p (.bb _)=>true
   |_=>false
def YW (P:Program)(kn:List Nat)(all:List Oper):List Cls->List Oper->List Prop->Env->F5->SRes
 |cl::cls,o::rest,c,env,regs=>
  match Ce6 kn all env o with
  |true=>⟨c,cl::cls,o::rest,env,regs⟩
  |false=>match Dq all env o with
  |some true=>match BL8 o.op&&Bf2 cl env (o.dst.getD 0) o.op with
   |true=>match aop P env regs (o.dst.getD 0) o.op with
    |none=>⟨c,cl::cls,o::rest,env,regs⟩
    |some ⟨p,v,regs'⟩=>fA v fun v=>fR regs' fun regs'=>fC p c fun c=>
     match o.dst with
     |some d=>Bl7 d v env fun env=>YW P kn all cls rest c env regs'
     |none=>YW P kn all cls rest c env regs'
   |false=>⟨c,cl::cls,o::rest,env,regs⟩
  |some false=>match o.dst with
   |some d=>Bl7 d Dm env fun env=>YW P kn all cls rest c env regs
   |none=>YW P kn all cls rest c env regs
  |none=>⟨c,cl::cls,o::rest,env,regs⟩
 |cls,rest,c,env,regs=>⟨c,cls,rest,env,regs⟩
section
variable {S:W1}{P:Program}
theorem BC4 {env:Env}{R R' : F5}{d:Nat}{o:Op}{c:List Prop}{v:AV}(f:isR env o=true)(h:aop P env R d o=some ⟨c,v,R'⟩):R' = R:=by
 have gen:isN env o=true->R' = R:=fun hn=>(Ao1 hn h).1;cases o with
 |load t a=>
  simp only[aop]at h;split at h
  .simp only[Cl5,Out.mk.injEq]at h;exact h.2.2.symm
  cases h
 |indexAddr t x i=>
  simp only[aop]at h;split at h
  .split at h
   .simp only[Cl5,Out.mk.injEq]at h;exact h.2.2.symm
   cases h
  cases h
 |lookup t m k ok=>
  simp only[isR]at f;cases hk:aev env k<;>simp only[hk,isP,Cm2]at f;simp only[aop,hk,Hg]at h;split at h
  .simp only[Cl5,Out.mk.injEq]at h;exact h.2.2.symm
  cases h
 |call cc=>
  obtain⟨callee,args,types⟩:=cc;cases callee with
  |builtin b=>
   cases b with
   |len=>
    simp only[aop]at h;split at h
    .split at h
     .simp only[Cl5,Out.mk.injEq]at h;exact h.2.2.symm
     cases h
    cases h
   |_=>exact gen f
  |_=>exact gen f
 |_=>exact gen f
theorem HJ (regs:F5)(d t:Nat)(x:Obj):A7 (ins d x regs) t=if d=t then some x else A7 regs t:=by
 induction regs with
 |nil=>simp[ins,A7]
 |cons p r ih=>
  obtain⟨i,b⟩:=p;simp only[ins];split
  .simp only[A7]
  split
  .rename_i h;subst h;simp only[A7];split<;>rfl
  rename_i h1 a;simp only[A7,ih];by_cases h:i=t
  .simp only[h,Rm];rw[Ix (by omega)]
  simp only[h,Rn]
theorem AW0 {js:List Nat}{a:AV}(h:adJ js a=true):∃i∈js,(∃off,a=.reg i off) \/ ∃k n off,a=.elt i k n off:=by
 cases a with
 |reg i off=>exact⟨i,by simpa[adJ]using h,.inl ⟨off,rfl⟩⟩
 |elt i k n off=>exact⟨i,by simpa[adJ]using h,.inr ⟨k,n,off,rfl⟩⟩
 |_=>cases h
section
variable {js:List Nat}{R R2:F5}(hR:∀q∈js,A7 R2 q=A7 R q)
include hR
theorem BC5 {t:TypeId}{a:AV}(ha:adJ js a=true):load P R2 t a=load P R t a:=by obtain⟨i,b,⟨off,rfl⟩ | ⟨k,n,off,rfl⟩⟩:=AW0 ha<;>simp only[load,hR i b]
theorem Bf3 {t:TypeId}{x:AV}{n:Int}(ha:(adJ js x||inJ js x)=true):HA P R2 t x n=HA P R t x n:=by
 cases x with
 |vec i=>
  have a:i∈js:=by simpa[adJ,inJ]using ha
  unfold HA;cases tk P t with
  |none=>rfl
  |some k=>cases k<;>first|rfl|simp only[hR i a]
 |vecp i m=>
  have a:i∈js:=by simpa[adJ,inJ]using ha
  unfold HA;cases tk P t with
  |none=>rfl
  |some k=>cases k<;>first|rfl|simp only[hR i a]
 |reg i off=>unfold HA;cases tk P t with
  |none=>rfl
  |some k=>cases k<;>rfl
 |p y=>unfold HA;cases tk P t with
  |none=>rfl
  |some k=>cases k<;>cases y<;>rfl
 |elt i k n off=>unfold HA;cases tk P t with
  |none=>rfl
  |some k=>cases k<;>rfl
 |_=>cases ha
theorem BC6 {t:TypeId}{x:AV}(ha:inJ js x=true):Bk4 P R2 t x=Bk4 P R t x:=by
 cases x with
 |vec i=>
  have a:i∈js:=by simpa[inJ]using ha
  unfold Bk4;cases tk P t with
  |none=>rfl
  |some k=>cases k<;>first|rfl|simp only[hR i a]
 |vecp i m=>unfold Bk4;cases tk P t with
  |none=>rfl
  |some k=>cases k<;>rfl
 |p y=>unfold Bk4;split<;>simp_all
 |_=>cases ha
theorem Az5 {k:Nat}{x:AV}(ha:inJ js x=true):elems R2 k x=elems R k x:=by
 cases x with
 |vec i=>
  have a:i∈js:=by simpa[inJ]using ha
  simp only[elems,hR i a]
 |vecp i m=>
  have a:i∈js:=by simpa[inJ]using ha
  simp only[elems,hR i a]
 |p y=>unfold elems;split<;>simp_all
 |_=>cases ha
theorem Bo8 {e:TypeId}{k:Nat}{x:AV}{q:Nat×(Nat->List PV)×Bool×F5}(ha:inJ js x=true)(h:Am0 R e k x=some q) :(Am0 R2 e k x=some (q.1,q.2.1,q.2.2.1,R2)/\q.2.2.2=R) \/ ∃j∈js,Am0 R2 e k x=some (q.1,q.2.1,q.2.2.1,ins j .dead R2)/\q.2.2.2=ins j .dead R:=by
 cases x with
 |vec i=>
  have b:i∈js:=by simpa[inJ]using ha
  simp only[Am0]at h⊢;rw[hR i b]
  right
  refine⟨i,b,?_⟩;cases a:A7 R i with
  |none=>simp[a]at h
  |some o=>
   cases o with
   |vec e' m n f vw=>
    simp only[a]at h⊢;split at h
    .rename_i hc;cases h;exact⟨by rw[Il hc],rfl⟩
    cases h
   |_=>simp[a]at h
 |vecp i m=>
  have b:i∈js:=by simpa[inJ]using ha
  simp only[Am0]at h⊢;rw[hR i b]
  right
  refine⟨i,b,?_⟩;cases a:A7 R i with
  |none=>simp[a]at h
  |some o=>
   cases o with
   |vec e' m n f vw=>
    cases vw with
    |true=>simp[a]at h
    |false=>
     simp only[a]at h⊢;split at h
     .rename_i hc;cases h;exact⟨by rw[Il hc],rfl⟩
     cases h
   |_=>simp[a]at h
 |p y=>
  left
  unfold Am0 at h⊢;split at h
  .cases h;exact⟨rfl,rfl⟩
  .rename_i h1;cases h1
  .rename_i h1;cases h1
  cases h
 |_=>cases ha
theorem Bo9 {t:TypeId}{a x:AV}{c:List Prop}{R' : F5}(ha:adJ js a=true)(h:store P R t a x=some (c,R')):∃i∈js,∃o,R' = ins i o R/\store P R2 t a x=some (c,ins i o R2):=by
 obtain⟨i,s,g⟩:=AW0 ha;refine⟨i,s,?_⟩;have r:=hR i s;have fin:∀(p:Prop) [Decidable p] (c0:List Prop) (o:Obj),(if p then some (c0,ins i o R)else none)=some (c,R')->∃o',R' = ins i o' R/\(if p then some (c0,ins i o R2)else none)=some (c,ins i o' R2):=by
  intro p _ c0 o h;split at h
  .rename_i hc;simp only[Cl5,Cm7]at h;obtain⟨rfl,rfl⟩:=h;exact⟨o,rfl,by rw[Il hc]⟩
  cases h
 cases b:tsz P t with
 |none=>simp[store,b]at h
 |some m=>
  cases d:Ex x with
  |false=>simp[store,b,d]at h
  |true=>
   cases j:A7 R i with
   |none=>rcases g with⟨off,rfl⟩ | ⟨k,n,off,rfl⟩<;>simp[store,b,d,j]at h
   |some o=>
    rw[j]at r;rcases g with⟨off,rfl⟩ | ⟨k,n,off,rfl⟩
    .simp only[store,b,d,j,r]at h⊢;cases o with
     |cells cs=>exact fin _ _ _ h
     |arr n f=>
      cases x with
      |p y=>cases y with
       |agg ps=>exact fin _ _ _ h
       |_=>exact fin _ _ _ h
      |_=>simp at h
     |_=>simp at h
    simp only[store,b,d,j,r]at h⊢;cases o with
    |vec e k' n' f vw=>
     cases vw with
     |true=>simp at h
     |false=>cases x with
      |p y=>exact fin _ _ _ h
      |_=>simp at h
    |fam e n' jr x0=>
     cases x0 with
     |none=>simp at h
     |some q=>
      cases hl:cellsOf x with
      |nil=>simp[hl]at h
      |cons y l=>cases l with
       |nil=>simp only[hl]at h⊢;exact fin _ _ _ h
       |cons=>simp[hl]at h
    |_=>simp at h
end
theorem BC7 {js:List Nat}{env:Env}{R R' : F5}{d:Nat}{o:Op}{c:List Prop}{v:AV}(f:isL js env o=true)(h:aop P env R d o=some ⟨c,v,R'⟩):R' = R/\∀R2,(∀q∈js,A7 R2 q=A7 R q)->aop P env R2 d o=some ⟨c,v,R2⟩:=by
 cases o with
 |lookup t m k ok=>
  simp only[isL,Cl8]at f;obtain⟨hm,hk⟩:=f;simp only[aop]at h⊢;cases ek:aev env k<;>simp only[ek,isP,Cm2]at hk;cases em:aev env m<;>simp only[em,mrJ,Cm2]at hm;rename_i x j;simp only[ek,em,Hg]at h⊢;cases hl:FJ P R t (.mref j) (nP x) ok with
  |none=>simp[hl]at h
  |some q=>
   obtain⟨c',a'⟩:=q;simp only[hl,Cl5,Out.mk.injEq]at h;obtain⟨rfl,rfl,rfl⟩:=h;refine⟨rfl,fun R2 g=>?_⟩;have e:FJ P R2 t (.mref j) (nP x) ok=FJ P R t (.mref j) (nP x) ok:=by
    unfold FJ;cases tk P t with
    |none=>rfl
    |some q=>
     cases q with
     |map kt e=>have e2:=g j (by simpa using hm);cases l:Kv P kt (nP x)<;>simp only[l,e2]
     |_=>rfl
   rw[e,hl]
 |load t a=>
  simp only[isL]at f;simp only[aop]at h⊢;cases hl:load P R t (aev env a)with
  |none=>simp[hl]at h
  |some q=>obtain⟨c',a'⟩:=q;simp only[hl,Cl5,Out.mk.injEq]at h;obtain⟨rfl,rfl,rfl⟩:=h;exact⟨rfl,fun R2 g=>by rw[BC5 g f,hl]⟩
 |indexAddr t x i=>
  simp only[isL]at f;simp only[aop]at h⊢;cases r:asInt (aev env i)with
  |none=>simp[r]at h
  |some n=>
   simp only[r]at h⊢;cases hl:HA P R t (aev env x) n with
   |none=>simp[hl]at h
   |some q=>obtain⟨c',a'⟩:=q;simp only[hl,Cl5,Out.mk.injEq]at h;obtain⟨rfl,rfl,rfl⟩:=h;exact⟨rfl,fun R2 g=>by rw[Bf3 g f,hl]⟩
 |call cc=>
  obtain⟨callee,args,types⟩:=cc;cases callee with
  |builtin b=>
   cases b with
   |len=>
    simp only[isL]at f;simp only[aop]at h⊢;split at h
    .rename_i x t hx ht;simp only[hx,CD9,CN0,CF8]at f;cases hl:Bk4 P R t (aev env x)with
     |none=>simp[hl]at h
     |some n=>simp only[hl,Cl5,Out.mk.injEq]at h;obtain⟨rfl,rfl,rfl⟩:=h;exact⟨rfl,fun R2 g=>by simp only[BC6 g f,hl]⟩
    cases h
   |_=>cases f
  |_=>cases f
 |_=>cases f
theorem BM5:∀{xs:List AV},xs.all isP=true->∃ys,∀R,Hz R xs=some (ys,R)
 |[],_=>⟨[],fun _=>rfl⟩
 |.p x::xs,h=>by obtain⟨ys,hy⟩:=BM5 (xs:=xs) (by simpa[isP]using h);exact⟨nP x::ys,fun R=>by simp only[Hz,Hg,hy]⟩
 |.reg .. :: _,h | .elt .. :: _,h | .vec _::_,h | .vecp .. :: _,h | .mref _::_,h | .clo .. :: _,h | .tup _::_,h | .agr _::_,h | .yf _::_,h | .top::_,h=>by simp[isP]at h
theorem BS4 {n:Nat}:∀{L:List (Nat×AV)},(∀p∈L,isP p.2=true)->∀R,Pf R n L=none:=by
 intro L h R;unfold Pf;split
 .rename_i j
  have:=h (0,.vec j) (by simp)
  cases this
 rfl
theorem BC8 {js:List Nat}{env:Env}{R R' : F5}{d:Nat}{o:Op}{c:List Prop}{v:AV}(r:isA js env d o=true)(h:aop P env R d o=some ⟨c,v,R'⟩) :∀R2,(∀q∈js,A7 R2 q=A7 R q)->∃R3,aop P env R2 d o=some ⟨c,v,R3⟩/\(∀q∈js,A7 R3 q=A7 R' q)/\∀q,q ∉ js->A7 R3 q=A7 R2 q:=by
 intro R2 u;have up:∀{A B:F5}(i:Nat) (x:Obj),i∈js->(∀q∈js,A7 A q=A7 B q)->(∀q,q ∉ js->A7 A q=A7 R2 q)->(∀q∈js,A7 (ins i x A) q=A7 (ins i x B) q)/\∀q,q ∉ js->A7 (ins i x A) q=A7 R2 q:=by intro A B i x hi h1 u;refine⟨fun q hq=>by rw[HJ,HJ,h1 q hq],fun q hq=>?_⟩;rw[HJ,Ix (by rintro rfl;exact hq hi),u q hq]
 have one:=fun {i:Nat}(x:Obj) (hi:i∈js)=>up i x hi u fun _ _=>rfl;cases o with
 |buildSlice t n parts=>
  simp only[isA,Cl8]at r;have w:nid d 0∈js:=by simpa using r.1
  obtain⟨ys,hys⟩:=BM5 (xs:=parts.toList.map fun q=>aev env q.2) (by simpa[CC7,Ct3]using r.2);have hrl:=BS4 (n:=n) (L:=parts.toList.map fun q=>(q.1,aev env q.2)) (fun p hp=>by obtain⟨q,hq,rfl⟩:=Cp2.1 hp;exact Cn7.1 r.2 q hq)
  simp only[aop,hrl,hys,u _ w]at h⊢;split at h
  .split at h
   .rename_i l0 regs0 m0 z0 a3 a4 a5;simp only[Cl5,Cm7]at a3;obtain⟨rfl,rfl⟩:=a3;split at h
    .rename_i hc;simp only[Cl5,Out.mk.injEq]at h;obtain⟨rfl,rfl,rfl⟩:=h;refine⟨ins (nid d 0) _ R2,?_,one _ w⟩;simp only[a4,a5];rw[Il hc]
    cases h
   cases h
  cases h
 |alloc t=>
  have w:nid d 0∈js:=by simpa[isA]using r
  simp only[aop,u _ w]at h⊢;split at h
  .rename_i z h1 h3;split at h
   .rename_i hz;simp only[Cl5,Out.mk.injEq]at h;obtain⟨rfl,rfl,rfl⟩:=h;exact⟨_,by simp only[h1,h3,hz,Rm],one _ w⟩
   cases h
  cases h
 |box t x=>
  have w:nid d 0∈js:=by simpa[isA]using r
  simp only[aop,u _ w]at h⊢;split at h
  .rename_i h1 h3;simp only[Cl5,Out.mk.injEq]at h;obtain⟨rfl,rfl,rfl⟩:=h;exact⟨_,by simp only[h1,h3],one _ w⟩
  cases h
 |store t a x=>
  simp only[isA]at r;simp only[aop]at h⊢;split at h
  .rename_i hs;simp only[Cl5,Out.mk.injEq]at h;obtain⟨rfl,rfl,rfl⟩:=h;obtain⟨i,hi,o,rfl,hs2⟩:=Bo9 u r hs;exact⟨_,by simp only[hs2],one _ hi⟩
  cases h
 |call cc=>
  obtain⟨callee,args,types⟩:=cc;cases callee with
  |builtin b=>
   cases b with
   |append=>
    simp only[isA,Cl8]at r;have w:nid d 0∈js:=by simpa using r.1
    have r:=r.2;simp only[aop,u _ w]at h⊢;split at h
    .rename_i s x t t2 hx ht;simp only[hx,CD9,CN0,CF8,Cl8]at r;split at h
     .rename_i e k2 hk1 hk2;split at h
      .rename_i m z hz1 hz2 hz3;split at h
       .rename_i n g l f vw regs1 hn he htk;split at h
        .rename_i hc;simp only[Cl5,Out.mk.injEq]at h;obtain⟨rfl,rfl,rfl⟩:=h;rcases Bo8 u r.1 htk with⟨h3,h4⟩ | ⟨j,hjj,h3,h4⟩
         .simp only at h3 h4;subst h4;refine⟨ins (nid d 0) (.vec e m (l+n) (I4 l f g) vw) R2,?_,one _ w⟩;simp only[Az5 u r.2,hz1,hz2,hz3,hn,he,h3];rw[Il hc]
         simp only at h3 h4;subst h4;have h5:=one (i:=j) .dead hjj;refine⟨ins (nid d 0) (.vec e m (l+n) (I4 l f g) vw) (ins j .dead R2),?_,up _ _ w h5.1 h5.2⟩;simp only[Az5 u r.2,hz1,hz2,hz3,hn,he,h3];rw[Il hc]
        cases h
       split at h
       .rename_i c1 v1 R1 hF;simp only[Cl5,Out.mk.injEq]at h;obtain⟨rfl,rfl,rfl⟩:=h;simp only[Pe]at hF;split at hF
        .rename_i j l hs hx';have hjj:j∈js:=by have:=r.1;rw[hs]at this;simpa[inJ]using this
         have hll:l∈js:=by have:=r.2;rw[hx']at this;simpa[inJ]using this
         split at hF
         .rename_i e1 n jr e2 jz y h1 h3 h4;split at hF
          .rename_i hc;simp only[Cl5,Cm7]at hF;obtain⟨rfl,rfl,rfl⟩:=hF;have a1:=one (i:=j) .dead hjj;have a2:=up l .dead hll a1.1 a1.2;refine⟨ins (nid d 0) (.fam e (n+1) jr (some (n,y))) (ins l .dead (ins j .dead R2)),?_,up _ _ w a2.1 a2.2⟩;have el:elems R2 m (.vec l)=none:=by simp only[elems,u l hll,h4]
           simp only[hz1,hz2,hz3,hs,hx',el,h1];simp only[Pe,u _ w,u j hjj,u l hll,h1,h3,h4];rw[Il hc]
          cases hF
         cases hF
        cases hF
       cases h
      cases h
     cases h
    cases h
   |_=>cases r
  |_=>cases r
 |_=>cases r
theorem BC9 {js:List Nat}{R R' : F5}{x:AV}{y:PV}(hx:inJ js x=true)(h:Hg R x=some (y,R')):∀q,q ∉ js->A7 R' q=A7 R q:=by
 intro q b;have up:∀(j:Nat) (o:Obj),j∈js->A7 (ins j o R) q=A7 R q:=fun j o a=>by rw[HJ,Ix (by rintro rfl;exact b a)]
 cases x with
 |p x=>simp only[Hg,Cl5,Cm7]at h;rw[<- h.2]
 |vec j=>
  have a:j∈js:=by simpa[inJ]using hx
  simp only[Hg]at h;split at h
  .simp only[Cl5,Cm7]at h;rw[<- h.2];exact up _ _ a
  cases h
 |vecp j m=>
  have a:j∈js:=by simpa[inJ]using hx
  simp only[Hg]at h;split at h
  .simp only[Cl5,Cm7]at h;rw[<- h.2];exact up _ _ a
  cases h
 |_=>cases hx
theorem Az6 {js:List Nat}:∀{xs:List AV}{R R' : F5}{l:List PV},(xs.all fun x=>inJ js x)=true->Hz R xs=some (l,R')->∀q,q ∉ js->A7 R' q=A7 R q
 |[],R,R',l,_,h,q,_=>by simp only[Hz,Cl5,Cm7]at h;rw[<- h.2]
 |x::xs,R,R',l,hx,h,q,hq=>by
  simp only[CD9,Cl8]at hx;simp only[Hz]at h;cases h1:Hg R x with
  |none=>simp[h1]at h
  |some p=>
   obtain⟨y,R1⟩:=p;simp only[h1]at h;cases a:Hz R1 xs with
   |none=>simp[a]at h
   |some p=>obtain⟨l1,R2⟩:=p;simp only[a,Cl5,Cm7]at h;rw[<- h.2,Az6 hx.2 a q hq,BC9 hx.1 h1 q hq]
theorem BD0 {js:List Nat}{env:Env}{R R' : F5}{d:Nat}{o:Op}{c:List Prop}{v:AV}(a:isB js env d o=true)(h:aop P env R d o=some ⟨c,v,R'⟩):∀q,q ∉ js->A7 R' q=A7 R q:=by
 intro q b;cases o with
 |buildSlice t n parts=>
  simp only[isB,Cl8]at a;have f:nid d 0∈js:=by simpa using a.1
  have up:∀(R1:F5) (o:Obj),A7 (ins (nid d 0) o R1) q=A7 R1 q:=fun R1 o=>by rw[HJ,Ix (by rintro rfl;exact b f)]
  simp only[aop]at h;split at h
  .split at h
   .split at h
    .split at h
     .simp only[Cl5,Out.mk.injEq]at h;rw[<- h.2.2];exact up _ _
     cases h
    cases h
   cases h
  split at h
  .split at h
   .rename_i g _ _;split at h
    .simp only[Cl5,Out.mk.injEq]at h;rw[<- h.2.2,up];exact Az6 (by simpa[CC7,Ct3]using a.2) g q b
    cases h
   cases h
  cases h
 |_=>cases a
theorem Ai0 {cl:Cls}{env:Env}{R R' : F5}{d:Nat}{o:Op}{c:List Prop}{v:AV}(f:Bf2 cl env d o=true)(h:aop P env R d o=some ⟨c,v,R'⟩):clsF cl (isN env o=true) (R' = R)/\clsX P cl env R d o c v R':=by
 cases cl with
 |n=>exact⟨f,trivial⟩
 |r=>exact⟨BC4 f h,trivial⟩
 |w=>exact⟨trivial,trivial⟩
 |l j=>exact⟨trivial,BC7 f h⟩
 |a j=>exact⟨trivial,BC8 f h⟩
 |b j=>exact⟨trivial,BD0 f h⟩
variable {kn:List Nat}{all:List Oper}{k:Env->F5->Prop}
theorem Vy:∀(cls:List Cls) (rest:List Oper) (c:List Prop) (env:Env) (regs:F5),G1 (YW P kn all cls rest c env regs).conds ->
 G1 c/\(QV S P all (YW P kn all cls rest c env regs).cls (YW P kn all cls rest c env regs).rest (YW P kn all cls rest c env regs).env (YW P kn all cls rest c env regs).regs k->QV S P all cls rest env regs k)
 |[],[],c,env,regs,h=>⟨h,fun h=>h⟩
 |[],_::_,c,env,regs,h=>⟨h,fun h=>h⟩
 |_::_,[],c,env,regs,h=>⟨h,fun h=>h⟩
 |cl::cls,o::rest,c,env,regs,h=>by
  simp only[YW]at h⊢;cases g:Ce6 kn all env o with
  |true=>simp only[g]at h⊢;exact⟨h,fun h=>h⟩
  |false=>
  simp only[g]at h⊢;cases f:Dq all env o with
  |none=>simp only[f]at h⊢;exact⟨h,fun h=>h⟩
  |some b=>
   cases b with
   |true=>
    simp only[f]at h⊢;cases ha:(BL8 o.op&&Bf2 cl env (o.dst.getD 0) o.op)with
    |false=>simp only[ha]at h⊢;exact⟨h,fun h=>h⟩
    |true=>
     simp only[ha]at h⊢;simp only[Cl8]at ha;cases hp:aop P env regs (o.dst.getD 0) o.op with
     |none=>simp only[hp]at h⊢;exact⟨h,fun h=>h⟩
     |some q=>
      obtain⟨p,v,regs'⟩:=q;simp only[hp,Bc8,BQ1,Cc9]at h⊢;have fin:∀(env' : Env),env' = Vx o.dst v env->(G1 (p++c)/\(QV S P all (YW P kn all cls rest (p++c) env' regs').cls (YW P kn all cls rest (p++c) env' regs').rest (YW P kn all cls rest (p++c) env' regs').env (YW P kn all cls rest (p++c) env' regs').regs k->QV S P all cls rest env' regs' k)) ->
       G1 c/\(QV S P all (YW P kn all cls rest (p++c) env' regs').cls (YW P kn all cls rest (p++c) env' regs').rest (YW P kn all cls rest (p++c) env' regs').env (YW P kn all cls rest (p++c) env' regs').regs k->QV S P all (cl::cls) (o::rest) env regs k):=by
       rintro env' rfl ⟨h1,i⟩;obtain⟨j,l⟩:=(FK _ _).1 h1;exact⟨j,fun hs=>⟨true,f,by rw[Il rfl];exact⟨v,regs', .inl ⟨p,hp,l,Ai0 ha.2 hp⟩,i hs⟩⟩⟩
      cases a:o.dst with
      |some d=>simp only[a,Oq]at h⊢;exact fin _ (by simp[a,Vx]) (Vy cls rest _ _ _ h)
      |none=>simp only[a]at h⊢;exact fin _ (by simp[a,Vx]) (Vy cls rest _ _ _ h)
   |false=>
    simp only[f]at h⊢;cases a:o.dst with
    |some d=>simp only[a,Oq]at h⊢;obtain⟨h1,i⟩:=Vy cls rest _ _ _ h;exact⟨h1,fun hs=>⟨false,f,by simp only[Cm2,Rn,a,Vx];exact i hs⟩⟩
    |none=>simp only[a]at h⊢;obtain⟨h1,i⟩:=Vy cls rest _ _ _ h;exact⟨h1,fun hs=>⟨false,f,by simp only[Cm2,Rn,a,Vx];exact i hs⟩⟩
theorem s_go {cls cls' : List Cls}{rest rest' : List Oper}{c:List Prop}{env env' : Env}{regs regs' : F5}(h:YW P kn all cls rest [] env regs=⟨c,cls',rest',env',regs'⟩)(hc:G1 c)(hk:QV S P all cls' rest' env' regs' k):QV S P all cls rest env regs k:=by
 have:=Vy (S:=S) (kn:=kn) (k:=k) cls rest [] env regs (by rw[h];exact hc)
 rw[h]at this;exact this.2 hk
theorem s_end {cls:List Cls}{env:Env}{regs:F5}(h:k env regs):QV S P all cls [] env regs k:=by cases cls<;>exact h
theorem BM6 {cl:Cls}{cls:List Cls}{o:Oper}{rest:List Oper}{env:Env}{regs regs' : F5}{c:List Prop}{v:AV}(b:Dq all env o=some true)(ha:aop P env regs (o.dst.getD 0) o.op=some ⟨c,v,regs'⟩)(hc:G1 c)
 (a:Bf2 cl env (o.dst.getD 0) o.op=true) (hk:QV S P all cls rest (Vx o.dst v env) regs' k):QV S P all (cl::cls) (o::rest) env regs k:=
 ⟨true,b,by rw[Il rfl];exact⟨v,regs', .inl ⟨c,ha,hc,Ai0 a ha⟩,hk⟩⟩
theorem Ce7 {cl:Cls}{cls:List Cls}{o:Oper}{rest:List Oper}{env:Env}{regs:F5}{c:Call}{f:Operand}{fn:FuncId}{as' args:List AV}{r:AV}(a:Dq all env o=some true)(b:o.op=.call c)(d:c.callee=.value f)
 (ha:((c.args.toList.map (aev env)).all Bf0)=true) (hw:Aw4 env f (c.args.toList.map (aev env))=some (fn,as')) (g:Fn [] as' = some args) (i:BA0 S fn args r)
 (hk:QV S P all cls rest (Vx o.dst (unA [] r) env) regs k):QV S P all (cl::cls) (o::rest) env regs k:=
 ⟨true,a,by rw[Il rfl];exact⟨_,regs,.inr (.inl ⟨⟨c,f,fn,as',args,r,b,d,ha,hw,g,i,rfl⟩,rfl⟩),hk⟩⟩
theorem AW1 {m:List Nat}:∀{ids:List Nat}{objs:List Obj}{R:F5}{q:Nat},q ∉ ids->A7 (Aw3 m ids objs R) q=A7 R q
 |[],_,R,q,_=>rfl
 |j::ids,[],R,q,_=>rfl
 |j::ids,o::objs,R,q,h=>by simp only[Co1,not_or]at h;show A7 (Aw3 m ids objs (ins j (unO m o) R)) q=_;rw[AW1 h.2,HJ,Ix (Cw7 h.1)]
theorem Bp0 {cl:Cls}{cls:List Cls}{o:Oper}{rest:List Oper}{env:Env}{regs regs1:F5}{c:Call}{f:Operand}{as:List AV}{fn:FuncId}{as' args:List AV}{objs objs' : List Obj}{ks:List Bool}{r:AV}(ids:List Nat)(a:cl=.w \/ ∃js,cl=.b js/\∀q,q ∉ js->A7 (Aw3 (N5 (o.dst.getD 0) ids ks objs'.length) (N5 (o.dst.getD 0) ids ks objs'.length) objs' (R7 ids ks regs1)) q=A7 regs q)(g:Dq all env o=some true)(i:o.op=.call c)(j:c.callee=.value f)
 (ha:YV regs (c.args.toList.map (aev env))=some (as,regs1)) (hw:Aw4 env f as=some (fn,as')) (l:Fn ids as' = some args) (d:O9 ids regs1 ids=some objs) (m:FunO S fn args objs r objs' ks)
 (n:J0 ids=true) (hy:GE objs=true) (hn:Dl regs1 ids ks (o.dst.getD 0) objs'.length=true)
 (hk:QV S P all cls rest (Vx o.dst (unA (N5 (o.dst.getD 0) ids ks objs'.length) r) env) (Aw3 (N5 (o.dst.getD 0) ids ks objs'.length) (N5 (o.dst.getD 0) ids ks objs'.length) objs' (R7 ids ks regs1)) k) :
 QV S P all (cl::cls) (o::rest) env regs k:=
 ⟨true,g,by rw[Il rfl];exact⟨_,_,.inr (.inr (.inl ⟨a,c,f,as,regs1,fn,as',args,objs,objs',ks,r,ids,i,j,ha,hw,l,d,m,n,hy,hn,rfl,rfl⟩)),hk⟩⟩
theorem BD1 {cl:Cls}{cls:List Cls}{o:Oper}{rest:List Oper}{env:Env}{regs:F5}{c:List Prop}{x:PV}(a:Dq all env o=some true)(ha:Aw2 P env o.op=some (c,x))(hc:G1 c)
 (hk:QV S P all cls rest (Vx o.dst (.p x) env) regs k):QV S P all (cl::cls) (o::rest) env regs k:=
 ⟨true,a,by rw[Il rfl];exact⟨_,regs,.inr (.inr (.inr ⟨c,x,ha,hc,rfl,rfl⟩)),hk⟩⟩
def Ck4 (o:Op):Cls:=match o with
 |.buildSlice ..=>.n
 |o=>clsOf o
theorem BD2 (hS:H9 S P){F:O8}{K:List It}{id:Nat}{ops:Array Oper}{st:St}{cls:List Cls}(a:P.follows .mixedOrders=true)(c:ops.toList.map (fun o=>Ck4 o.op)=cls)(b:Vw ops.toList cls=true)
 (h:QV S P ops.toList cls ops.toList st.env st.regs fun env regs=>G S P F (.pop .normal K ⟨env,regs⟩)):G S P F (.code (.region id ops true) K st):=
 Bo7 hS cls a b h
end
end Go.AM
namespace Go.AM
section
variable {S:W1}{P:Program}{F:O8}{K:List It}{st:St}
theorem Rj (hS:H9 S P){f:FuncId}{fn:Func}{code:Code}{args:List AV}{objs:List Obj}{Q:UY->List Obj->List Bool->Prop}{rs:List ResultVar}(d:P.funcs[f]? = some fn)(hc:fn.body=some code)(hn:args.length<=fn.ntmps)(g:objs.length<1000)
 (a:fn.results.toList=rs) (b:Cs fn.ntmps code=true) (c:(fn.name == "runtime.NumGoroutine")=false)
 (h:G S P (EI S P objs.length rs Q) (.code code [] { env:=argEnv args,regs:=objRegs objs })):S.F f args objs Q:=by
 subst a;exact hS.func f fn code args objs _ d hc c b hn g (hS.refl _ _ h)
theorem BS5 (hS:H9 S P){all rest:List Oper}{o:Oper}{c:Call}{f:Operand}{j:Nat}{xs ys:List PV}{regs:F5}{rest0:List (List PV)}
 (i:DZ all st.env o=some true) (l:o.op=.call c) (d:c.callee=.value f) (hy:aev st.env f=.yf j) (g:Hz st.regs (c.args.toList.map (aev st.env))=some (xs,regs))
 (m:A7 regs j=some (.yld (ys::rest0) true)) (a:IJ j regs=true) (hle:BP9 xs ys)
 (hk:∀b:Bool,G S P F (.ops all rest K (put { st with regs:=ins j (.yld (if b then rest0 else []) b) regs } o.dst (.p (.bb b))))):G S P F (.ops all (o::rest) K st):=by
 refine FM hS i ?_;unfold wOp;obtain⟨callee,cargs,types⟩:=c;simp only at d g;subst d;rw[l];exact .inr ⟨j,xs,regs,ys,rest0,hy,g,m,a,hle,hk⟩
theorem BD3 (hS:H9 S P){all rest:List Oper}{o:Oper}{c:Call}{rv:Operand}{m:String}{as:List AV}{regs:F5}{t:TypeId}{y:PV}{fn:FuncId}{args:List AV}{r:AV}
 (d:DZ all st.env o=some true) (f:o.op=.call c) (b:c.callee=.invoke rv m) (ha:YV st.regs (c.args.toList.map (aev st.env))=some (as,regs)) (a:aev st.env rv=.p (.iface t y)) (hm:Aw5 P t m=some fn)
 (g:Fn [] (.p y::as)=some args) (i:BA0 S fn args r)
 (hk:G S P F (.ops all rest K (put { env:=st.env,regs:=regs } o.dst (unA [] r)))):G S P F (.ops all (o::rest) K st):=by
 refine FM hS d ?_;unfold wOp;obtain⟨callee,cargs,types⟩:=c;simp only at b ha;subst b;rw[f];refine⟨as,regs,t,y,fn,ha,a,hm,[],args,[],rfl,g,rfl,rfl,hS.monoF _ _ _ _ _ ?_ i⟩;rintro _ _ _ ⟨rfl,rfl,rfl⟩;exact⟨rfl,hk⟩
theorem BS6 (hS:H9 S P){all rest:List Oper}{o:Oper}{x:Operand}{t:TypeId}{y:PV}(a:DZ all st.env o=some true)(b:o.op=.panic x)(hx:aev st.env x=.p (.iface t y))(hk:G S P F (.pop (.panic (.iface t y)) K st)):G S P F (.ops all (o::rest) K st):=by refine FM hS a ?_;unfold wOp;rw[b];exact⟨t,y,hx,hk⟩
def IN (S:W1)(f:FuncId)(first caps:List AV)(objs:List Obj)(L:List (List PV)):Prop:= S.F f (first ++ .yf objs.length::caps) (objs++[.yld L true]) fun r objs' ks=>∃b,objs'[objs.length]? = some (.yld [] b)/\ks[objs.length]? = some true/\∃a,r=.ret a
def Dr (S:W1)(P:Program)(body:Code)(gh:Nat)(ts:List Nat)(next:St->Prop)(Q:O8):O8
 |.normal,s=>S.up s fun s=>awp S P body (FL S gh ts next Q) s
 |_,_=>False
theorem G_asg (hS:H9 S P){body:Code}{gh:Nat}{ts:List Nat}{next:St->Prop}{Q:O8}(h:G S P (FL S gh ts next Q) (.code body [] st)):G S P (Dr S P body gh ts next Q) (.pop .normal [] st):=
 hS.refl _ _ h
def BD4 {X:Type}(s:X->St)(J:List (List PV)->X->Prop)(rest:List (List PV))(t:St):Prop:=∃x,t=s x/\J rest x
theorem Bp1 (hS:H9 S P){g:Operand}{ps:Array Tmp}{asg body:Code}{f:FuncId}{first caps as bs:List AV}{objs:List Obj}(ids ts:List Nat)(gh:Nat)(L:List (List PV)){X:Type}(s:X->St)(J:List (List PV)->X->Prop)(x0:X)(idl:List (Nat×Nat))
 (hp:Hh st.env g=some (f,first,caps)) (m:∃fn,P.funcs[f]? = some fn/\fn.body.isSome=true/\(fn.name == "runtime.NumGoroutine")=false) (n:O9 ids st.regs ids=some objs) (q:GE objs=true) (hd:J0 ids=true) (t:Fn ids first=some as) (u:Fn ids caps=some bs) (v:objs.length=ids.length)
 (w:gh<1000) (y:A7 st.regs gh=none) (z:ids.length<1000) (a0:J0 ts=true) (d:∀ys∈L,ys.length=ps.size)
 (hF:IN S f as bs objs L) (hle:Le idl ⟨Bk ts (ts.map (get st.env)),R7 ids (ids.map fun _=>false) st.regs⟩ (s x0)) (h0:J L x0) (hk:∀x,(s x).env.map (·.1)=ts) (hn:∀x,A7 (s x).regs gh=none)
 (c:∀ys rest x,J (ys::rest) x->G S P (Dr S P body gh ts (BD4 s J rest) (kp S P K F)) (.code asg [] ⟨Pj ps.toList ys (s x).env,ins gh (.ghost ((s x).env.map (·.2))) (s x).regs⟩))
 (i:∀x,J [] x->G S P F (.pop .normal K (s x))):G S P F (.code (.rangeFunc g ps asg body) K st):=by
 have j:∀{l:List Nat},J0 l=true->l.Nodup:=by
  intro l
  induction l with
  |nil=>intro _;exact CB0
  |cons a r ih=>intro h;simp only[J0,Cl8,Co5,Cq5,decide_eq_false_iff_not]at h;exact Cs6.2 ⟨h.1,ih h.2⟩
 refine⟨f,first,caps,as,bs,objs,ids,ts,gh,L,BD4 s J,fun _ r=>∃a,r=.ret a,hp,m,q,hd,t,u,n,w,y,z,j a0,d,hS.le idl _ _ _ hle ⟨hk x0,hn x0,x0,rfl,h0⟩,?_,?_,?_⟩
 .rintro ys rest _ _ _ ⟨x,rfl,hJ⟩;have h:=c ys rest x hJ;have e:Dr S P body gh ts (BD4 s J rest) (kp S P K F)=fun e s'=>match e with
   |.normal=>S.up s' fun s'=>awp S P body (FL S gh ts (BD4 s J rest) (kp S P K F)) s'
   |_=>False:=by funext e s';cases e<;>rfl
  rw[e]at h;exact h
 .rintro _ r _ _ ⟨x,rfl,hJ⟩ ⟨a,rfl⟩;exact i x hJ
 rw[<- v];refine hS.monoF _ _ _ _ _ ?_ hF;rintro r o ks ⟨b,h1,h2,h3⟩;exact⟨b,h1,h2,h3,fun _=>h3⟩
theorem AM0 (hS:H9 S P){gh:Nat}{ts:List Nat}{X:Type}{s:X->St}{J:List (List PV)->X->Prop}{rest:List (List PV)}{Q:O8}(st1:St){cs:List AV}(x:X)(idl:List (Nat×Nat))(hle:Le idl st st1)(a:A7 st1.regs gh=some (.ghost cs))(hl:cs.length=ts.length)(b:A7 (del gh st1.regs) gh=none)
 (c:(⟨Bk ts cs,del gh st1.regs⟩:St)=s x) (d:J rest x):G S P (FL S gh ts (BD4 s J rest) Q) (.pop .normal [] st):=
 hS.le idl _ _ _ hle ⟨cs,a,hl,b,x,c,d⟩
theorem AW2 (hS:H9 S P){gh:Nat}{ts:List Nat}{next:St->Prop}{e:UX}(c:match e with | .normal | .panic _=>False|_=>True)(st1:St){cs:List AV}(idl:List (Nat×Nat))(hle:Le idl st st1)(a:A7 st1.regs gh=some (.ghost cs))(hl:cs.length=ts.length)(b:A7 (del gh st1.regs) gh=none)
 (hk:G S P F (.pop e K ⟨Bk ts cs,del gh st1.regs⟩)):G S P (FL S gh ts next (kp S P K F)) (.pop e [] st):=by
 cases e with
 |normal=>exact c.elim
 |panic x=>exact c.elim
 |exit id=>exact hS.le idl _ _ _ hle ⟨cs,a,hl,b,hk⟩
 |goto t=>exact hS.le idl _ _ _ hle ⟨cs,a,hl,b,hk⟩
 |ret=>exact hS.le idl _ _ _ hle ⟨cs,a,hl,b,hk⟩
end
end Go.AM
namespace Go.AM
def Ao2 {n:Nat}(h:n<2 ^ 32):IntKind.u32.wrap (n:Int)=n:=by have h1:((n:Int) % (2 ^ 32:Int))=n:=CD1 (by omega) (by omega);unfold IntKind.wrap;simp only[IntKind.bits,IntKind.signed,h1,CB1,Cm2,Rn]
abbrev u32 (x:BitVec 32):PV:=.v (.int .u32 x.toNat)
def Oy (x:BitVec 32):BitVec.ofInt 32 (x.toNat:Int)=x:=by
 apply Cp4;rw[CM1]
 have:=x.isLt
 omega
def IO (x y:BitVec 32):E9 .and .u32 x.toNat y.toNat=((x &&& y).toNat:Int):=by simp only[E9,IntKind.bits,Oy];exact Ao2 (x &&& y).isLt
def SH (x y:BitVec 32):E9 .or .u32 x.toNat y.toNat=((x ||| y).toNat:Int):=by simp only[E9,IntKind.bits,Oy];exact Ao2 (x ||| y).isLt
def HK (x y:BitVec 32):E9 .andNot .u32 x.toNat y.toNat=((x &&& ~~~ y).toNat:Int):=by simp only[E9,IntKind.bits,Oy];exact Ao2 (x &&& ~~~ y).isLt
def Bp2 (x:BitVec 32)(n:Nat):shI .shr .u32 x.toNat n=((x >>> n).toNat:Int):=by
 simp only[shI,IntKind.bits,Cl2];have hx:=x.isLt;rw[CB7,CB2];have e:((2:Int) ^ (min n 32))=((2 ^ (min n 32):Nat):Int):=by norm_cast
 rw[e,CG7 _ (CM2 _),<- Int.natCast_ediv];congr 1;by_cases h:n<=32
 .rw[Cx5 h]
 rw[CF2 (by omega),Cy1 hx,Cy1];exact Cm6 hx (CB4 (by omega) (by omega))
def Ce8 (x:BitVec 32)(n:Nat):shI .shl .u32 x.toNat n=((x <<< n).toNat:Int):=by
 simp only[shI,IntKind.bits,Cl2];rw[CJ9,Nat.shiftLeft_eq];unfold IntKind.wrap;simp only[IntKind.bits,IntKind.signed,CB1,Cm2,Rn];by_cases h:n<=32
 .rw[Cx5 h]
  norm_cast
 rw[CF2 (by omega)];have h1:x.toNat*2 ^ n % 2 ^ 32=0:=by obtain⟨d,rfl⟩:∃d,n=32+d:=⟨n-32,by omega⟩;rw[Nat.pow_add,<- Nat.mul_assoc,Nat.mul_right_comm,Nat.mul_mod_left]
 have a:x.toNat*2 ^ 32 % 2 ^ 32=0:=Nat.mul_mod_left _ _;rw[h1];simp
end Go.AM
namespace Go.AM
def MZ {P:Program}{f:FuncId}{args:List PV}{r:AV}(d:∀as w,(callFunc f as).run P w=.ok (.enter f as) w)
 (h:∀(w:World) (Pi:Nat->Nat->Prop) (vs:Array Value),TabOk P w Pi->(∀b off,Pi b off->b<w.heap.size)->vs.size=args.length->(∀i,i<args.length->RepP w Pi (vs.getD i undef) (args.getD i default)) ->
  Calls P f vs w fun e w'=>∃v,e=.returned v/\RowKit.Below w.heap.size w w' /\ ∀live rho,RepA w' Pi live rho v r):BA0 (Jw P) f (args.map .p) r:=by
 intro 𝒢 C w vs rho q hs l;have s:=h w (Prv C.X (A7 (objRegs [])) rho) vs ((𝒢.tab C q).keeps hs.keep) (fun b off hp=>by
  rcases hp with hp|⟨j,o,a,_⟩
  .exact hs.hp.bound b off hp
  .simp[objRegs,objRegs.go,A7]at a) (by simpa using l) (fun i m=>by
  have:=hs.env i
  rw[CZ]at this;have e:(args.map AV.p).getD i .top=.p (args.getD i default):=by simp[m]
  rw[e]at this;exact this.toP)
 refine⟨_,_,d _ _,callsIn_wide.2 (s.mono ?_)⟩;rintro e w' ⟨v,rfl,hb,t⟩;have hk:Keeps w (Prv C.X (A7 (objRegs [])) rho) w' (Prv C.X (A7 (objRegs [])) rho):=fun b o v hp hc=>⟨by rw[<- hc];exact Cq4 (hb.block b (Cy2 w ⟨b,o,none⟩ hc)),hp⟩
 refine⟨C,.ret r,[],[],rho,q,⟨rfl,rfl,rfl⟩,?_,⟨v,rfl,t _ _⟩,fun i m=>by simp at m⟩;have c:∀j,A7 (objRegs []) j=none:=fun j=>by simp[objRegs,objRegs.go,A7]
 refine⟨⟨fun j o a=>by simp[c]at a,fun i j oi oj b a=>by simp[c]at a,fun j o b off a=>by simp[c]at a,fun b off hp=>Cm6 (hs.hp.bound b off hp) hb.size⟩,hs.ext.trans ⟨hb.os,hb.output⟩,Cp0 hs.size hb.size,fun b g u=>?_,hs.keep.trans hk,fun b n=>?_,fun j r b a=>by simp[c]at a⟩
 .rw[hb.block b (Cm6 g hs.size)];exact hs.same b g u
 obtain⟨j,o,a,_⟩:=n;simp[c]at a
def Ao3 {P:Program}{f:FuncId}{args:List PV}{r:AV}(a:∀as w,(callFunc f as).run P w=.ok (.enter f as) w)
 (h:∀(w:World) (Pi:Nat->Nat->Prop) (vs:Array Value),(∀b off,Pi b off->b<w.heap.size)->vs.size=args.length->(∀i,i<args.length->RepP w Pi (vs.getD i undef) (args.getD i default)) ->
  Calls P f vs w fun e w'=>∃v,e=.returned v/\RowKit.Below w.heap.size w w' /\ ∀live rho,RepA w' Pi live rho v r):BA0 (Jw P) f (args.map .p) r:=
 MZ a fun w Pi vs _=>h w Pi vs
end Go.AM
namespace Go.AM
open Go.RowKit Go.ChangeShapes
def Ck5 (W:World):Ctx:={ X:=fun _ _=>False,w0:=W,E0:=fun _=>False,Pi0:=fun _ _=>False,rho0:=fun _=>undef,Y:=fun _ _=>False,yv:=undef }
theorem BS7 {W:World}{vs:Array Value}{args:List PV}(g:vs.size=args.length)(l:∀i,i<args.length->RepP W (fun _ _=>False) (vs.getD i undef) (args.getD i default)) :Sat (Ck5 W) ⟨argEnv (args.map .p),objRegs []⟩ ⟨vs,[]⟩ W (fun _=>undef):=by
 have a:∀j,A7 (objRegs []) j=none:=fun j=>by simp[objRegs,objRegs.go,A7]
 have f:∀b o,¬Prv (Ck5 W).X (A7 (objRegs [])) (fun _=>undef) b o:=fun b o h=>by
  rcases h with h|⟨j,o',c,_⟩
  .exact h
  simp[a]at c
 refine⟨⟨⟨fun j o c=>by simp[a]at c,fun i j oi oj b c=>by simp[a]at c,fun j o b off c=>by simp[a]at c,fun b off hp=>hp.elim⟩,Ext.refl _,Cl9 _,fun _ _ _=>rfl,fun b o v _ hc=>⟨hc,f b o⟩,fun b hb=>?_,fun j r b c=>by simp[a]at c⟩,fun t=>?_,fun j _ hl=>?_,CB0,fun d m=>by cases m⟩
 .obtain⟨j,o,c,_⟩:=hb;simp[a]at c
 .show RepA W _ _ _ (vs.getD t undef) (get (argEnv (args.map .p)) t);rw[CZ];by_cases ht:t<args.length
  .have e:(args.map AV.p).getD t .top=.p (args.getD t default):=by simp[ht]
   rw[e];exact .p _ _ ((l t ht).keeps fun b o v _ hc=>⟨hc,f b o⟩)
  have e:(args.map AV.p).getD t .top=.top:=by simp[CF0 ht]
  rw[e];exact .top _
 obtain⟨o,n⟩:=hl
structure Ce9 (W w' : World):Prop where
 os:w'.os=W.os
 output:w'.output=W.output
 size:W.heap.size<=w'.heap.size
 block:∀b,b<W.heap.size->w'.heap[b]? = W.heap[b]?
theorem Ah {P:Program}{f:FuncId}{args:List PV}(a:∀as w,(callFunc f as).run P w=.ok (.enter f as) w)(h:BA0 (Jw P) f (args.map .p) (.p (.bb true)))
 {W:World}{vs:Array Value}(g:TabOk P W fun _ _=>False) (c:vs.size=args.length) (j:∀i,i<args.length->RepP W (fun _ _=>False) (vs.getD i undef) (args.getD i default)) :
 Calls P f vs W fun e w'=>e=.returned (.bool true)/\Ce9 W w':=by
 obtain⟨nx,w1,h1,l⟩:=h (Prot.triv P (Ck5 W) (fun _ _ h=>h) g) (Ck5 W) W vs _ rfl (BS7 c j) (by simpa using c);rw[a]at h1;cases h1;refine (callsIn_wide.1 l).mono ?_;rintro e w' ⟨C',r,objs',ks,rho',rfl,⟨rfl,rfl,rfl⟩,d,⟨v,rfl,m⟩,_⟩;cases m with
 |p _ _ hp=>cases hp;exact⟨rfl,d.ext.1,d.ext.2,d.size,fun b hb=>d.same b hb fun h=>h⟩
section
variable {H:Type}{enc:TypeId×Value->H}{P:Program}
theorem BD5 {W w' : World}(h:Ce9 W w')(may:MemPlace->Prop):W.keptBut w' may:=by
 refine⟨h.os,h.output,fun i a=>?_⟩;rw[h.block i a];generalize W.heap[i]? = o;cases o with
 |none=>trivial
 |some o=>cases o<;>first|exact⟨rfl,rfl,rfl,fun _ _=>rfl⟩ | exact .inr ⟨rfl,rfl⟩ | rfl
theorem Bp3 {W w' : World}(h:Ce9 W w'){p:MemPlace}(hp:p.block<W.heap.size):W.sameAt w' p:=by have hb:RowKit.Below W.heap.size W { w' with tape:=W.tape }:=⟨h.os,rfl,h.output,h.size,fun k hk=>h.block k hk⟩;exact hb.same hp
theorem SI {W w' : World}(hk:Ce9 W w')(hl:laidOutB P=true){sp:Nat->Bool}:∀{ts:List TypeId}{vs:List Value}{ds:List (DataW H)}{ps:List MemPlace},(∀t∈ts,P.readableRec t=true/\t<P.types.size) ->
 (∀p∈ps,p.block<W.heap.size)->(∀p∈ps,sp p.block=true)->DataW.TrodAll enc P W 0 (fun _=>true) true ts vs ds ps->DataW.TrodAll enc P w' 0 sp true ts vs ds ps
 |[],[],[],_,_,_,_,h=>h
 |t::ts,v::vs,d::ds,_,hr,hlt,hs,⟨p,q,h1,h2,e⟩=>by subst e;refine⟨p,q,?_,SI hk hl (fun t ht=>hr t (Co1.2 (.inr ht))) (fun x hx=>hlt x (Cn3 _ hx)) (fun x hx=>hs x (Cn3 _ hx)) h2,rfl⟩;exact WideElems.Trod_stays hl (hr t (by simp)).1 (hr t (by simp)).2 h1 (fun x hx=>Bp3 hk (hlt x (Co9 _ hx))) (fun x hx=>hs x (Co9 _ hx))
theorem IP {f:Func}{s:ChangeSpec}{tb:TypeId}{W W' : World}{args:Array Value}{ds gs:List (DataW H)}{before:List MemPlace}(a:s.vars=[])(hres:f.resultTypes = #[tb])(i:P.underlying tb=some .bool)(hl:laidOutB P=true)
 (d:∀t∈f.params.toList,P.readableRec t=true/\t<P.types.size) (o:DataW.Whole enc P f.params.toList s.vars false W args.toList ds gs before)
 (g:s.fn H ds={ results:=[.lit (.bool true)],args:=ds,vars:=[] }) (hk:Ce9 W W'):s.post enc P f false true false false W args (.bool true) W':=by
 have c:∀p∈before,p.block<W.heap.size:=fun p hp=>o.lt p hp;have j:=o;obtain⟨p,q,v,r,rfl,w,hn⟩:=o;rw[a]at r;obtain⟨rfl,rfl⟩:=trodVars_none r;simp only[Cn0]at c j;have l : ∀sp:Nat->Bool,(∀x∈p,sp x.block=true)->DataW.TrodAll enc P W' 0 sp true f.params.toList args.toList (s.fn H (ds++[])).args p:=fun sp hsp=>by rw[Cn0,g];exact SI hk hl d c hsp v
 have hR:∀(b:Nat) (sp:Nat->Bool) (u:Bool),DataW.TrodAll enc P W' b sp u f.resultTypes.toList ((Value.bool true).resultList f.resultTypes.size) (s.fn H (ds++[])).results []:=fun b sp u=>by rw[Cn0,g,hres];exact⟨[],[],shut_bool i _,rfl,rfl⟩
 have m : ∀sp:Nat->Bool,DataW.TrodVars enc P W' sp s.vars (s.fn H (ds++[])).vars []:=fun sp=>by rw[Cn0,g,a];rfl
 refine⟨ds,[],p,[],p,[],j,hR _ _ _,l _ (fun x hx=>by simpa using c x hx),m _,BD5 hk _,fun _=>?_⟩;refine⟨ok_one hres rfl (by simp[Value.okWide,i,Cell.okWide,Cell.ok]),_,_,([]++p)++[],⟨[]++p,[],trodAll_append (l _ fun _ _=>rfl) (hR _ _ _),m _,rfl,?_,?_⟩,?_⟩
 .intro b off hp;have n : MemPlace.cell b off∈p:=by simpa using hp
  have:=w b off (by simpa using n)
  have hb:=c _ n;simp only[MemPlace.block]at hb;simp only[World.frozen?,hk.block b hb]at this⊢;exact this
 .intro ha
  have:=hn ha
  simpa using this
 intro p' hp _;simpa using hp
end
end Go.AM
namespace Go.AM
open Go.RowKit Go.ChangeShapes Go.Deep
def AJ6 (l:List Nat):Nat:=l.foldr (· + ·) 0
theorem Az7 (a:Nat)(l:List Nat):AJ6 (a::l)=a+AJ6 l:=rfl
structure Bulk {H:Type}(B:DataW H->Nat):Prop where
 int:∀k n,1<=B (.lit (.int k n))
 bool:∀b,1<=B (.lit (.bool b))
 str:∀l,l.length+1<=B (.lit (.string l))
 nil:1<=B .nil
 slice:∀es sp,AJ6 (es.map B)+1<=B (.slice es sp)
 agg:∀ps,AJ6 (ps.map B)+1<=B (.agg ps)
mutual
inductive Oz (P:Program):Nat->TypeId->List PV->Prop
 |int {m:Nat}{t:TypeId}{k:IntKind}{n:Int}(ht:P.underlying t=some (.int k)) (hw:(Lit.int k n).wf=true) (hm:1<=m):Oz P m t [.v (.int k n)]
 |bool {m:Nat}{t:TypeId}{b:Bool}(ht:P.underlying t=some .bool) (hm:1<=m):Oz P m t [.bb b]
 |str {m:Nat}{t:TypeId}{l:List UInt8}(ht:P.underlying t=some .string) (hm:l.length+1<=m):Oz P m t [.str l]
 |slice {m:Nat}{t e:TypeId}{n:Nat}{f:Nat->List PV}(ms:Nat->Nat) (ht:P.underlying t=some (.slice e)) (hl:∀i,i<n->(f i).length=P.cellsOf e) (h:∀i,i<n->Oz P (ms i) e (f i))
  (hm:AJ6 ((List.range n).map ms)+1<=m):Oz P m t [.sl false (P.cellsOf e) n f]
 |arr {m m' : Nat}{t e:TypeId}{n:Nat}{pvs:List PV}(ht:P.underlying t=some (.array n e)) (h:Kz P m (List.replicate n e) pvs) (hm:m+1<=m'):Oz P m' t pvs
 |struct {m m' : Nat}{t:TypeId}{fs:Array Field}{pvs:List PV}(ht:P.underlying t=some (.struct fs)) (h:Kz P m (fs.toList.map (·.type)) pvs) (hm:m+1<=m'):Oz P m' t pvs
inductive Kz (P:Program):Nat->List TypeId->List PV->Prop
 |nil {m:Nat}:Kz P m [] []
 |cons {a b m:Nat}{t:TypeId}{ts:List TypeId}{p q:List PV}(h:Oz P a t p) (h' : Kz P b ts q) (hm:a+b<=m):Kz P m (t::ts) (p++q)
end
def CRep (W:World)(cs:List Value)(pvs:List PV):Prop:= cs.length=pvs.length/\∀i,i<pvs.length->RepP W (fun _ _=>False) (cs.getD i undef) (pvs.getD i default)/\(cs.getD i undef).oneCell' = true
theorem Az8 {α : Type}(a b:List α)(d : α){i:Nat}(h:i<a.length):(a++b).getD i d=a.getD i d:=by simp[Cl4,Cw3 h]
theorem Az9 {α : Type}(a b:List α)(d : α){i:Nat}(h:a.length<=i):(a++b).getD i d=b.getD (i-a.length) d:=by simp[Cl4,Cz1 h]
theorem CRep.append {W:World}{a b:List Value}{p q:List PV}(h:CRep W a p)(h' : CRep W b q):CRep W (a++b) (p++q):=by
 refine⟨by simp[h.1,h'.1],fun i f=>?_⟩;by_cases c:i<p.length
 .rw[Az8 _ _ _ (by rw[h.1];exact c),Az8 _ _ _ c];exact h.2 i c
 have d : i-p.length<q.length:=by simp at f;omega
 rw[Az9 _ _ _ (by rw[h.1];omega),Az9 _ _ _ (by omega),h.1];exact h'.2 _ d
theorem CRep.one {W:World}{v:Value}{x:PV}(h:RepP W (fun _ _=>False) v x)(h1:v.oneCell' = true):CRep W [v] [x]:=by
 refine⟨rfl,fun i a=>?_⟩;obtain rfl:i=0:=by simpa using a
 exact⟨h,h1⟩
def SJ (P:Program)(T:List TypeId):Bool:=T.all fun t=>match P.underlying t with
 |some (.int _)|some .bool|some .string=>true
 |some (.slice e)=>T.contains e&&decide (0<P.cellsOf e)
 |some (.array _ e)=>T.contains e
 |some (.struct fs)=>fs.toList.all fun f=>T.contains f.type
 |_=>false
section
variable {H:Type}{enc:TypeId×Value->H}{P:Program}{W:World}
theorem Ai1 {B:DataW H->Nat}{r:TypeId->List Value->Option (DataW H×List MemPlace)}(T:TypeId->Prop)
 (ih:∀t cs x,T t->r t cs=some x->∃pvs,CRep W cs pvs/\Oz P (B x.1) t pvs) :
 ∀(fs:List Field) (xs:List (DataW H×List MemPlace)) (cs:List Value) (base:Nat),(∀f∈fs,T f.type)->cs.length=(fs.map fun f=>P.cellsOf f.type).sum ->
  (∀(j:Nat) f,fs[j]? = some f->f.offset=base+((fs.take j).map fun f=>P.cellsOf f.type).sum)->xs.length=fs.length ->
  (∀(i:Nat) f,fs[i]? = some f->r f.type ((cs.drop (f.offset-base)).take (P.cellsOf f.type))=xs[i]?) ->
  ∃pvs,CRep W cs pvs/\Kz P (AJ6 (xs.map fun x=>B x.1)) (fs.map (·.type)) pvs
 |[],xs,cs,base,_,hl,_,hx,_=>by obtain rfl:xs=[]:=Cq6 hx;obtain rfl:cs=[]:=Cq6 (by simpa using hl);exact⟨[],⟨rfl,fun i m=>Kh m (by simp)⟩,.nil⟩
 |f::fs,xs,cs,base,hT,hl,ho,hx,hr=>by
  cases xs with
  |nil=>simp at hx
  |cons x xs=>
   have l:=ho 0 f rfl;simp only[CL4,CC8,List.sum_nil,Cy6]at l;have b:=hr 0 f rfl;rw[l,CM9,CH5]at b;obtain⟨p,hp,hs⟩:=ih _ _ _ (hT f (by simp)) b;simp only[Cp1,CM3]at hl;obtain⟨q,n,c⟩:=Ai1 T ih fs xs (cs.drop (P.cellsOf f.type)) (base+P.cellsOf f.type) (fun g a=>hT g (by simp[a])) (by simp[hl])
    (fun j g a=>by
     have:=ho (j+1) g (by simpa using a)
     simp only[CC1,Cp1,CM3]at this;omega) (by simpa using hx)
    (fun i g a=>by
     have:=hr (i+1) g (by simpa using a)
     have d:=ho (i+1) g (by simpa using a);simp only[CC1,Cp1,CM3]at d;rw[CD5,show P.cellsOf f.type+(g.offset-(base+P.cellsOf f.type))=g.offset-base by omega];simpa using this)
   refine⟨p++q,?_,.cons hs c (Cl9 _)⟩
   have:=hp.append n
   rwa [CD0]at this
theorem AW3 {B:DataW H->Nat}{r:TypeId->List Value->Option (DataW H×List MemPlace)}{e:TypeId}(ih:∀cs x,r e cs=some x->∃pvs,CRep W cs pvs/\Oz P (B x.1) e pvs) :∀(n:Nat) (xs:List (DataW H×List MemPlace)) (cs:List Value),cs.length=n*P.cellsOf e->xs.length=n->(∀i,i<n->r e ((cs.drop (i*P.cellsOf e)).take (P.cellsOf e))=xs[i]?) ->
  ∃pvs,CRep W cs pvs/\Kz P (AJ6 (xs.map fun x=>B x.1)) (List.replicate n e) pvs
 |0,xs,cs,hl,hx,_=>by obtain rfl:xs=[]:=Cq6 hx;obtain rfl:cs=[]:=Cq6 (by simpa using hl);exact⟨[],⟨rfl,fun i c=>Kh c (by simp)⟩,.nil⟩
 |n+1,xs,cs,hl,hx,hr=>by
  cases xs with
  |nil=>simp at hx
  |cons x xs=>
   have a:=hr 0 (by omega);rw[Nat.zero_mul,CH5]at a;obtain⟨p,hp,hs⟩:=ih _ _ a;rw[CD8]at hl;obtain⟨q,d,b⟩:=AW3 ih n xs (cs.drop (P.cellsOf e)) (by simp[hl]) (by simpa using hx) (fun i c=>by
    have:=hr (i+1) (by omega)
    rw[CD5,show P.cellsOf e+i*P.cellsOf e=(i+1)*P.cellsOf e by rw[CD8];omega];simpa using this)
   refine⟨p++q,?_,.cons hs b (Cl9 _)⟩
   have:=hp.append d
   rwa [CD0]at this
theorem I1 (K:Kids P (· < P.types.size)){B:DataW H->Nat}(q:Bulk B){T:List TypeId}(hT:SJ P T=true)(hTl:∀t∈T,t<P.types.size):∀(fuel:Nat) (t:TypeId) (cs:List Value) (x:DataW H×List MemPlace),t∈T ->
 DataW.trod enc P W 0 (fun _=>true) true fuel t cs=some x->∃pvs,CRep W cs pvs/\Oz P (B x.1) t pvs:=by
 intro fuel
 induction fuel with
 |zero=>intro t cs x _ h;simp[DataW.trod]at h
 |succ n ih=>
  intro t cs x ht h;have hp:=Cn7.1 hT t ht;cases c:P.underlying t with
  |none=>simp[c]at hp
  |some d=>
   cases d with
   |bool=>obtain⟨b,rfl,rfl⟩:=DataW.trod_bool c h;exact⟨[.bb b],.one (.bb b) rfl,.bool c (q.bool b)⟩
   |int k=>obtain⟨m,rfl,rfl,hw⟩:=DataW.trod_int c h;exact⟨[.v (.int k m)],.one (.v _) rfl,.int c hw (q.int _ _)⟩
   |string=>
    obtain⟨s,rfl,rfl,_⟩:=DataW.trod_string c h;refine⟨[.str s.data.toList],.one ?_ rfl,.str c (q.str _)⟩
    have:=RepP.str (w:=W) (Pi:=fun _ _=>False) s.data.toList
    simpa using this
   |slice e=>
    simp only[c,Cl8,Cq5,decide_eq_true_eq]at hp;obtain⟨hpe,hpk⟩:=hp;rcases DataW.trod_slice c h with⟨rfl,rfl⟩ | ⟨a,len,cap,elems,rest,n',hn,rfl,rfl,_,hlen,_,hel,hall,_⟩
    .exact⟨[.sl false (P.cellsOf e) 0 fun _=>[]],.one (.slnil _ _) rfl,.slice (fun _=>0) c (fun i g=>Kh g (by omega)) (fun i g=>Kh g (by omega)) (by simpa[AJ6]using q.nil)⟩
    obtain rfl:n' = n:=by omega
    have each:∀i,i<len->∃z:List PV×(Nat×(Nat->Value)),z.1.length=P.cellsOf e/\Oz P z.2.1 e z.1/\z.2.1=B (elems.getD i (.nil,[])).1 /\
     ∀j,j<P.cellsOf e->W.cell? ((a.add (i*P.cellsOf e)).add j)=some (z.2.2 j)/\RepP W (fun _ _=>False) (z.2.2 j) (z.1.getD j default)/\(z.2.2 j).oneCell' = true:=by
     intro i g;have hk:=hall i g;have hi' : i<elems.length:=by omega
     rw[Cl7 hi']at hk;obtain⟨cs',h1,h2⟩:=CC2.1 hk;obtain⟨pvs,hc,hs⟩:=ih _ _ _ hpe h2;obtain⟨_,u,y⟩:=World.cells?_some h1;refine⟨(pvs,(_,fun j=>cs'.getD j undef)),by rw[<- hc.1,u],hs,?_,fun j l=>⟨?_,(hc.2 j (by rw[<- hc.1,u];exact l)).1,(hc.2 j (by rw[<- hc.1,u];exact l)).2⟩⟩
     .simp[Cl4,Cl7 hi']
     rw[y j l];simp[Cl7 (show j<cs'.length by omega)]
    obtain⟨z,o⟩:=choose_lt (α:=List PV×(Nat×(Nat->Value))) each;obtain⟨b,off,sp⟩:=a;have hsp:0<len->sp=none:=fun h0=>by
     have:=((o 0 h0).2.2.2 0 hpk).1
     simpa[Addr.add]using World.cell?_spot this
    refine⟨[.sl false (P.cellsOf e) len fun i=>(z i).1],.one (.sl false b off cap (P.cellsOf e) len _ (fun i j=>(z i).2.2 j) hlen (fun i g=>(o i g).1) (fun i j g l=>?_) (fun i j g l=>((o i g).2.2.2 j l).2.1) sp hsp) rfl,
     .slice (fun i=>(z i).2.1) c (fun i g=>(o i g).1) (fun i g=>(o i g).2.1) ?_⟩
    .have:=((o i g).2.2.2 j l).1
     obtain rfl:=hsp (by omega);refine⟨?_,fun h=>h,((o i g).2.2.2 j l).2.2⟩;rw[<- this,CL2,CL2]
    refine Cp0 (Nat.succ_le_succ (Nat.le_of_eq (congrArg AJ6 ?_))) (q.slice (elems.map (·.1)) (rest.map (·.1)));apply List.ext_getElem
    .simp[hel]
    intro i h1 h2;simp only[Cp3,CH7]at h1
    have:=(o i h1).2.2.1
    simp only[List.getElem_map,CM4,this];simp[Cl4,Cl7 (show i<elems.length by omega)]
   |array k e=>
    simp only[c,Cq5,decide_eq_true_eq]at hp;obtain⟨xs,n',hn,rfl,hl,hx,hr⟩:=DataW.trod_array c h;obtain⟨_,h2⟩:=K.array (hTl t ht) c;obtain rfl:n' = n:=by omega
    obtain⟨pvs,hc,hs⟩:=AW3 (B:=B) (W:=W) (r:=DataW.trod enc P W 0 (fun _=>true) true n') (fun cs x hx=>ih e cs x hp hx) k xs cs (by rw[hl,h2]) hx hr;refine⟨pvs,hc,.arr c hs ?_⟩
    have:=q.agg (xs.map (·.1))
    simpa[Cw2,Ct3]using this
   |struct fs=>
    simp only[c]at hp;obtain⟨xs,n',hn,rfl,hl,hx,hr⟩:=DataW.trod_struct c h;obtain⟨h1,h2,h3⟩:=K.struct (hTl t ht) c;obtain rfl:n' = n:=by omega
    obtain⟨pvs,hc,hs⟩:=Ai1 (B:=B) (W:=W) (r:=DataW.trod enc P W 0 (fun _=>true) true n') (· ∈ T) ih fs.toList xs cs 0 (fun f hf=>by have:=Cn7.1 hp f hf;simpa using this) (by rw[hl,h2])
     (fun j f hf=>by rw[h3 j f hf];omega) (by simpa using hx) (fun i f hf=>by rw[Nat.sub_zero];exact hr i f (by simpa using hf))
    refine⟨pvs,hc,.struct c hs ?_⟩
    have:=q.agg (xs.map (·.1))
    simpa[Cw2,Ct3]using this
   |_=>simp[c]at hp
end
end Go.AM
namespace Go.AM
section
variable {S:W1}{P:Program}
theorem AM1 {d:Option Nat}{k k' : St->Prop}{Q Q' : O8}(hk:∀s,k s->k' s)(b:∀e s,Q e s->Q' e s)(r:UY)(s:St)(h:Sv d k Q r s):Sv d k' Q' r s:=by
 cases r with
 |ret a=>exact hk _ h
 |panic x=>exact b _ _ h
theorem UL (hS:H9 S P){o:Oper}{k k' : St->Prop}{Q Q' : O8}(hk:∀s,k s->k' s)(u:∀e s,Q e s->Q' e s){st:St}(h:wOp S P o k Q st):wOp S P o k' Q' st:=by
 have i:∀d ids f args st,Bl4 S d ids f args st (Sv o.dst k Q)->Bl4 S d ids f args st (Sv o.dst k' Q'):=by rintro d ids f args st ⟨a,ob,h1,g,l,m,n⟩;exact⟨a,ob,h1,g,l,m,hS.monoF _ _ _ _ _ (fun r o ks ⟨q,v⟩=>⟨q,AM1 hk u _ _ v⟩) n⟩
 unfold wOp at h⊢;split at h
 .rcases h with⟨as,regs,f',as',h1,g,ids,l⟩ | ⟨j,xs,regs,ys,rest,h1,g,l,m,n,q⟩
  .exact .inl ⟨as,regs,f',as',h1,g,ids,i _ _ _ _ _ l⟩
  exact .inr ⟨j,xs,regs,ys,rest,h1,g,l,m,n,fun b=>hk _ (q b)⟩
 .obtain⟨as,regs,t,y,f',h1,g,l,ids,m⟩:=h;exact⟨as,regs,t,y,f',h1,g,l,ids,i _ _ _ _ _ m⟩
 .obtain⟨t,y,h1,g⟩:=h;exact⟨t,y,h1,u _ _ g⟩
 rcases h with⟨out,h1,g,l⟩ | ⟨c,x,h1,g,l⟩
 .exact .inl ⟨out,h1,g,hk _ l⟩
 exact .inr ⟨c,x,h1,g,hk _ l⟩
theorem KA (hS:H9 S P){all:List Oper}{Q Q' : O8}(a:∀e s,Q e s->Q' e s):∀(rest:List Oper) {st:St},QU S P all rest Q st->QU S P all rest Q' st
 |[],st,h=>a _ _ h
 |o::rest,st,h=>by
  simp only[QU]at h⊢;refine hS.mono _ _ _ (fun t h=>?_) h;split at h
  .exact UL hS (fun s=>KA hS a rest) a h
  obtain⟨b,h1,c⟩:=h;refine⟨b,h1,?_⟩;split
  .rename_i hb;rw[Il hb]at c;exact UL hS (fun s=>KA hS a rest) a c
  rename_i hb;rw[Ix hb]at c;exact KA hS a rest c
theorem Ai2 (hS:H9 S P){all:List Oper}{o:Oper}{k k' : St->Prop}{Q Q' : O8}(hk:∀s,k s->k' s)(c:∀e s,Q e s->Q' e s){st:St}(h:YX S P all o k Q st):YX S P all o k' Q' st:=by
 unfold YX at h⊢;refine hS.mono _ _ _ (fun t h=>?_) h;split at h
 .exact UL hS hk c h
 obtain⟨b,h1,a⟩:=h;refine⟨b,h1,?_⟩;split
 .rename_i hb;rw[Il hb]at a;exact UL hS hk c a
 rename_i hb;rw[Ix hb]at a;exact hk _ a
theorem AW4 (hS:H9 S P){ops:List Oper}{Q:O8}{st:St}(hm:P.follows .mixedOrders=true)(m:Ph ops=true)(h:S.up st fun s=>Bl5 S P ops Q s):Bl5 S P ops Q st:=by
 refine⟨hm,m,fun D s=>S.up s fun s'=>∃Inv:(Nat->Bool)->St->Prop,Inv D s' /\
  (∀D i s o,Inv D s->ops[i]? = some o->D i=false->(∀e∈o.after.toList,Hi e=true->D e.on=true) ->
   YX S P ops o (Inv fun j=>if j=i then true else D j) Q s) /\
  ∀D s,Inv D s->(∀i,i<ops.length->D i=true)->S.up s (Q .normal),?_,?_,?_⟩
 .refine hS.mono _ _ _ (fun s hs=>?_) h;obtain⟨_,_,Inv,h1,b,c⟩:=hs;exact⟨Inv,h1,b,c⟩
 .intro D i s o f n g l
  have:S.up s fun s'=>YX S P ops o (fun t=>S.up t fun t'=>∃Inv:(Nat->Bool)->St->Prop,Inv (fun j=>if j=i then true else D j) t' /\
   (∀D i s o,Inv D s->ops[i]? = some o->D i=false->(∀e∈o.after.toList,Hi e=true->D e.on=true) ->
    YX S P ops o (Inv fun j=>if j=i then true else D j) Q s) /\
   ∀D s,Inv D s->(∀i,i<ops.length->D i=true)->S.up s (Q .normal)) Q s':=by
   refine hS.mono _ _ _ (fun s' a=>?_) f;obtain⟨Inv,h1,b,c⟩:=a;exact Ai2 hS (fun t ht=>hS.refl _ _ ⟨Inv,ht,b,c⟩) (fun _ _ h=>h) (b D i s' o h1 n g l)
  unfold YX at this⊢;exact hS.trans _ _ this
 intro D s f d;refine hS.trans _ _ (hS.mono _ _ _ (fun s' a=>?_) f);obtain⟨Inv,h1,b,c⟩:=a;exact c D s' h1 d
theorem Ao4 (hS:H9 S P){k k' : St->Prop}{Q Q' : O8}(hk:∀s,k s->k' s)(a:∀e s,Q e s->Q' e s)(e:UX)(s:St)(h:thn S k Q e s):thn S k' Q' e s:=by
 cases e with
 |normal=>exact hS.mono _ _ _ hk h
 |_=>exact a _ _ h
theorem Bf4 (hS:H9 S P){g:Nat}{ts:List Nat}{next:St->Prop}{Q Q' : O8}(a:∀e s,Q e s->Q' e s)(e:UX)(s:St)(h:FL S g ts next Q e s):FL S g ts next Q' e s:=by
 cases e with
 |normal=>exact h
 |panic x=>exact h
 |_=>exact hS.mono _ _ _ (fun t ⟨cs,h1,b,c,d⟩=>⟨cs,h1,b,c,a _ _ d⟩) h
theorem Ds (hS:H9 S P):∀(c:Code) {Q Q' : O8},(∀e s,Q e s->Q' e s)->∀{st:St},awp S P c Q st->awp S P c Q' st
 |.skip,Q,Q',hq,st,h=>hq _ _ h
 |.label _,Q,Q',hq,st,h=>hq _ _ h
 |.region _ ops draw,Q,Q',hq,st,h=>by
  unfold awp at h⊢;split
  .rename_i hb;rw[Il hb]at h;obtain⟨h1,j,Inv,n,q,u⟩:=h;exact⟨h1,j,Inv,n,fun D i s o a b c d=>Ai2 hS (fun _ h=>h) hq (q D i s o a b c d),fun D s a b=>hS.mono _ _ _ (fun t=>hq _ t) (u D s a b)⟩
  rename_i hb;rw[Ix hb]at h;exact KA hS hq _ h
 |.seq a b,Q,Q',hq,st,h=>Ds hS a (Ao4 hS (fun s=>Ds hS b hq) hq) h
 |.cond c t e,Q,Q',hq,st,h=>by
  obtain⟨b,h1,j⟩:=h;refine⟨b,h1,?_⟩;split
  .rename_i hb;rw[Il hb]at j;exact Ds hS t hq j
  rename_i hb;rw[Ix hb]at j;exact Ds hS e hq j
 |.block id b,Q,Q',hq,st,h=>Ds hS b (fun e s h=>by
  cases e with
  |exit i=>simp only[blk]at h⊢;split at h<;>simp_all
  |_=>exact hq _ _ h) h
 |.loop b,Q,Q',hq,st,h=>by
  obtain⟨X,s,J,m,h1,j⟩:=h;refine⟨X,s,J,m,h1,fun x hx=>Ds hS b (fun e t h=>?_) (j x hx)⟩;cases e with
  |normal=>exact h
  |_=>exact hq _ _ h
 |.scope b,Q,Q',hq,st,h=>Ds hS b (fun e s h=>by
  cases e with
  |goto l=>exact h
  |_=>exact hq _ _ h) h
 |.exit id,Q,Q',hq,st,h=>hq _ _ h
 |.goto l,Q,Q',hq,st,h=>hq _ _ h
 |.ret,Q,Q',hq,st,h=>hq _ _ h
 |.rangeFunc g ps asg body,Q,Q',hq,st,h=>by
  obtain⟨f,first,caps,as,bs,objs,ids,ts,gh,L,I,Fin,h1,j,n,q,u,h6,h7,h8,h9,w,y,z,a0,a1,a2,a3⟩:=h;refine⟨f,first,caps,as,bs,objs,ids,ts,gh,L,I,Fin,h1,j,n,q,u,h6,h7,h8,h9,w,y,z,a0,?_,?_,a3⟩
  .intro ys rest s a b c;refine Ds hS asg (fun e t h=>?_) (a1 ys rest s a b c);cases e with
   |normal=>exact hS.mono _ _ _ (fun t h=>Ds hS body (Bf4 hS hq) h) h
   |_=>exact h
  intro s r a b c d
  have:=a2 s r a b c d
  cases r with
  |ret v=>exact hq _ _ this
  |panic x=>exact hq _ _ this
 |.refuse _,Q,Q',hq,st,h=>h
theorem BD6 (hS:H9 S P){F:O8}(a:∀s,S.up s (F .normal)->F .normal s):∀(K:List It) (s:St),S.up s (kp S P K F .normal)->kp S P K F .normal s
 |[],s,h=>a s h
 |.code c::K,s,h=>hS.trans _ _ (hS.mono _ _ _ (fun t h=>h) h)
 |.blk id::K,s,h=>BD6 hS a K s h
 |.lp X s' J m n::K,s,h=>hS.trans _ _ h
 |.mid M::K,s,h=>hS.trans _ _ h
 |.scp::K,s,h=>BD6 hS a K s h
theorem Cf0 (hS:H9 S P){F:O8}(a:∀s,S.up s (F .normal)->F .normal s){K:List It}{M:St->Prop}(b:∀t,M t->G S P F (.pop .normal K t))(e:UX)(s:St)(h:kp S P (.mid M::K) F e s):kp S P K F e s:=by
 cases e with
 |normal=>exact BD6 hS a K s (hS.mono _ _ _ b h)
 |_=>exact h
end
end Go.AM
namespace Go.AM
section
variable {S:W1}{P:Program}{F:O8}{K:List It}{st:St}
theorem AW5 (hS:H9 S P){all rest:List Oper}{o:Oper}{t:TypeId}{m k:Operand}{ok:Bool}{key:PV}{regs:F5}{j:Nat}{es:List (PV×PV)}{kt e:TypeId}{x:PV}{b:Bool}{fd:Option PV}
 (i:DZ all st.env o=some true) (f:o.op=.lookup t m k ok) (l:Hg st.regs (aev st.env k)=some (key,regs)) (hm:aev st.env m=.mref j) (n:A7 regs j=some (.map es))
 (ht:tk P t=some (.map kt e)) (hk:Kv P kt key=true) (q:find (QX P kt) key es=some fd) (hx:(match fd with|some x=>some (x,true)|none=>(Pg P e).map fun z=>(z,false))=some (x,b)) (hc:G1 (QY P kt))
 (hn:G S P F (.ops all rest K (put { st with regs:=regs } o.dst (if ok then .tup [.p x,.bool b]else .p x)))):G S P F (.ops all (o::rest) K st):=by
 refine BL9 hS (out:=⟨QY P kt,if ok then .tup [.p x,.bool b]else .p x,regs⟩) i ?_ (fun c a=>by rw[f]at a;cases a) (fun x d=>by rw[f]at d;cases d) hc hn;rw[f];simp only[aop,l,hm,FJ,ht,hk,n,q];cases fd with
 |some y=>simp only[Cl5,Cm7]at hx;obtain⟨rfl,rfl⟩:=hx;rfl
 |none=>
  simp only at hx⊢;cases g:Pg P e with
  |none=>simp[g]at hx
  |some z=>simp only[g,Cm8,Cl5,Cm7]at hx;obtain⟨rfl,rfl⟩:=hx;rfl
theorem AM2 (hS:H9 S P){all rest:List Oper}{o:Oper}{t:TypeId}{m k x:Operand}{key y:PV}{regs:F5}{j:Nat}{es es' : List (PV×PV)}{kt e:TypeId}
 (g:DZ all st.env o=some true) (d:o.op=.mapUpdate t m k x) (f:aev st.env k=.p key) (i:Hg st.regs (aev st.env x)=some (y,regs)) (hm:aev st.env m=.mref j) (l:A7 regs j=some (.map es))
 (ht:tk P t=some (.map kt e)) (hk:Kv P kt (nP key)=true) (n:upd (QX P kt) (nP key) y es=some es') (hc:G1 (QY P kt))
 (hn:G S P F (.ops all rest K (put { st with regs:=ins j (.map es') regs } o.dst Al9))):G S P F (.ops all (o::rest) K st):=by
 refine BL9 hS (out:=⟨QY P kt,Al9,ins j (.map es') regs⟩) g ?_ (fun c a=>by rw[d]at a;cases a) (fun x b=>by rw[d]at b;cases b) hc hn;rw[d];simp only[aop,i,hm,f,ht,hk,l,n]
end
end Go.AM
namespace Go.AM
variable {N:Nat}
abbrev Str:=List UInt8
structure Sl (α : Type) where
 n:Nat
 g:Nat -> α
instance {α : Type} [Inhabited α]:Inhabited (Sl α):=⟨⟨0,fun _=>default⟩⟩
namespace Sl
variable {α : Type}
def toList (s:Sl α):List α:=(List.range s.n).map s.g
abbrev nil [Inhabited α]:Sl α:=⟨0,fun _=>default⟩
abbrev rep (n:Nat)(a : α):Sl α:=⟨n,fun _=>a⟩
abbrev sub (s:Sl α)(a b:Nat):Sl α:=⟨b-a,fun i=>s.g (a+i)⟩
abbrev drop (s:Sl α)(a:Nat):Sl α:=⟨s.n-a,fun i=>s.g (a+i)⟩
abbrev take (s:Sl α)(b:Nat):Sl α:=⟨b,s.g⟩
abbrev push (s:Sl α)(a : α):Sl α:=⟨s.n+1,fun i=>if i<s.n then s.g i else a⟩
abbrev app (s t:Sl α):Sl α:=⟨s.n+t.n,fun i=>if i<s.n then s.g i else t.g (i-s.n)⟩
abbrev upd (s:Sl α)(k:Nat)(a : α):Sl α:=⟨s.n,fun i=>if i=k then a else s.g i⟩
abbrev of [Inhabited α](l:List α):Sl α:=⟨l.length,fun i=>l.getD i default⟩
end Sl
abbrev vSl {α : Type}(k:Nat)(c : α -> List PV)(s:Sl α):PV:=.sl false k s.n fun i=>c (s.g i)
abbrev pI (k:IntKind)(n:Int):PV:=.v (.int k n)
abbrev P8 (l:Str)(i:Int):Int:=(((l.getD i.toNat 0).toNat:Nat):Int)
abbrev pN (n:Int):AV:=.p (.v (.int .i64 n))
abbrev pU (n:Int):AV:=.p (.v (.int .u32 n))
abbrev pB (b:Bool):AV:=.p (.bb b)
abbrev G6:PV:=.v (.slice none 0 0)
section
variable {R:Type}
def T9 {A:Type}(N:Nat)(body:(A->Option R)->A->Option R):A->Option R:=match N with
 |0=>fun _=>none
 |N+1=>fun a=>body (T9 N body) a
variable {A B C D E F G H:Type}
def P9 (N:Nat)(body:(A->B->Option R)->A->B->Option R)(a:A)(b:B):Option R:=T9 N (fun c x=>body (fun a b=>c (a,b)) x.1 x.2) (a,b)
def Zb (N:Nat)(body:(A->B->C->Option R)->A->B->C->Option R)(a:A)(b:B)(c:C):Option R:=T9 N (fun d x=>body (fun a b c=>d (a,b,c)) x.1 x.2.1 x.2.2) (a,b,c)
def Bf5 (N:Nat)(body:(A->B->C->D->Option R)->A->B->C->D->Option R)(a:A)(b:B)(c:C)(d:D):Option R:=T9 N (fun f x=>body (fun a b c d=>f (a,b,c,d)) x.1 x.2.1 x.2.2.1 x.2.2.2) (a,b,c,d)
theorem V2 {body:(A->Option R)->A->Option R}{a:A}:T9 (N+1) body a=body (T9 N body) a:=rfl
theorem F9 {body:(A->B->Option R)->A->B->Option R}{a:A}{b:B}:P9 (N+1) body a b=body (P9 N body) a b:=rfl
theorem Aw {body:(A->B->C->D->Option R)->A->B->C->D->Option R}{a:A}{b:B}{c:C}{d:D}:Bf5 (N+1) body a b c d=body (Bf5 N body) a b c d:=rfl
def lt {K:Type}(k:K)(f:K->Option R):Option R:=f k
end
section
variable {R X Y:Type}{r:R}
theorem itT {b:Bool}{x y:Option R}(hb:b=true)(h:(if b then x else y)=some r):x=some r:=by rwa [Il hb]at h
theorem itF {b:Bool}{x y:Option R}(hb:b=false)(h:(if b then x else y)=some r):y=some r:=by rwa [Ix (by simp[hb])]at h
theorem C7 {p:Prop}[Decidable p]{x:Option R}(h:(if p then x else none)=some r):p/\x=some r:=by
 split at h
 .exact⟨by assumption,h⟩
 cases h
theorem B1 {x:Option X}{f:X->Option R}(h:x.bind f=some r):∃a,x=some a/\f a=some r:=CC2.1 h
theorem C0 {a b:R}(h:some a=some b):a=b:=Cm3 h
end
section
variable {S:W1}{P:Program}{F:O8}{K:List It}{st:St}
theorem A2 (hS:H9 S P){n:Nat}{rs:List ResultVar}{Q:UY->List Obj->List Bool->Prop}(s:St)(h:S.up s (EI S P n rs Q .normal)):EI S P n rs Q .normal s:=hS.trans _ _ h
theorem Cf1 (hS:H9 S P){b:Code}{R A:Type}{body:(A->Option R)->A->Option R}{N:Nat}{a0:A}{r:R}(h:T9 N body a0=some r)(s:A->St)(ids:List (Nat×Nat))(hle:Le ids st (s a0))
 (d:∀(X:Type) (s' : X->St) (J:X->Prop) (m:X->Nat) (n:Nat) (c:A->Option R) (a:A),(∀st ids a,Le ids st (s a)->c a=some r->G S P F (.pop .normal (.lp X s' J m n::K) st))->body c a=some r->G S P F (.code b (.lp X s' J m n::K) (s a))) :
 G S P F (.code (.loop b) K st):=by
 refine Bl9 hS (X:=Nat×A) (fun x=>s x.2) (fun x=>T9 x.1 body x.2=some r) (fun x=>x.1) (N,a0) ids hle h ?_;rintro⟨n,a⟩ hx;cases n with
 |zero=>cases hx
 |succ n=>exact d _ _ _ _ _ (T9 n body) a (fun st ids a hle h=>Bm0 hS (n,a) ids hle h (CJ2 n)) hx
theorem Bp4 (hS:H9 S P){all rest:List Oper}{o:Oper}(t:St)(ids:List (Nat×Nat))(hle:Le ids st t)(h:G S P F (.ops all (o::rest) K t)):G S P F (.ops all (o::rest) K st):=
 AK1 hS (hS.le ids _ _ _ hle h)
end
theorem pm:(∀b,(true||b)=true)/\(∀b,(b||true)=true)/\(∀b,(false||b)=b)/\(∀b,(b||false)=b)/\(∀b,(true&&b)=b)/\(∀b,(b&&true)=b)/\(∀b,(false&&b)=false)/\(∀b,(b&&false)=false)/\((!true)=false)/\((!false)=true)/\((false=true)=False)/\((true=true)=True):=by refine⟨?_,?_,?_,?_,?_,?_,?_,?_,?_,?_,?_,?_⟩<;>simp
section
variable {regs:F5}{ids:List (Nat×Nat)}
variable {env r:Env}{t:Nat}{a b:AV}{x y:PV}
theorem eP (b:get env t=a)(h:viewP regs a=some y)(h' : Vb regs ids env r):Vb regs ids env ((t,.p y)::r):=BM0 b (le_p h) h'
theorem eM {i j:Nat}(a:get env t=.mref i)(h:lk ids j=some i)(h' : Vb regs ids env r):Vb regs ids env ((t,.mref j)::r):=BM0 a (Bm1 h) h'
theorem W3 {α : Type}{c : α -> List PV}{n:Nat}{v:Sl α}{f:Nat->List PV}{z cs:List PV}{x : α}(h:∀i,i<n->f i=c (v.g i))(hn:n=v.n)(hx:cs=c x):∀i,i<n+1->I4 n f (D0 z [(0,cs)]) i=c ((v.push x).g i):=by
 subst hn hx;intro i a;show (if i<v.n then f i else D0 z [(0,c x)] (i-v.n))=c (if i<v.n then v.g i else x);split
 .exact h i ‹_›
 obtain rfl:i=v.n:=by omega
 simp[D0]
theorem KB {α : Type}{c : α -> List PV}{n m:Nat}{v w:Sl α}{f g:Nat->List PV}(h:∀i,i<n->f i=c (v.g i))(hn:n=v.n)(h' : ∀i,i<m->g i=c (w.g i))(hm:m=w.n):∀i,i<n+m->I4 n f g i=c ((v.app w).g i):=by
 subst hn hm;intro i a;show (if i<v.n then f i else g (i-v.n))=c (if i<v.n then v.g i else w.g (i-v.n));split
 .exact h i ‹_›
 exact h' _ (by omega)
theorem QW {α : Type}{c : α -> List PV}{n k:Nat}{v:Sl α}{f:Nat->List PV}{e:Nat->List PV}{x : α}(h:∀i,i<n->f i=c (v.g i))(hx:k<n->e k=c x):∀i,i<n->(fun l=>if l=k then e l else f l) i=c ((v.upd k x).g i):=by
 intro i a;show (if i=k then e i else f i)=c (if i=k then x else v.g i);split
 .subst_vars;exact hx a
 exact h i a
theorem same {n:Nat}{f:Nat->List PV}:∀i,i<n->f i=f i:=fun _ _=>rfl
end
end Go.AM
namespace Go.AM
abbrev cI (k:IntKind)(n:Int):List PV:=[.v (.int k n)]
abbrev cB (b:Bool):List PV:=[.bb b]
abbrev cS (s:Str):List PV:=[.str s]
abbrev cL {α : Type}(k:Nat)(c : α -> List PV)(s:Sl α):List PV:=[vSl k c s]
abbrev AM3 (s:Sl Int):Str:=(List.range s.n).map fun i=>UInt8.ofNat (s.g i).toNat
section
variable {S:W1}{P:Program}{F:O8}{K:List It}{st:St}
end
section
variable {regs:F5}{ids:List (Nat×Nat)}
theorem le_yf {i j:Nat}(h:lk ids j=some i):leA regs ids (.yf i) (.yf j):=by unfold leA;exact⟨i,h,rfl⟩
theorem Cf2 {l m:List AV}(h:leL regs ids l m):leA regs ids (.tup l) (.tup m):=by unfold leA;exact⟨l,rfl,h⟩
theorem Cf3 {l m:List AV}(h:leL regs ids l m):leA regs ids (.agr l) (.agr m):=by unfold leA;exact⟨l,rfl,h⟩
end
end Go.AM
namespace Go.AM
def UM {κ ν : Type}(kP : κ -> PV)(vP : ν -> PV)(es:List (κ × ν)):List (PV×PV):=es.map fun p=>(kP p.1,vP p.2)
def DW {κ ν : Type}(eq : κ -> κ -> Bool)(k : κ):List (κ × ν)->Option ν
 |[]=>none
 |(a,v)::es=>if eq k a then some v else DW eq k es
def Rk {κ ν : Type}(eq : κ -> κ -> Bool)(k : κ)(v : ν):List (κ × ν)->List (κ × ν)
 |[]=>[(k,v)]
 |(a,x)::es=>if eq k a then (k,v)::es else (a,x)::Rk eq k v es
theorem AM4 {κ ν : Type}(kP : κ -> PV)(vP : ν -> PV)(es:List (κ × ν)):(UM kP vP es).length=es.length:=by simp[UM]
theorem FT {κ ν : Type}{kP : κ -> PV}{vP : ν -> PV}{cmp:PV->PV->Option Bool}{eq : κ -> κ -> Bool}(hc:∀a b,cmp (kP a) (kP b)=some (eq a b))(k : κ):∀es:List (κ × ν),find cmp (kP k) (UM kP vP es)=some ((DW eq k es).map vP)
 |[]=>rfl
 |(a,v)::es=>by
  show (match cmp (kP k) (kP a)with|some true=>some (some (vP v))|some false=>find cmp (kP k) (UM kP vP es)|none=>none)=some ((DW eq k ((a,v)::es)).map vP);rw[hc];simp only[DW];cases h:eq k a
  .simpa using FT hc k es
  rfl
theorem Pv {κ ν : Type}{kP : κ -> PV}{vP : ν -> PV}{cmp:PV->PV->Option Bool}{eq : κ -> κ -> Bool}(hc:∀a b,cmp (kP a) (kP b)=some (eq a b))(k : κ)(x : ν):∀es:List (κ × ν),upd cmp (kP k) (vP x) (UM kP vP es)=some (UM kP vP (Rk eq k x es))
 |[]=>rfl
 |(a,v)::es=>by
  show (match cmp (kP k) (kP a)with|some true=>some ((kP k,vP x)::UM kP vP es)|some false=>(upd cmp (kP k) (vP x) (UM kP vP es)).map ((kP a,vP v) :: ·)|none=>none)=some (UM kP vP (Rk eq k x ((a,v)::es)));rw[hc];simp only[Rk];cases h:eq k a
  .simp only[Pv hc k x es,Cm8,Rn,Cm2];rfl
  rfl
abbrev eqS (a b:Str):Bool:=a==b
def BS8 {X Y:Type}(o:Option X)(a:Y)(f:X->Y):Y:=match o with
 |none=>a
 |some x=>f x
theorem optN {X R:Type}{r:R}{o:Option X}{a:Option R}{f:X->Option R}(b:o=none)(h:BS8 o a f=some r):a=some r:=by subst b;exact h
theorem optS {X R:Type}{r:R}{o:Option X}{x:X}{a:Option R}{f:X->Option R}(b:o=some x)(h:BS8 o a f=some r):f x=some r:=by subst b;exact h
theorem Vz {X Y:Type}(a:Y)(f:X->Y):BS8 none a f=a:=rfl
theorem Bp5 {X Y:Type}(x:X)(a:Y)(f:X->Y):BS8 (some x) a f=f x:=rfl
section
variable {R T A B C D:Type}
def iter0 (L:List T)(body:Option R->T->Option R)(k:Option R):Option R:=match L with
 |[]=>k
 |t::L=>body (iter0 L body k) t
def Q5 (L:List T)(body:(A->Option R)->T->A->Option R)(k:A->Option R)(a:A):Option R:=match L with
 |[]=>k a
 |t::L=>body (Q5 L body k) t a
end
section
variable {S:W1}{P:Program}{F:O8}{K:List It}{st:St}
theorem BS9 (hS:H9 S P){g:Operand}{ps:Array Tmp}{asg body:Code}{f:FuncId}{first caps as bs:List AV}{objs:List Obj}{R T A:Type}{enc:T->List PV}{L:List T}{mb:(A->Option R)->T->A->Option R}{mk:A->Option R}{a0:A}{r:R}
 (ids ts:List Nat) (gh:Nat) (s:A->St) (idl:List (Nat×Nat)) (h:Q5 L mb mk a0=some r) (y:IN S f as bs objs (L.map enc))
 (hp:Hh st.env g=some (f,first,caps)) (j:∃fn,P.funcs[f]? = some fn/\fn.body.isSome=true/\(fn.name == "runtime.NumGoroutine")=false) (l:O9 ids st.regs ids=some objs) (m:GE objs=true) (z:J0 ids=true) (n:Fn ids first=some as) (o:Fn ids caps=some bs) (q:objs.length=ids.length)
 (u:Nat.blt gh 1000=true) (v:A7 st.regs gh=none) (w:Nat.blt ids.length 1000=true) (x:J0 ts=true) (d:∀t:T,(enc t).length=ps.size)
 (hle:Le idl ⟨Bk ts (ts.map (get st.env)),R7 ids (ids.map fun _=>false) st.regs⟩ (s a0)) (hk:∀a,(s a).env.map (·.1)=ts) (hn:∀a,A7 (s a).regs gh=none)
 (b:∀(t:T) (next:St->Prop) (c:A->Option R) (a:A),(∀(st st1:St) (cs:List AV) (idl:List (Nat×Nat)) (a:A),Le idl st st1->A7 st1.regs gh=some (.ghost cs)->cs.length=ts.length->A7 (del gh st1.regs) gh=none->(⟨Bk ts cs,del gh st1.regs⟩:St)=s a->c a=some r->G S P (FL S gh ts next (kp S P K F)) (.pop .normal [] st)) ->
  mb c t a=some r->G S P (Dr S P body gh ts next (kp S P K F)) (.code asg [] ⟨Pj ps.toList (enc t) (s a).env,ins gh (.ghost ((s a).env.map (·.2))) (s a).regs⟩))
 (i:∀a,mk a=some r->G S P F (.pop .normal K (s a))):G S P F (.code (.rangeFunc g ps asg body) K st):=by
 refine Bp1 hS ids ts gh (L.map enc) s (fun rest a=>∃L',rest=L'.map enc/\Q5 L' mb mk a=some r) a0 idl hp j l m z n o q (by simpa[CD3]using u) v (by simpa[CD3]using w) x (fun ys hy=>?_) y hle ⟨L,rfl,h⟩ hk hn ?_ ?_
 .obtain⟨t,_,rfl⟩:=Cp2.1 hy;exact d t
 .rintro ys rest a ⟨L',hL,hx⟩;cases L' with
  |nil=>cases hL
  |cons t L'=>simp only[Cp1,Cw8]at hL;obtain⟨rfl,rfl⟩:=hL;refine b t _ (Q5 L' mb mk) a (fun st st1 cs idl a hle h1 h2 h3 h4 h5=>?_) hx;exact AM0 hS st1 a idl hle h1 h2 h3 h4 ⟨L',rfl,h5⟩
 rintro a ⟨L',hL,hx⟩;cases L' with
 |nil=>exact i a hx
 |cons t L'=>cases hL
theorem BD7 (hS:H9 S P){g:Operand}{ps:Array Tmp}{asg body:Code}{f:FuncId}{first caps as bs:List AV}{objs:List Obj}{R T A:Type}{enc:T->List PV}{L:List T}{mb:(A->Option R)->T->A->Option R}{mk:A->Option R}{a0:A}{r0:R}
 (ids ts:List Nat) (gh:Nat) (s:A->R->St) (idl:List (Nat×Nat)) (h:Q5 L mb mk a0=some r0) (z:IN S f as bs objs (L.map enc))
 (hp:Hh st.env g=some (f,first,caps)) (j:∃fn,P.funcs[f]? = some fn/\fn.body.isSome=true/\(fn.name == "runtime.NumGoroutine")=false) (l:O9 ids st.regs ids=some objs) (m:GE objs=true) (hd:J0 ids=true) (n:Fn ids first=some as) (o:Fn ids caps=some bs) (q:objs.length=ids.length)
 (u:Nat.blt gh 1000=true) (v:A7 st.regs gh=none) (w:Nat.blt ids.length 1000=true) (y:J0 ts=true) (d:∀t:T,(enc t).length=ps.size)
 (hle:Le idl ⟨Bk ts (ts.map (get st.env)),R7 ids (ids.map fun _=>false) st.regs⟩ (s a0 r0)) (hk:∀a r,(s a r).env.map (·.1)=ts) (hn:∀a r,A7 (s a r).regs gh=none)
 (b:∀(t:T) (next:St->Prop) (c:A->Option R) (a:A) (r:R),(∀(st st1:St) (cs:List AV) (idl:List (Nat×Nat)) (a:A) (r:R),Le idl st st1->A7 st1.regs gh=some (.ghost cs)->cs.length=ts.length->A7 (del gh st1.regs) gh=none->(⟨Bk ts cs,del gh st1.regs⟩:St)=s a r->c a=some r->G S P (FL S gh ts next (kp S P K F)) (.pop .normal [] st)) ->
  mb c t a=some r->G S P (Dr S P body gh ts next (kp S P K F)) (.code asg [] ⟨Pj ps.toList (enc t) (s a r).env,ins gh (.ghost ((s a r).env.map (·.2))) (s a r).regs⟩))
 (i:∀a r,mk a=some r->G S P F (.pop .normal K (s a r))):G S P F (.code (.rangeFunc g ps asg body) K st):=by
 refine Bp1 hS ids ts gh (L.map enc) (fun x:A×R=>s x.1 x.2) (fun rest x=>∃L',rest=L'.map enc/\Q5 L' mb mk x.1=some x.2) (a0,r0) idl hp j l m hd n o q (by simpa[CD3]using u) v (by simpa[CD3]using w) y (fun ys hy=>?_) z hle ⟨L,rfl,h⟩ (fun x=>hk x.1 x.2) (fun x=>hn x.1 x.2) ?_ ?_
 .obtain⟨t,_,rfl⟩:=Cp2.1 hy;exact d t
 .rintro ys rest ⟨a,r⟩ ⟨L',hL,hx⟩;cases L' with
  |nil=>cases hL
  |cons t L'=>simp only[Cp1,Cw8]at hL;obtain⟨rfl,rfl⟩:=hL;refine b t _ (Q5 L' mb mk) a r (fun st st1 cs idl a r hle h1 h2 h3 h4 h5=>?_) hx;exact AM0 hS st1 (a,r) idl hle h1 h2 h3 h4 ⟨L',rfl,h5⟩
 rintro⟨a,r⟩ ⟨L',hL,hx⟩;cases L' with
 |nil=>exact i a r hx
 |cons t L'=>cases hL
end
end Go.AM
namespace Go.AM
section
variable {S:W1}{P:Program}{all:List Oper}{k:Env->F5->Prop}
theorem AM5 {cls:List Cls}{o:Oper}{rest:List Oper}{env:Env}{regs regs1:F5}{t:TypeId}{m q x:Operand}{key y:PV}{j:Nat}{es es' : List (PV×PV)}{kt e:TypeId}
 (d:Dq all env o=some true) (b:o.op=.mapUpdate t m q x) (a:aev env q=.p key) (f:Hg regs (aev env x)=some (y,regs1)) (hm:aev env m=.mref j) (g:A7 regs1 j=some (.map es))
 (ht:tk P t=some (.map kt e)) (hk:Kv P kt (nP key)=true) (i:upd (QX P kt) (nP key) y es=some es') (hc:G1 (QY P kt))
 (hn:QV S P all cls rest (Vx o.dst Al9 env) (ins j (.map es') regs1) k):QV S P all (.w::cls) (o::rest) env regs k:=by
 refine BM6 (c:=QY P kt) (v:=Al9) (regs':=ins j (.map es') regs1) d ?_ hc ?_ hn
 .rw[b];simp only[aop,f,hm,a,ht,hk,g,i]
 rw[b];rfl
theorem AW6 {cl:Cls}{cls:List Cls}{o:Oper}{rest:List Oper}{env:Env}{regs regs1:F5}{t:TypeId}{m q:Operand}{ok:Bool}{key:PV}{j:Nat}{es:List (PV×PV)}{kt e:TypeId}{x:PV}{b:Bool}{fd:Option PV}
 (f:Dq all env o=some true) (g:o.op=.lookup t m q ok) (i:Hg regs (aev env q)=some (key,regs1)) (hm:aev env m=.mref j) (l:A7 regs1 j=some (.map es))
 (ht:tk P t=some (.map kt e)) (hk:Kv P kt key=true) (n:find (QX P kt) key es=some fd) (hx:(match fd with|some x=>some (x,true)|none=>(Pg P e).map fun z=>(z,false))=some (x,b)) (hc:G1 (QY P kt)) (a:Bf2 cl env (o.dst.getD 0) o.op=true)
 (hn:QV S P all cls rest (Vx o.dst (if ok then .tup [.p x,.bool b]else .p x) env) regs1 k):QV S P all (cl::cls) (o::rest) env regs k:=by
 refine BM6 (c:=QY P kt) (v:=if ok then .tup [.p x,.bool b]else .p x) (regs':=regs1) f ?_ hc a hn;rw[g];simp only[aop,i,hm,FJ,ht,hk,l,n];cases fd with
 |some y=>simp only[Cl5,Cm7]at hx;obtain⟨rfl,rfl⟩:=hx;rfl
 |none=>
  simp only at hx⊢;cases d:Pg P e with
  |none=>simp[d]at hx
  |some z=>simp only[d,Cm8,Cl5,Cm7]at hx;obtain⟨rfl,rfl⟩:=hx;rfl
end
end Go.AM
namespace Go.AM
section
variable (P:Program)
def stp (g:Cfg):Cfg:=(run P none 400 [] g).cfg
def cnd (g:Cfg):List Prop:=(run P none 400 [] g).conds
def Pc (d:Nat)(g:Cfg):Cfg:=(run P (some d) 400 [] g).cfg
def Cf4 (d:Nat)(g:Cfg):List Prop:=(run P (some d) 400 [] g).conds
def Cfg.st:Cfg->St
 |.code _ _ s=>s
 |.ops _ _ _ s=>s
 |.pop _ _ s=>s
def Cfg.k:Cfg->List It
 |.code _ K _=>K
 |.ops _ _ K _=>K
 |.pop _ K _=>K
def mkO {R:Type _}(env:Env)(regs:F5)(κ : Env->F5->R):R:=fE env fun env=>fR regs fun regs=>κ env regs
theorem HL {R:Type _}(env:Env)(regs:F5)(κ : Env->F5->R):mkO env regs κ = κ env regs:=by simp only[mkO,fE_eq,BQ1]
def BD8 {R:Type _}(d:Option Nat)(a:AV)(env:Env)(regs:F5)(κ : St->R):R:=match d with
 |some d=>mkO (ins d a env) regs fun env regs=>κ ⟨env,regs⟩
 |none=>mkO env regs fun env regs=>κ ⟨env,regs⟩
theorem OA {R:Type _}(d:Option Nat)(a:AV)(env:Env)(regs:F5)(κ : St->R):BD8 d a env regs κ = κ (put ⟨env,regs⟩ d a):=by cases d<;>simp only[BD8,HL,put]
def BD9:Cfg->Option Bool
 |.code (.cond c _ _) _ st=>match aev st.env c with
  |.p (.bb b)=>some b
  |_=>none
 |_=>none
def BT0:Cfg->Cfg
 |.code (.cond _ t _) K st=>.code t K st
 |g=>g
def BT1:Cfg->Cfg
 |.code (.cond _ _ e) K st=>.code e K st
 |g=>g
def AW7:Cfg->Option Bool
 |.ops all (o::_) _ st=>match o.guard with
  |some (j,_)=>match Cd2 all j with
   |some d=>match get st.env d with
    |.p (.bb b)=>some b
    |_=>none
   |none=>none
  |none=>none
 |_=>none
def VA (b:Bool):Cfg->Cfg
 |.ops all (o::rest) K st=>match o.guard with
  |some (j,_)=>match Cd2 all j with
   |some d=>BD8 (some d) (.p (.v (.bool b))) st.env st.regs fun st=>.ops all (o::rest) K st
   |none=>.ops all (o::rest) K st
  |none=>.ops all (o::rest) K st
 |g=>g
def Bf6 (ids:List Nat):Cfg->Option (FuncId×List AV×List Obj)
 |.ops all (o::_) _ st=>match DZ all st.env o,o.op with
  |some true,.call c=>match c.callee with
   |.value f=>match YV st.regs (c.args.toList.map (aev st.env))with
    |some (as,regs)=>match Aw4 st.env f as with
     |some (fn,as')=>match Fn ids as',O9 ids regs ids with
      |some a,some ob=>if J0 ids&&GE ob then some (fn,a,ob)else none
      |_,_=>none
     |none=>none
    |none=>none
   |_=>none
  |_,_=>none
 |_=>none
def Bf7 (ids:List Nat)(ks:List Bool)(n:Nat):Cfg->Bool
 |.ops _ (o::_) _ st=>match o.op with
  |.call c=>match YV st.regs (c.args.toList.map (aev st.env))with
   |some (_,regs)=>Dl regs ids ks (o.dst.getD 0) n
   |none=>false
  |_=>false
 |_=>false
def BE0 (ids:List Nat)(ks:List Bool)(r:AV)(objs' : List Obj):Cfg->Cfg
 |.ops all (o::rest) K st=>match o.op with
  |.call c=>match YV st.regs (c.args.toList.map (aev st.env))with
   |some (_,regs)=>BD8 o.dst (unA (N5 (o.dst.getD 0) ids ks objs'.length) r) st.env
    (Aw3 (N5 (o.dst.getD 0) ids ks objs'.length) (N5 (o.dst.getD 0) ids ks objs'.length) objs' (R7 ids ks regs)) fun st=>.ops all rest K st
   |none=>.ops all (o::rest) K st
  |_=>.ops all (o::rest) K st
 |g=>g
structure LookI where
 kt:TypeId
 e:TypeId
 key:PV
 es:List (PV×PV)
def BT2:Cfg->Option LookI
 |.ops all (o::_) _ st=>match DZ all st.env o,o.op with
  |some true,.lookup t m k _=>match Hg st.regs (aev st.env k),aev st.env m with
   |some (key,regs),.mref j=>match A7 regs j,tk P t with
    |some (.map es),some (.map kt e)=>if Kv P kt key then some ⟨kt,e,key,es⟩else none
    |_,_=>none
   |_,_=>none
  |_,_=>none
 |_=>none
def BE1 (e:TypeId):Option PV->Option (PV×Bool)
 |some x=>some (x,true)
 |none=>(Pg P e).map fun z=>(z,false)
def BT3 (x:PV)(b:Bool):Cfg->Cfg
 |.ops all (o::rest) K st=>match o.op with
  |.lookup _ _ k ok=>match Hg st.regs (aev st.env k)with
   |some (_,regs)=>BD8 o.dst (if ok then .tup [.p x,.bool b]else .p x) st.env regs fun st=>.ops all rest K st
   |none=>.ops all (o::rest) K st
  |_=>.ops all (o::rest) K st
 |g=>g
def updE:Cfg->Option (TypeId×PV×PV×List (PV×PV))
 |.ops all (o::_) _ st=>match DZ all st.env o,o.op with
  |some true,.mapUpdate t m k x=>match aev st.env k,aev st.env m,Hg st.regs (aev st.env x)with
   |.p key,.mref j,some (y,regs)=>match A7 regs j,tk P t with
    |some (.map es),some (.map kt _)=>if Kv P kt (nP key) then some (kt,nP key,y,es)else none
    |_,_=>none
   |_,_,_=>none
  |_,_=>none
 |_=>none
def updK (es' : List (PV×PV)):Cfg->Cfg
 |.ops all (o::rest) K st=>match o.op with
  |.mapUpdate _ m _ x=>match aev st.env m,Hg st.regs (aev st.env x)with
   |.mref j,some (_,regs)=>BD8 o.dst Al9 st.env (ins j (.map es') regs) fun st=>.ops all rest K st
   |_,_=>.ops all (o::rest) K st
  |_=>.ops all (o::rest) K st
 |g=>g
def Na:Cfg->Bool
 |.code (.loop _) _ _=>true
 |_=>false
def Ao5:Cfg->Code
 |.code (.loop b) _ _=>b
 |_=>.skip
def popSt:Cfg->Option St
 |.pop .normal _ st=>some st
 |_=>none
def AA0 (M:It):Nat->List It->List It
 |0,K=>M::K
 |n+1,i::K=>i::AA0 M n K
 |_+1,[]=>[M]
def Cf5 (n:Nat)(M:St->Prop):Cfg->Cfg
 |.code c K st=>.code c (AA0 (.mid M) n K) st
 |.ops all rest K st=>.ops all rest (AA0 (.mid M) n K) st
 |.pop e K st=>.pop e (AA0 (.mid M) n K) st
def OB:Cfg->Bool
 |.ops _ (_::_) _ _=>true
 |_=>false
def opsS (st:St):Cfg->Cfg
 |.ops all rest K _=>.ops all rest K st
 |g=>g
def BT4:Cfg->Option St
 |.pop .ret [] st=>some st
 |.pop .normal [] st=>some st
 |_=>none
inductive Leaf where
 |eq (x y:PV)
 |fn (n m:Nat) (f g:Nat->List PV)
 |mp (x y:List (PV×PV))
 |yl (x y:List (List PV)) (b c:Bool)
 |nt (a b:Nat)
 |ob (n:Nat) (f g:Nat->Obj)
inductive LV where
 |eq (x:PV)
 |fn (n:Nat) (f:Nat->List PV)
 |mp (x:List (PV×PV))
 |yl (x:List (List PV)) (b:Bool)
 |nt (a:Nat)
 |ob (f:Nat->Obj)
def Leaf.src:Leaf->LV
 |.eq x _=>.eq x
 |.fn n _ f _=>.fn n f
 |.mp x _=>.mp x
 |.yl x _ b _=>.yl x b
 |.nt a _=>.nt a
 |.ob _ f _=>.ob f
def Leaf.tgt:Leaf->LV
 |.eq _ y=>.eq y
 |.fn _ m _ g=>.fn m g
 |.mp _ y=>.mp y
 |.yl _ y _ c=>.yl y c
 |.nt _ b=>.nt b
 |.ob _ _ g=>.ob g
def Leaf.ok:Leaf->Prop
 |.eq x y=>x=y
 |.fn n m f g=>n=m/\∀i,i<n->f i=g i
 |.mp x y=>x=y
 |.yl x y b c=>x=y/\b=c
 |.nt a b=>a=b
 |.ob n f g=>∀i,i<n->f i=g i
theorem Leaf.ok_of {l:Leaf}(h:l.src=l.tgt):l.ok:=by
 cases l with
 |eq x y=>simp only[Leaf.src,Leaf.tgt,LV.eq.injEq]at h;exact h
 |fn n m f g=>simp only[Leaf.src,Leaf.tgt,LV.fn.injEq]at h;obtain⟨rfl,rfl⟩:=h;exact⟨rfl,fun _ _=>rfl⟩
 |mp x y=>simp only[Leaf.src,Leaf.tgt,LV.mp.injEq]at h;exact h
 |yl x y b c=>simp only[Leaf.src,Leaf.tgt,LV.yl.injEq]at h;exact h
 |nt a b=>simp only[Leaf.src,Leaf.tgt,LV.nt.injEq]at h;exact h
 |ob n f g=>simp only[Leaf.src,Leaf.tgt,LV.ob.injEq]at h;subst h;exact fun _ _=>rfl
def BT5:PV->PV->Leaf
 |.v (.bool b),.bb c=>.eq (.bb b) (.bb c)
 |.v (.slice none 0 0),.sl false _ n f=>.fn 0 n f f
 |.sl nn k n f,.sl false l m g=>if k=l then .fn n m f g else .eq (.sl nn k n f) (.sl false l m g)
 |x,y=>.eq x y
mutual
def Pw (regs:F5)(ids:List (Nat×Nat))(a b:AV):Option (List Leaf):=
 match b with
 |.top=>some []
 |.p y=>match viewP regs a with
  |some x=>some [BT5 x y]
  |none=>none
 |.reg j off=>match a with | .reg i off'=>if lk ids j=some i/\off=off' then some []else none|_=>none
 |.vec j=>match a with
  |.vec i=>if lk ids j=some i then some []else none
  |.p (.v (.slice none 0 0))=>if lk ids j=none then some []else none
  |_=>none
 |.vecp j n=>match a with | .vecp i m=>if lk ids j=some i/\n=m then some []else none|_=>none
 |.elt j k n off=>match a with | .elt i k' n' off'=>if lk ids j=some i/\k=k' /\ n=n' /\ off=off' then some []else none|_=>none
 |.mref j=>match a with | .mref i=>if lk ids j=some i then some []else none|_=>none
 |.yf j=>match a with | .yf i=>if lk ids j=some i then some []else none|_=>none
 |.clo f x y=>match a with
  |.clo f' x' y'=>match Zc regs ids x' x,Zc regs ids y' y with|some l,some m=>some (.nt f' f::l++m)|_,_=>none
  |_=>none
 |.tup l=>match a with | .tup l'=>Zc regs ids l' l|_=>none
 |.agr l=>match a with | .agr l'=>Zc regs ids l' l|_=>none
def Zc (regs:F5)(ids:List (Nat×Nat))(a b:List AV):Option (List Leaf):=
 match b with
 |[]=>match a with | []=>some [] | _=>none
 |y::s=>match a with
  |x::r=>match Pw regs ids x y,Zc regs ids r s with|some l,some m=>some (l++m)|_,_=>none
  |[]=>none
end
def BE2 (regs:F5)(ids:List (Nat×Nat))(env:Env):Env->Option (List Leaf)
 |[]=>some []
 |(t,b)::r=>match Pw regs ids (get env t) b,BE2 regs ids env r with|some l,some m=>some (l++m)|_,_=>none
def Zd (regs:F5)(ids:List (Nat×Nat))(o p:Obj):Option (List Leaf):=
 match p with
 |.cells cs=>match o with | .cells cs'=>Zc regs ids cs' cs|_=>none
 |.vec e k n f vw=>match o with
  |.vec e' k' m g vw'=>if e=e' /\ k=k' /\ (vw' = true->vw=true)then some [.fn m n g f]else none
  |_=>none
 |.map es=>match o with | .map es'=>some [.mp es' es] | _=>none
 |.arr n f=>match o with | .arr m g=>some [.fn m n (fun i=>[g i]) (fun i=>[f i])] | _=>none
 |.ghost cs=>match o with | .ghost cs'=>Zc regs ids cs' cs|_=>none
 |.yld r b=>match o with | .yld r' b'=>some [.yl r' r b' b] | _=>none
 |.fam e n jr x=>match o with
  |.fam e' m jr' x'=>if e=e' /\ lk ids jr=some jr' then (match x,x' with
   |none,none=>some [.nt m n]
   |some (i,a),some (i',a')=>match nov a' a,Pw regs ids a' a with
    |true,some l=>some (.nt m n :: .nt i' i::l)
    |_,_=>none
   |_,_=>none)else none
  |_=>none
 |.rows n g=>match o with | .rows m g'=>some [.nt m n,.ob n g' g] | _=>none
 |.dead=>some []
def BE3 (regs:F5)(ids:List (Nat×Nat)):F5->Option (List Leaf)
 |[]=>some []
 |(j,p)::r=>match (match lk ids j with
  |some i=>match A7 regs i with
   |some o=>Zd regs ids o p
   |none=>none
  |none=>match p with
   |.vec _ _ n f _=>some [.fn 0 n f f]
   |_=>none:Option (List Leaf)),BE3 regs ids r with
  |some l,some m=>some (l++m)
  |_,_=>none
def leK (ids:List (Nat×Nat))(s t:St):Option (List Leaf):=
 if (wf t&&J0 (ids.map (·.2))&&Bc6 ids&&Af8 ids t.regs&&Sw ids (Bz6 s.env t.env++Pl ids s.regs t.regs) t.regs) then
  match BE2 s.regs ids s.env t.env,BE3 s.regs ids t.regs with
  |some l,some m=>some (l++m)
  |_,_=>none
 else none
theorem BE4 {x y:PV}(h:(BT5 x y).ok):leP x y:=by
 unfold BT5 at h;split at h
 .simp only[Leaf.ok,PV.bb.injEq]at h;subst h;exact .inr (.inr (.inr (.inl ⟨_,rfl,rfl⟩)))
 .obtain⟨rfl,_⟩:=h;exact .inr (.inr (.inl ⟨_,_,rfl,rfl⟩))
 .split at h
  .rename_i hk;subst hk;obtain⟨rfl,h⟩:=h;exact .inr (.inl ⟨_,_,_,_,_,rfl,rfl,h⟩)
  exact .inl h
 exact .inl h
theorem VB {l m:List Leaf}(h:∀x∈l++m,x.ok):(∀x∈l,x.ok)/\∀x∈m,x.ok:=
 ⟨fun x hx=>h x (Co9 _ hx),fun x hx=>h x (Cn3 _ hx)⟩
mutual
theorem Ao6 {regs:F5}{ids:List (Nat×Nat)}{a:AV}(b:AV){L:List Leaf}(h:Pw regs ids a b=some L)(hL:∀x∈L,x.ok):leA regs ids a b:=by
 cases b with
 |top=>unfold leA;trivial
 |p y=>
  unfold Pw at h;split at h
  .rename_i x hx;cases h;unfold leA;exact⟨x,hx,BE4 (hL _ (by simp))⟩
  cases h
 |reg j off=>
  unfold Pw at h;split at h
  .split at h
   .rename_i c;obtain⟨h1,rfl⟩:=c;exact Cd5 h1
   cases h
  cases h
 |vec j=>
  unfold Pw at h;split at h
  .split at h
   .rename_i h1;exact Cd4 h1
   cases h
  .split at h
   .rename_i h1;exact BQ6 h1
   cases h
  cases h
 |vecp j n=>
  unfold Pw at h;split at h
  .split at h
   .rename_i c;obtain⟨h1,rfl⟩:=c;unfold leA;exact⟨_,h1,rfl⟩
   cases h
  cases h
 |elt j k n off=>
  unfold Pw at h;split at h
  .split at h
   .rename_i c;obtain⟨h1,rfl,rfl,rfl⟩:=c;unfold leA;exact⟨_,h1,rfl⟩
   cases h
  cases h
 |mref j=>
  unfold Pw at h;split at h
  .split at h
   .rename_i h1;exact Bm1 h1
   cases h
  cases h
 |yf j=>
  unfold Pw at h;split at h
  .split at h
   .rename_i h1;exact le_yf h1
   cases h
  cases h
 |clo f x y=>
  unfold Pw at h;split at h
  .split at h
   .rename_i l m h1 g;cases h;have d:=hL _ (Cx9 ..);simp only[Leaf.ok]at d;subst d;obtain⟨i,o⟩:=VB fun x hx=>hL x (Cn4 _ hx);exact Cd6 (IQ x h1 i) (IQ y g o)
   cases h
  cases h
 |tup l=>
  unfold Pw at h;split at h
  .exact Cf2 (IQ l h hL)
  cases h
 |agr l=>
  unfold Pw at h;split at h
  .exact Cf3 (IQ l h hL)
  cases h
theorem IQ {regs:F5}{ids:List (Nat×Nat)}{a:List AV}(b:List AV){L:List Leaf}(h:Zc regs ids a b=some L)(hL:∀x∈L,x.ok):leL regs ids a b:=by
 cases b with
 |nil=>
  unfold Zc at h;split at h
  .exact BQ7
  cases h
 |cons y s=>
  unfold Zc at h;split at h
  .split at h
   .rename_i l m h1 c;cases h;obtain⟨d,f⟩:=VB hL;exact BA1 (Ao6 y h1 d) (IQ s c f)
   cases h
  cases h
end
theorem AW8 {regs:F5}{ids:List (Nat×Nat)}{env:Env}:∀(t:Env) {L:List Leaf},BE2 regs ids env t=some L->(∀x∈L,x.ok)->Vb regs ids env t
 |[],_,_,_=>trivial
 |(t,b)::r,L,h,hL=>by
  simp only[BE2]at h;split at h
  .rename_i l m h1 a;cases h;obtain⟨c,d⟩:=VB hL;exact⟨Ao6 b h1 c,AW8 r a d⟩
  cases h
theorem BE5 {regs:F5}{ids:List (Nat×Nat)}{o p:Obj}{L:List Leaf}(h:Zd regs ids o p=some L)(hL:∀x∈L,x.ok):leO regs ids o p:=by
 cases p with
 |cells cs=>
  simp only[Zd]at h;split at h
  .exact BA2 (IQ cs h hL)
  cases h
 |vec e k n f vw=>
  simp only[Zd]at h;split at h
  .split at h
   .rename_i d;obtain⟨rfl,rfl,j⟩:=d;cases h;obtain⟨rfl,h1⟩:=hL _ (Cy0.2 rfl);exact⟨_,_,rfl,h1,j⟩
   cases h
  cases h
 |map es=>
  simp only[Zd]at h;split at h
  .cases h
   have:=hL _ (Cy0.2 rfl)
   simp only[Leaf.ok]at this;subst this;rfl
  cases h
 |arr n f=>
  simp only[Zd]at h;split at h
  .cases h;obtain⟨rfl,h1⟩:=hL _ (Cy0.2 rfl);exact⟨_,rfl,fun i l=>by simpa using h1 i l⟩
  cases h
 |ghost cs=>
  simp only[Zd]at h;split at h
  .exact⟨_,rfl,IQ cs h hL⟩
  cases h
 |yld r b=>
  simp only[Zd]at h;split at h
  .cases h;obtain⟨rfl,rfl⟩:=hL _ (Cy0.2 rfl);rfl
  cases h
 |fam e n jr x=>
  simp only[Zd]at h;split at h
  .split at h
   .rename_i m;obtain⟨rfl,c⟩:=m;split at h
    .cases h;have a:=hL _ (Cx9 ..);simp only[Leaf.ok]at a;subst a;exact⟨_,_,rfl,c,rfl⟩
    .split at h
     .rename_i hn hl;cases h;have a:=hL _ (Cx9 ..);have h1:=hL _ (Cn4 _ (Cx9 ..));simp only[Leaf.ok]at a h1;subst a h1;exact⟨_,_,rfl,c,_,rfl,hn,Ao6 _ hl fun x hx=>hL x (by simp[hx])⟩
     cases h
    cases h
   cases h
  cases h
 |rows n g=>
  simp only[Zd]at h;split at h
  .cases h;have a:=hL _ (Cx9 ..);simp only[Leaf.ok]at a;subst a;exact⟨_,rfl,hL (.ob _ _ _) (by simp)⟩
  cases h
 |dead=>trivial
theorem AW9 {regs:F5}{ids:List (Nat×Nat)}:∀(t:F5) {L:List Leaf},BE3 regs ids t=some L->(∀x∈L,x.ok)->Aw6 regs ids t
 |[],_,_,_=>trivial
 |(j,p)::r,L,h,hL=>by
  simp only[BE3]at h;split at h
  .rename_i l m h1 c;cases h;obtain⟨b,d⟩:=VB hL;refine⟨?_,AW9 r c d⟩;split at h1
   .rename_i i a;split at h1
    .rename_i o f;exact .inl ⟨i,o,a,f,BE5 h1 b⟩
    cases h1
   rename_i a;split at h1
   .cases h1;obtain⟨rfl,_⟩:=b _ (Cy0.2 rfl);exact .inr ⟨a,_,_,_,_,rfl⟩
   cases h1
  cases h
theorem BM7 {ids:List (Nat×Nat)}{s t:St}{L:List Leaf}(h:leK ids s t=some L)(hL:∀x∈L,x.ok):Le ids s t:=by
 unfold leK at h;split at h
 .rename_i hw;split at h
  .rename_i l m h1 a;cases h;obtain⟨b,c⟩:=VB hL;exact le_mk hw (AW8 _ h1 b) (AW9 _ a c)
  cases h
 cases h
theorem kle {ids:List (Nat×Nat)}{s t:St}(h:(leK ids s t).map (·.map Leaf.src)=(leK ids s t).map (·.map Leaf.tgt):=by kernel_rfl)(h1:(leK ids s t).isSome=true:=by kernel_rfl):Le ids s t:=by
 obtain⟨L,hL⟩:=Co0.1 h1;rw[hL]at h;simp only[Cm8,Cl5]at h;refine BM7 hL fun x hx=>?_;obtain⟨i,a,rfl⟩:=CB3.1 hx
 have:=congrArg (·[i]?) h
 simp only[Cm1,Cl7 a,Cm8,Cl5]at this;exact Leaf.ok_of this
def Cf6 (is:List Nat)(f:Leaf->LV)(L:List Leaf):List (Option LV):=L.zipIdx.map fun q=>if is.contains q.2 then none else some (f q.1)
theorem kleR {ids:List (Nat×Nat)}{s t:St}(rs:List (Nat×Leaf))(d:∀q∈rs,q.2.ok)(h:(leK ids s t).map (Cf6 (rs.map (·.1)) Leaf.src)=(leK ids s t).map (Cf6 (rs.map (·.1)) Leaf.tgt):=by kernel_rfl)
 (a:(leK ids s t).map (fun L=>rs.map fun q=>L[q.1]?)=some (rs.map fun q=>some q.2):=by kernel_rfl):Le ids s t:=by
 cases hL:leK ids s t with
 |none=>rw[hL]at a;cases a
 |some L=>
  rw[hL]at h a;simp only[Cm8,Cl5]at h a;refine BM7 hL fun x hx=>?_;obtain⟨i,b,rfl⟩:=CB3.1 hx;by_cases hm:(rs.map (·.1)).contains i=true
  .simp only[Cq5,decide_eq_true_eq,Cp2]at hm;obtain⟨q,c,rfl⟩:=hm;obtain⟨k,hk,rfl⟩:=CB3.1 c
   have:=congrArg (·[k]?) a
   simp only[Cm1,Cl7 hk,Cm8,Cl5,Cl7 b]at this;rw[this];exact d _ c
  have:=congrArg (·[i]?) h
  simp only[Cf6,Cm1,List.getElem?_zipIdx,Cl7 b,Cm8,Cp5,hm,Cl5]at this;exact Leaf.ok_of (by simpa using this)
end
section
variable {P:Program}
variable {S:W1}{F:O8}{g:Cfg}{pr:Prop}
theorem HM (hS:H9 S P)(hc:pr)(h:G S P F (stp P g))(hp:pr=G1 (cnd P g):=by kernel_rfl):G S P F g:=
 (Or (F:=F) hS 400 [] g (by subst hp;exact hc)).2 h
theorem Cf7 (hS:H9 S P)(hc:pr){b:Bool}(ht:b=true->G S P F (BT0 (stp P g)))(a:b=false->G S P F (BT1 (stp P g)))(hp:pr=G1 (cnd P g):=by kernel_rfl)(hb:BD9 (stp P g)=some b:=by kernel_rfl):G S P F g:=by
 refine HM hS hc ?_ hp;generalize stp P g=g' at hb ht a;unfold BD9 at hb;split at hb
 .split at hb
  .rename_i hc;cases hb;exact Cd1 hc ht a
  cases hb
 cases hb
theorem BT6 (hS:H9 S P)(hc:pr){b:Bool}(ht:b=true->G S P F (VA true (stp P g)))(a:b=false->G S P F (VA false (stp P g)))(hp:pr=G1 (cnd P g):=by kernel_rfl)(hb:AW7 (stp P g)=some b:=by kernel_rfl):G S P F g:=by
 refine HM hS hc ?_ hp;generalize stp P g=g' at hb ht a;unfold AW7 at hb;split at hb
 .split at hb
  .rename_i d;split at hb
   .rename_i f;split at hb
    .rename_i c;cases hb;simp only[VA,d,f,OA,put]at ht a;exact BQ3 hS d f c ht a
    cases hb
   cases hb
  cases hb
 cases hb
theorem Cf8 (hS:H9 S P)(ids:List Nat)(hc:pr){fn:FuncId}{args:List AV}{objs objs' : List Obj}{r:AV}{ks:List Bool}(i:FunO S fn args objs r objs' ks)
 (hk:G S P F (BE0 ids ks r objs' (stp P g))) (hp:pr=G1 (cnd P g):=by kernel_rfl) (a:Bf6 ids (stp P g)=some (fn,args,objs):=by kernel_rfl) (hn:Bf7 ids ks objs'.length (stp P g)=true:=by kernel_rfl):G S P F g:=by
 refine HM hS hc ?_ hp;generalize stp P g=g' at a hn hk;unfold Bf6 at a;split at a
 .split at a
  .rename_i j f;split at a
   .rename_i c;split at a
    .rename_i ha;split at a
     .rename_i hw;split at a
      .rename_i l d;split at a
       .rename_i b;cases a;simp only[Cl8]at b;simp only[BE0,Bf7,f,ha,OA]at hk hn;exact BQ4 hS ids j f c ha hw l d i b.1 b.2 hn hk
       cases a
      cases a
     cases a
    cases a
   cases a
  cases a
 cases a
theorem BE6 (hS:H9 S P)(hc:pr){kt e:TypeId}{key:PV}{es:List (PV×PV)}{x:PV}{b:Bool}{fd:Option PV}
 (j:find (QX P kt) key es=some fd) (c:G1 (QY P kt))
 (hk:G S P F (BT3 x b (stp P g))) (hp:pr=G1 (cnd P g):=by kernel_rfl) (a:BT2 P (stp P g)=some ⟨kt,e,key,es⟩:=by kernel_rfl) (hx:BE1 P e fd=some (x,b):=by kernel_rfl):G S P F g:=by
 refine HM hS hc ?_ hp;generalize stp P g=g' at a hk;unfold BT2 at a;split at a
 .split at a
  .rename_i l f;split at a
   .rename_i i hm;split at a
    .rename_i m ht;split at a
     .rename_i d;simp only[Cl5,LookI.mk.injEq]at a;obtain⟨rfl,rfl,rfl,rfl⟩:=a;simp only[BT3,f,i,OA]at hk;cases fd with
      |some y=>exact AW5 (fd:=some y) hS l f i hm m ht d j hx c hk
      |none=>exact AW5 (fd:=none) hS l f i hm m ht d j hx c hk
     cases a
    cases a
   cases a
  cases a
 cases a
theorem BE7 (hS:H9 S P)(hc:pr){kt:TypeId}{key y:PV}{es es' : List (PV×PV)}
 (j:upd (QX P kt) key y es=some es') (b:G1 (QY P kt)) (hk:G S P F (updK es' (stp P g))) (hp:pr=G1 (cnd P g):=by kernel_rfl) (a:updE P (stp P g)=some (kt,key,y,es):=by kernel_rfl):G S P F g:=by
 refine HM hS hc ?_ hp;generalize stp P g=g' at a hk;unfold updE at a;split at a
 .split at a
  .rename_i l d;split at a
   .rename_i h1 f i;split at a
    .rename_i m ht;split at a
     .rename_i c;simp only[Cl5,Cm7]at a;obtain⟨rfl,rfl,rfl,rfl⟩:=a;simp only[updK,d,f,i,OA]at hk;exact AM2 hS l d h1 i f m ht c j b hk
     cases a
    cases a
   cases a
  cases a
 cases a
theorem Cf9 (hS:H9 S P)(hc:pr)(st:St){ids:List (Nat×Nat)}(hk:G S P F (opsS st (stp P g)))(hp:pr=G1 (cnd P g):=by kernel_rfl)(a:OB (stp P g)=true:=by kernel_rfl)(hle:Le ids (stp P g).st st:=by exact kle):G S P F g:=by
 refine HM hS hc ?_ hp;generalize stp P g=g' at a hle hk;unfold OB at a;split at a
 .exact Bp4 hS st ids hle hk
 cases a
end
section
variable {S:W1}{P:Program}{F:O8}{g:Cfg}{pr:Prop}
theorem Px (hS:H9 S P){K1 K2:List It}(h:∀e s,kp S P K1 F e s->kp S P K2 F e s):∀(K:List It) (e:UX) (s:St),kp S P (K++K1) F e s->kp S P (K++K2) F e s
 |[],e,s,hk=>h e s hk
 |.code c::K,e,s,hk=>by simp only[Cq3,kp]at hk⊢;exact Ao4 hS (fun t=>Ds hS c (Px hS h K)) (Px hS h K) e s hk
 |.blk id::K,e,s,hk=>by
  simp only[Cq3,kp]at hk⊢;cases e with
  |exit i=>
   simp only[blk]at hk⊢;split at hk
   .rename_i a;rw[Il a];exact Px hS h K _ _ hk
   rename_i a;rw[Ix a];exact Px hS h K _ _ hk
  |_=>exact Px hS h K _ _ hk
 |.lp X s' J m n::K,e,s,hk=>by
  simp only[Cq3,kp]at hk⊢;cases e with
  |normal=>exact hk
  |_=>exact Px hS h K _ _ hk
 |.mid M::K,e,s,hk=>by simp only[Cq3,kp]at hk⊢;exact Ao4 hS (fun t h=>h) (Px hS h K) e s hk
 |.scp::K,e,s,hk=>by
  simp only[Cq3,kp]at hk⊢;cases e with
  |goto l=>exact hk
  |_=>exact Px hS h K _ _ hk
theorem AX0 (M:It):∀(n:Nat) (K:List It),n<=K.length->AA0 M n K=K.take n++M::K.drop n
 |0,K,_=>by simp[AA0]
 |n+1,i::K,h=>by simp only[AA0,CC1,List.drop_succ_cons,Cq3,AX0 M n K (by simpa using h)]
 |n+1,[],h=>by simp at h
theorem BM8 (hS:H9 S P)(a:∀s,S.up s (F .normal)->F .normal s)(n:Nat)(hn:n<=g.k.length){M:St->Prop}(b:∀t,M t->G S P F (.pop .normal (g.k.drop n) t))(h:G S P F (Cf5 n M g)):G S P F g:=by
 have hk:∀e s,kp S P (AA0 (.mid M) n g.k) F e s->kp S P g.k F e s:=by
  intro e s;rw[AX0 _ _ _ hn]
  conv=>rhs;rw[<- CD0 n g.k]
  exact Px hS (Cf0 hS a b) _ e s
 cases g with
 |code c K st=>exact Ds hS c hk h
 |ops all rest K st=>exact KA hS hk rest h
 |pop e K st=>exact hk e st h
theorem J_cut (hS:H9 S P)(hc:pr)(b:∀s,S.up s (F .normal)->F .normal s)(n:Nat)(s:St)
 (h1:∀(M:St->Prop),(∀(g' : Cfg) (ids:List (Nat×Nat)) (pr:Prop),pr->(hp:pr=G1 (cnd P g'):=by kernel_rfl)->(a:stp P g' = .pop .normal (.mid M::(stp P g).k.drop n) (stp P g').st:=by kernel_rfl)->(hle:Le ids (stp P g').st s:=by exact kle)->G S P F g')->G S P F (Cf5 n M (stp P g)))
 (c:G S P F (.pop .normal ((stp P g).k.drop n) s)) (hp:pr=G1 (cnd P g):=by kernel_rfl) (hn:Nat.ble n (stp P g).k.length=true:=by kernel_rfl):G S P F g:=by
 refine HM hS hc ?_ hp;refine BM8 hS b n (Ct2 hn) (M:=fun t=>t=s) (fun t ht=>by subst ht;exact c) (h1 _ fun g' ids pr hc hp a hle=>?_);refine HM hS hc ?_ hp;rw[a];exact hS.le ids _ _ _ hle rfl
theorem J_lt (hS:H9 S P)(hc:pr)(c:∀s,S.up s (F .normal)->F .normal s){R A:Type}{f:(A->Option R)->Option R}{k0:A->Option R}{r:R}(h:lt k0 f=some r)(n:Nat)(s:A->St)
 (h1:∀(M:St->Prop) (k:A->Option R),(∀(g' : Cfg) (ids:List (Nat×Nat)) (pr:Prop) (a:A),pr->k a=some r->(hp:pr=G1 (cnd P g'):=by kernel_rfl)->(b:stp P g' = .pop .normal (.mid M::(stp P g).k.drop n) (stp P g').st:=by kernel_rfl)->(hle:Le ids (stp P g').st (s a):=by exact kle)->G S P F g')->f k=some r->G S P F (Cf5 n M (stp P g)))
 (d:∀a,k0 a=some r->G S P F (.pop .normal ((stp P g).k.drop n) (s a))) (hp:pr=G1 (cnd P g):=by kernel_rfl) (hn:Nat.ble n (stp P g).k.length=true:=by kernel_rfl):G S P F g:=by
 refine HM hS hc ?_ hp;refine BM8 hS c n (Ct2 hn) (M:=fun t=>∃a,t=s a/\k0 a=some r) (fun t ⟨a,ht,hk⟩=>by subst ht;exact d a hk) (h1 _ k0 (fun g' ids pr a hc hk hp b hle=>?_) h);refine HM hS hc ?_ hp;rw[b];exact hS.le ids _ _ _ hle ⟨a,rfl,hk⟩
theorem AM6 {g:Cfg}(h:Na g=true):g=.code (.loop (Ao5 g)) g.k g.st:=by
 unfold Na at h;split at h
 .rfl
 cases h
theorem Cg0 (hS:H9 S P)(hc:pr){R A:Type}{body:(A->Option R)->A->Option R}{N:Nat}{a0:A}{r:R}(h:T9 N body a0=some r)(s:A->St){ids:List (Nat×Nat)}
 (i:∀(X:Type) (s' : X->St) (J:X->Prop) (m:X->Nat) (n:Nat) (b:A->Option R) (a:A),
  (∀(g' : Cfg) (ids:List (Nat×Nat)) (pr:Prop) (a:A),pr->b a=some r->(hp:pr=G1 (cnd P g'):=by kernel_rfl)->(f:stp P g' = .pop .normal (.lp X s' J m n::(stp P g).k) (stp P g').st:=by kernel_rfl)->(hle:Le ids (stp P g').st (s a):=by exact kle)->G S P F g') ->
  body b a=some r->G S P F (.code (Ao5 (stp P g)) (.lp X s' J m n::(stp P g).k) (s a))) (hp:pr=G1 (cnd P g):=by kernel_rfl) (hl:Na (stp P g)=true:=by kernel_rfl) (hle:Le ids (stp P g).st (s a0):=by exact kle):G S P F g:=by
 refine HM hS hc ?_ hp;rw[AM6 hl];refine Cf1 hS h s ids hle fun X s' J m n b a hb c=>i X s' J m n b a (fun g' ids pr a hc d hp f hle=>?_) c;refine HM hS hc ?_ hp;rw[f];exact hb _ _ _ hle d
def AM7 (P:Program)(st:St)(rs:List ResultVar)(outs:List Nat):Option (AV×List Obj):=match Kw P st rs with
 |some l=>match Av8 outs (one l),O9 outs st.regs outs with
  |some a,some o=>if J0 outs then some (a,o)else none
  |_,_=>none
 |none=>none
theorem J_ret (hS:H9 S P)(hc:pr){n:Nat}{rs:List ResultVar}{Q:UY->List Obj->List Bool->Prop}{a:AV}{objs:List Obj}(outs:List Nat)(c:Q (.ret a) objs (Jt n outs))(hp:pr=G1 (cnd P g):=by kernel_rfl)(d:(BT4 (stp P g)).bind (fun st=>AM7 P st rs outs)=some (a,objs):=by kernel_rfl) :G S P (EI S P n rs Q) g:=by
 refine HM hS hc ?_ hp;generalize stp P g=g' at d;obtain⟨st,h1,b⟩:=CC2.1 d;unfold AM7 at b;split at b
 .rename_i l hl;split at b
  .rename_i f i;split at b
   .rename_i j;cases b;unfold BT4 at h1;split at h1
    .cases h1;exact hS.refl _ _ ⟨l,outs,a,objs,hl,j,f,i,c⟩
    .cases h1;exact hS.refl _ _ ⟨l,outs,a,objs,hl,j,f,i,c⟩
    cases h1
   cases b
  cases b
 cases b
theorem Cg1 (hS:H9 S P)(hc:pr){n:Nat}{rs:List ResultVar}{Q:UY->List Obj->List Bool->Prop}{a:AV}{objs:List Obj}(st:St)(outs:List Nat){ids:List (Nat×Nat)}(f:Q (.ret a) objs (Jt n outs))(hp:pr=G1 (cnd P g):=by kernel_rfl)(c:(BT4 (stp P g)).isSome=true:=by kernel_rfl)(hle:Le ids (stp P g).st st:=by exact kle)(d:AM7 P st rs outs=some (a,objs):=by kernel_rfl) :G S P (EI S P n rs Q) g:=by
 refine HM hS hc ?_ hp;generalize stp P g=g' at c hle;have b:=d;unfold AM7 at b;split at b
 .rename_i l hl;split at b
  .rename_i d i;split at b
   .rename_i j;cases b;unfold BT4 at c;split at c
    .exact hS.le ids _ _ _ hle ⟨l,outs,a,objs,hl,j,d,i,f⟩
    .exact hS.le ids _ _ _ hle ⟨l,outs,a,objs,hl,j,d,i,f⟩
    cases c
   cases b
  cases b
 cases b
theorem BT7 (hS:H9 S P){f:FuncId}{fn:Func}{args:List AV}{objs objs' : List Obj}{ks:List Bool}{r:AV}(d:P.funcs[f]? = some fn)
 (h:G S P (EI S P objs.length fn.results.toList fun res o k=>res=.ret r/\o=objs' /\ k=ks) (.code (fn.body.getD .skip) [] { env:=argEnv args,regs:=objRegs objs }))
 (hc:fn.body.isSome=true:=by kernel_rfl) (hn:Nat.ble args.length fn.ntmps=true:=by kernel_rfl) (g:Nat.blt objs.length 1000=true:=by kernel_rfl)
 (b:Cs fn.ntmps (fn.body.getD .skip)=true:=by kernel_rfl) (c:(fn.name == "runtime.NumGoroutine")=false:=by kernel_rfl):FunO S f args objs r objs' ks:=by
 obtain⟨code,a⟩:=Co0.1 hc;rw[a,Cm5]at b h;exact Bm2 hS d a (Ct2 hn) (by simpa[CD3]using g) rfl b c h
theorem al0:∀q∈([]:List (Nat×Leaf)),q.2.ok:=fun _ h=>by cases h
theorem al1 {i:Nat}{l:Leaf}{rs:List (Nat×Leaf)}(h:l.ok)(t:∀q∈rs,q.2.ok):∀q∈(i,l)::rs,q.2.ok:=fun q a=>by
 rcases Co1.1 a with rfl|a
 .exact h
 exact t q a
structure SC where
 all:List Oper
 cls:List Cls
 rest:List Oper
 env:Env
 regs:F5
 kn:List Nat
def SG (S:W1)(P:Program)(sc:SC)(k:Env->F5->Prop):Prop:=QV S P sc.all sc.cls sc.rest sc.env sc.regs k
def FU (P:Program)(sc:SC):SC:=match YW P sc.kn sc.all sc.cls sc.rest [] sc.env sc.regs with
 |⟨_,cls,rest,env,regs⟩=>⟨sc.all,cls,rest,env,regs,sc.kn⟩
def AJ7 (P:Program)(sc:SC):List Prop:=(YW P sc.kn sc.all sc.cls sc.rest [] sc.env sc.regs).conds
def FV:Cfg->Bool
 |.code (.region _ _ true) _ _=>true
 |_=>false
def KC:Cfg->SC
 |.code (.region _ ops true) _ st=>⟨ops.toList,ops.toList.map fun o=>Ck4 o.op,ops.toList,st.env,st.regs,[]⟩
 |_=>⟨[],[],[],[],[],[]⟩
theorem BT8 (hS:H9 S P)(hc:pr)
 (h:SG S P (KC (stp P g)) fun env regs=>G S P F (.pop .normal (stp P g).k ⟨env,regs⟩)) (hp:pr=G1 (cnd P g):=by kernel_rfl) (c:FV (stp P g)=true:=by kernel_rfl) (a:P.follows .mixedOrders=true:=by kernel_rfl) (b:Vw (KC (stp P g)).all (KC (stp P g)).cls=true:=by kernel_rfl):G S P F g:=by
 refine HM hS hc ?_ hp;generalize stp P g=g' at c b h;unfold FV at c;split at c
 .exact BD2 hS a rfl b h
 cases c
section
variable {sc:SC}{k:Env->F5->Prop}
theorem BT9 (hc:pr)(h:SG S P (FU P sc) k)(hp:pr=G1 (AJ7 P sc):=by kernel_rfl):SG S P sc k:=by subst hp;unfold FU at h;unfold AJ7 at hc;unfold SG at *;generalize a:YW P sc.kn sc.all sc.cls sc.rest [] sc.env sc.regs=r at h hc;obtain⟨c,cls,rest,env,regs⟩:=r;exact s_go a hc h
theorem C_end (hc:pr)(h:k (FU P sc).env (FU P sc).regs)(hp:pr=G1 (AJ7 P sc):=by kernel_rfl)(a:(FU P sc).rest.isEmpty=true:=by kernel_rfl):SG S P sc k:=by
 refine BT9 hc ?_ hp;generalize FU P sc=s at a h;obtain⟨all,cls,rest,env,regs,kn⟩:=s;cases rest with
 |nil=>exact s_end h
 |cons=>simp at a
def BU0 {R:Type _}(d:Option Nat)(a:AV)(env:Env)(regs:F5)(κ : Env->F5->R):R:=match d with
 |some d=>mkO (ins d a env) regs κ
 |none=>mkO env regs κ
theorem Rl {R:Type _}(d:Option Nat)(a:AV)(env:Env)(regs:F5)(κ : Env->F5->R):BU0 d a env regs κ = κ (Vx d a env) regs:=by cases d<;>simp only[BU0,HL,Vx]
theorem BM9:∀{env:Env}{i d:Nat}{b:AV},Bz5 ((i,b)::env)=true->get env d ≠ .top->d<i
 |[],_,_,_,_,h=>Kh rfl h
 |(j,c)::r,i,d,b,hd,h=>by
  simp only[Bz5,Cl8,decide_eq_true_eq]at hd;by_cases e:j=d
  .subst e;exact hd.1
  simp only[get,e,Rn]at h;exact Nat.lt_trans (BM9 hd.2 h) hd.1
theorem Ao7:∀{env:Env}{d:Nat}{a:AV},Bz5 env=true->get env d=a->a ≠ .top->ins d a env=env
 |[],_,_,_,h,hn=>Kh h.symm hn
 |(i,b)::r,d,a,hd,h,hn=>by
  by_cases e:i=d
  .subst e;simp only[get,Rm]at h;subst h;simp[ins]
  simp only[get,e,Rn]at h;have c:=BM9 hd (by rw[h];exact hn);have f:Bz5 r=true:=by
   cases r with
   |nil=>rfl
   |cons p r=>simp only[Bz5,Cl8]at hd;exact hd.2
  simp only[ins,show ¬i<d by omega,e,Rn,Ao7 f h hn]
def Ao8 (sc:SC):Option Bool:=match sc.rest with
 |o::_=>match o.guard with
  |some (j,_)=>match Cd2 sc.all j with
   |some d=>match get sc.env d with
    |.p (.bb b)=>if Bz5 sc.env then some b else none
    |_=>none
   |none=>none
  |none=>none
 |[]=>none
def VC (v:Bool)(sc:SC):SC:=match sc.rest with
 |o::_=>match o.guard with
  |some (j,_)=>match Cd2 sc.all j with
   |some d=>mkO (ins d (.p (.bb v)) sc.env) sc.regs fun env regs=>⟨sc.all,sc.cls,sc.rest,env,regs,j::sc.kn⟩
   |none=>sc
  |none=>sc
 |[]=>sc
theorem BU1 (hc:pr){b:Bool}(ht:b=true->SG S P (VC true (FU P sc)) k)(f:b=false->SG S P (VC false (FU P sc)) k)(hp:pr=G1 (AJ7 P sc))(hb:Ao8 (FU P sc)=some b):SG S P sc k:=by
 refine BT9 hc ?_ hp;generalize FU P sc=s at hb ht f;obtain⟨all,cls,rest,env,regs,kn⟩:=s;cases rest with
 |nil=>simp[Ao8]at hb
 |cons o rest=>
  simp only[Ao8]at hb;split at hb
  .rename_i j w g;split at hb
   .rename_i d i;split at hb
    .rename_i b' a;split at hb
     .rename_i c;simp only[Cl5]at hb;subst hb;simp only[VC,g,i,HL]at ht f;cases b' with
      |true=>have:=ht rfl;rwa [Ao7 c a (by simp)]at this
      |false=>have:=f rfl;rwa [Ao7 c a (by simp)]at this
     cases hb
    cases hb
   cases hb
  cases hb
def AX1 (ids:List Nat)(sc:SC):Option (FuncId×List AV×List Obj):=match sc.rest with
 |o::_=>match Dq sc.all sc.env o,o.op with
  |some true,.call c=>match c.callee with
   |.value f=>match YV sc.regs (c.args.toList.map (aev sc.env))with
    |some (as,regs)=>match Aw4 sc.env f as with
     |some (fn,as')=>match Fn ids as',O9 ids regs ids with
      |some a,some ob=>if J0 ids&&GE ob then some (fn,a,ob)else none
      |_,_=>none
     |none=>none
    |none=>none
   |_=>none
  |_,_=>none
 |[]=>none
def Ai3 (ids:List Nat)(ks:List Bool)(n:Nat)(sc:SC):Bool:=match sc.cls,sc.rest with
 |.w::_,o::_=>match o.op with
  |.call c=>match YV sc.regs (c.args.toList.map (aev sc.env))with
   |some (_,regs)=>Dl regs ids ks (o.dst.getD 0) n
   |none=>false
  |_=>false
 |.b js::_,o::_=>match o.op with
  |.call c=>((c.args.toList.map (aev sc.env)).all Bf0&&ids.isEmpty)&&(((N5 (o.dst.getD 0) ids ks n).all fun q=>js.contains q)&&Dl sc.regs ids ks (o.dst.getD 0) n)
  |_=>false
 |_,_=>false
def AX2 (ids:List Nat)(ks:List Bool)(r:AV)(objs' : List Obj)(sc:SC):SC:=match sc.rest with
 |o::rest=>match o.op with
  |.call c=>match YV sc.regs (c.args.toList.map (aev sc.env))with
   |some (_,regs)=>BU0 o.dst (unA (N5 (o.dst.getD 0) ids ks objs'.length) r) sc.env
    (Aw3 (N5 (o.dst.getD 0) ids ks objs'.length) (N5 (o.dst.getD 0) ids ks objs'.length) objs' (R7 ids ks regs)) fun env regs=>⟨sc.all,sc.cls.tail,rest,env,regs,sc.kn⟩
   |none=>sc
  |_=>sc
 |[]=>sc
theorem Cg2 (ids:List Nat)(hc:pr){fn:FuncId}{args:List AV}{objs objs' : List Obj}{r:AV}{ks:List Bool}(u:FunO S fn args objs r objs' ks)
 (hk:SG S P (AX2 ids ks r objs' (FU P sc)) k) (hp:pr=G1 (AJ7 P sc):=by kernel_rfl) (a:AX1 ids (FU P sc)=some (fn,args,objs):=by kernel_rfl) (hn:Ai3 ids ks objs'.length (FU P sc)=true:=by kernel_rfl):SG S P sc k:=by
 refine BT9 hc ?_ hp;generalize FU P sc=s at a hn hk;obtain⟨all,cls,rest,env,regs,kn⟩:=s;cases rest with
 |nil=>simp[AX1]at a
 |cons o rest=>
  simp only[AX1]at a;split at a
  .rename_i c v g;split at a
   .rename_i i;split at a
    .rename_i ha;split at a
     .rename_i hw;split at a
      .rename_i x j;split at a
       .rename_i d;cases a;simp only[Cl8]at d;cases cls with
        |nil=>simp[Ai3]at hn
        |cons cl cls=>
         cases cl with
         |w=>simp only[Ai3,g,ha]at hn;simp only[AX2,g,ha,Rl,CD6]at hk;exact Bp0 ids (.inl rfl) v g i ha hw x j u d.1 d.2 hn hk
         |b js=>simp only[Ai3,g,Cl8,List.isEmpty_iff]at hn;obtain⟨⟨l,m⟩,n,t⟩:=hn;subst m;have f:=ha;rw[Ri l]at f;simp only[Cl5,Cm7]at f;obtain⟨rfl,rfl⟩:=f;simp only[AX2,g,ha,Rl,CD6]at hk;refine Bp0 [] (.inr ⟨js,rfl,fun q y=>?_⟩) v g i ha hw x j u d.1 d.2 t hk;rw[AW1 (fun h=>y (by simpa using Cn7.1 n q h))];rfl
         |_=>simp[Ai3]at hn
       cases a
      cases a
     cases a
    cases a
   cases a
  cases a
def AX3 (sc:SC):Bool:=match sc.cls,sc.rest with
 |_::_,o::_=>match o.op with
  |.call c=>(c.args.toList.map (aev sc.env)).all Bf0
  |_=>false
 |_,_=>false
def AX4 (sc:SC):Option (FuncId×List AV):=match sc.rest with
 |o::_=>match Dq sc.all sc.env o,o.op with
  |some true,.call c=>match c.callee with
   |.value f=>match Aw4 sc.env f (c.args.toList.map (aev sc.env))with
    |some (fn,as')=>match Fn [] as' with
     |some a=>some (fn,a)
     |none=>none
    |none=>none
   |_=>none
  |_,_=>none
 |[]=>none
def Bp6 (r:AV)(sc:SC):SC:=match sc.rest with
 |o::rest=>BU0 o.dst (unA [] r) sc.env sc.regs fun env regs=>⟨sc.all,sc.cls.tail,rest,env,regs,sc.kn⟩
 |[]=>sc
theorem Cg3 (hc:pr){fn:FuncId}{args:List AV}{r:AV}(f:FunO S fn args [] r [] [])
 (hk:SG S P (Bp6 r (FU P sc)) k) (hp:pr=G1 (AJ7 P sc):=by kernel_rfl) (a:AX4 (FU P sc)=some (fn,args):=by kernel_rfl) (hn:AX3 (FU P sc)=true:=by kernel_rfl):SG S P sc k:=by
 refine BT9 hc ?_ hp;generalize FU P sc=s at a hn hk;obtain⟨all,cls,rest,env,regs,kn⟩:=s;cases rest with
 |nil=>simp[AX4]at a
 |cons o rest=>
  cases cls with
  |nil=>simp[AX3]at hn
  |cons cl cls=>
   simp only[AX4]at a;split at a
   .rename_i c g d;split at a
    .rename_i b;split at a
     .rename_i hw;split at a
      .rename_i i;cases a;simp only[AX3,d]at hn;simp only[Bp6,Rl,CD6]at hk;exact Ce7 g d b hn hw i f hk
      cases a
     cases a
    cases a
   cases a
def IR (P:Program)(sc:SC):Option (List Prop×PV):=match sc.cls,sc.rest with
 |_::_,o::_=>match Dq sc.all sc.env o with
  |some true=>Aw2 P sc.env o.op
  |_=>none
 |_,_=>none
def AM8 (x:PV)(sc:SC):SC:=match sc.rest with
 |o::rest=>BU0 o.dst (.p x) sc.env sc.regs fun env regs=>⟨sc.all,sc.cls.tail,rest,env,regs,sc.kn⟩
 |[]=>sc
theorem BU2 (hc:pr){x:PV}(hk:SG S P (AM8 x (FU P sc)) k)(hp:pr=G1 (AJ7 P sc):=by kernel_rfl)(a:(IR P (FU P sc)).map (·.2)=some x:=by kernel_rfl)(b:((IR P (FU P sc)).map fun q=>G1 q.1)=some (true=true):=by kernel_rfl):SG S P sc k:=by
 refine BT9 hc ?_ hp;generalize FU P sc=s at a b hk;obtain⟨all,cls,rest,env,regs,kn⟩:=s;cases rest with
 |nil=>cases cls<;>simp[IR]at a
 |cons o rest=>
  cases cls with
  |nil=>simp[IR]at a
  |cons cl cls=>
   cases d:Dq all env o with
   |none=>simp[IR,d]at a
   |some bb=>
    cases bb with
    |false=>simp[IR,d]at a
    |true=>
     simp only[IR,d]at a b;cases ha:Aw2 P env o.op with
     |none=>rw[ha]at a;cases a
     |some q=>obtain⟨c,y⟩:=q;rw[ha]at a b;simp only[Cm8,Cl5]at a b;subst a;simp only[AM8,Rl,CD6]at hk;exact BD1 d ha (by rw[b];trivial) hk
def AA1 (P:Program)(sc:SC):Option LookI:=match sc.cls,sc.rest with
 |cl::_,o::_=>match Dq sc.all sc.env o,o.op with
  |some true,.lookup t m q _=>match Hg sc.regs (aev sc.env q),aev sc.env m with
   |some (key,regs),.mref j=>match A7 regs j,tk P t with
    |some (.map es),some (.map kt e)=>if (Kv P kt key&&Bf2 cl sc.env (o.dst.getD 0) o.op) then some ⟨kt,e,key,es⟩else none
    |_,_=>none
   |_,_=>none
  |_,_=>none
 |_,_=>none
def Bp7 (x:PV)(b:Bool)(sc:SC):SC:=match sc.rest with
 |o::rest=>match o.op with
  |.lookup _ _ q ok=>match Hg sc.regs (aev sc.env q)with
   |some (_,regs)=>BU0 o.dst (if ok then .tup [.p x,.bool b]else .p x) sc.env regs fun env regs=>⟨sc.all,sc.cls.tail,rest,env,regs,sc.kn⟩
   |none=>sc
  |_=>sc
 |[]=>sc
theorem BE8 (hc:pr){kt e:TypeId}{key:PV}{es:List (PV×PV)}{x:PV}{b:Bool}{fd:Option PV}
 (j:find (QX P kt) key es=some fd) (g:G1 (QY P kt)) (hk:SG S P (Bp7 x b (FU P sc)) k) (hp:pr=G1 (AJ7 P sc):=by kernel_rfl) (a:AA1 P (FU P sc)=some ⟨kt,e,key,es⟩:=by kernel_rfl) (hx:BE1 P e fd=some (x,b):=by kernel_rfl):SG S P sc k:=by
 refine BT9 hc ?_ hp;generalize FU P sc=s at a hk;obtain⟨all,cls,rest,env,regs,kn⟩:=s;cases rest with
 |nil=>cases cls<;>simp[AA1]at a
 |cons o rest=>
  cases cls with
  |nil=>simp[AA1]at a
  |cons cl cls=>
   simp only[AA1]at a;split at a
   .rename_i l f;split at a
    .rename_i i hm;split at a
     .rename_i m ht;split at a
      .rename_i c;simp only[Cl5,LookI.mk.injEq]at a;obtain⟨rfl,rfl,rfl,rfl⟩:=a;simp only[Cl8]at c;simp only[Bp7,f,i,Rl,CD6]at hk;have d:=c.2;simp only[f]at d;cases fd with
       |some y=>exact AW6 (fd:=some y) l f i hm m ht c.1 j hx g (by rw[f];exact d) hk
       |none=>exact AW6 (fd:=none) l f i hm m ht c.1 j hx g (by rw[f];exact d) hk
      cases a
     cases a
    cases a
   cases a
def AM9 (P:Program)(sc:SC):Option (TypeId×PV×PV×List (PV×PV)):=match sc.cls,sc.rest with
 |.w::_,o::_=>match Dq sc.all sc.env o,o.op with
  |some true,.mapUpdate t m q x=>match aev sc.env q,aev sc.env m,Hg sc.regs (aev sc.env x)with
   |.p key,.mref j,some (y,regs)=>match A7 regs j,tk P t with
    |some (.map es),some (.map kt _)=>if Kv P kt (nP key) then some (kt,nP key,y,es)else none
    |_,_=>none
   |_,_,_=>none
  |_,_=>none
 |_,_=>none
def BU3 (es' : List (PV×PV))(sc:SC):SC:=match sc.rest with
 |o::rest=>match o.op with
  |.mapUpdate _ m _ x=>match aev sc.env m,Hg sc.regs (aev sc.env x)with
   |.mref j,some (_,regs)=>BU0 o.dst Al9 sc.env (ins j (.map es') regs) fun env regs=>⟨sc.all,sc.cls.tail,rest,env,regs,sc.kn⟩
   |_,_=>sc
  |_=>sc
 |[]=>sc
theorem BE9 (hc:pr){kt:TypeId}{key y:PV}{es es' : List (PV×PV)}
 (i:upd (QX P kt) key y es=some es') (b:G1 (QY P kt)) (hk:SG S P (BU3 es' (FU P sc)) k) (hp:pr=G1 (AJ7 P sc):=by kernel_rfl) (a:AM9 P (FU P sc)=some (kt,key,y,es):=by kernel_rfl):SG S P sc k:=by
 refine BT9 hc ?_ hp;generalize FU P sc=s at a hk;obtain⟨all,cls,rest,env,regs,kn⟩:=s;cases rest with
 |nil=>cases cls with
  |nil=>simp[AM9]at a
  |cons cl cls=>cases cl<;>simp[AM9]at a
 |cons o rest=>
  cases cls with
  |nil=>simp[AM9]at a
  |cons cl cls=>
   cases cl with
   |w=>
    simp only[AM9]at a;split at a
    .rename_i j d;split at a
     .rename_i h1 f g;split at a
      .rename_i l ht;split at a
       .rename_i c;simp only[Cl5,Cm7]at a;obtain⟨rfl,rfl,rfl,rfl⟩:=a;simp only[BU3,d,f,g,Rl,CD6]at hk;exact AM5 j d h1 g f l ht c i b hk
       cases a
      cases a
     cases a
    cases a
   |_=>simp[AM9]at a
end
end
structure KG (S:W1) (P:Program) (F:O8) (g:Cfg):Prop where
 out:G S P F g
structure DG (S:W1) (P:Program) (sc:SC) (k:Env->F5->Prop):Prop where
 out:SG S P sc k
structure KLe (ids:List (Nat×Nat)) (s t:St):Prop where
 out:Le ids s t
section
variable {S:W1}{P:Program}{F:O8}{g:Cfg}{pr:Prop}
theorem kl {ids:List (Nat×Nat)}{s t:St}(h:(leK ids s t).map (·.map Leaf.src)=(leK ids s t).map (·.map Leaf.tgt):=by kernel_rfl)(h1:(leK ids s t).isSome=true:=by kernel_rfl):KLe ids s t:=⟨kle h h1⟩
theorem klR {ids:List (Nat×Nat)}{s t:St}(rs:List (Nat×Leaf))(a:∀q∈rs,q.2.ok)(h:(leK ids s t).map (Cf6 (rs.map (·.1)) Leaf.src)=(leK ids s t).map (Cf6 (rs.map (·.1)) Leaf.tgt):=by kernel_rfl)
 (b:(leK ids s t).map (fun L=>rs.map fun q=>L[q.1]?)=some (rs.map fun q=>some q.2):=by kernel_rfl):KLe ids s t:=⟨kleR rs a h b⟩
theorem D1 (hS:H9 S P)(hc:pr){b:Bool}(ht:b=true->KG S P F (BT0 (stp P g)))(a:b=false->KG S P F (BT1 (stp P g)))(hp:pr=G1 (cnd P g):=by kernel_rfl)(hb:BD9 (stp P g)=some b:=by kernel_rfl):KG S P F g:=
 ⟨Cf7 hS hc (fun h=>(ht h).out) (fun h=>(a h).out) hp hb⟩
theorem X9 (hS:H9 S P)(hc:pr){b:Bool}(ht:b=true->KG S P F (VA true (stp P g)))(a:b=false->KG S P F (VA false (stp P g)))(hp:pr=G1 (cnd P g):=by kernel_rfl)(hb:AW7 (stp P g)=some b:=by kernel_rfl):KG S P F g:=
 ⟨BT6 hS hc (fun h=>(ht h).out) (fun h=>(a h).out) hp hb⟩
theorem B6 (hS:H9 S P)(ids:List Nat)(hc:pr){fn:FuncId}{args:List AV}{objs objs' : List Obj}{r:AV}{ks:List Bool}(a:FunO S fn args objs r objs' ks)(hk:KG S P F (BE0 ids ks r objs' (stp P g)))
 (hp:pr=G1 (cnd P g):=by kernel_rfl) (b:Bf6 ids (stp P g)=some (fn,args,objs):=by kernel_rfl) (hn:Bf7 ids ks objs'.length (stp P g)=true:=by kernel_rfl):KG S P F g:=⟨Cf8 hS ids hc a hk.out hp b hn⟩
theorem UN (hS:H9 S P)(hc:pr){kt e:TypeId}{key:PV}{es:List (PV×PV)}{x:PV}{b:Bool}{fd:Option PV}(c:find (QX P kt) key es=some fd)(a:G1 (QY P kt))(hk:KG S P F (BT3 x b (stp P g)))
 (hp:pr=G1 (cnd P g):=by kernel_rfl) (d:BT2 P (stp P g)=some ⟨kt,e,key,es⟩:=by kernel_rfl) (hx:BE1 P e fd=some (x,b):=by kernel_rfl):KG S P F g:=⟨BE6 hS hc c a hk.out hp d hx⟩
theorem Ao9 (hS:H9 S P)(hc:pr){kt:TypeId}{key y:PV}{es es' : List (PV×PV)}(b:upd (QX P kt) key y es=some es')(a:G1 (QY P kt))(hk:KG S P F (updK es' (stp P g)))
 (hp:pr=G1 (cnd P g):=by kernel_rfl) (c:updE P (stp P g)=some (kt,key,y,es):=by kernel_rfl):KG S P F g:=⟨BE7 hS hc b a hk.out hp c⟩
theorem Da (hS:H9 S P)(hc:pr)(st:St){ids:List (Nat×Nat)}(hk:KG S P F (opsS st (stp P g)))(hp:pr=G1 (cnd P g):=by kernel_rfl)(a:OB (stp P g)=true:=by kernel_rfl)(hle:KLe ids (stp P g).st st:=by exact kl):KG S P F g:=
 ⟨Cf9 hS hc st hk.out hp a hle.out⟩
theorem Tm (hS:H9 S P)(hc:pr)(b:∀s,S.up s (F .normal)->F .normal s)(n:Nat)(s:St)
 (h1:∀(M:St->Prop),(∀(g' : Cfg) (ids:List (Nat×Nat)) (pr:Prop),pr->(hp:pr=G1 (cnd P g'):=by kernel_rfl)->(a:stp P g' = .pop .normal (.mid M::(stp P g).k.drop n) (stp P g').st:=by kernel_rfl)->(hle:KLe ids (stp P g').st s:=by exact kl)->KG S P F g')->KG S P F (Cf5 n M (stp P g)))
 (c:KG S P F (.pop .normal ((stp P g).k.drop n) s)) (hp:pr=G1 (cnd P g):=by kernel_rfl) (hn:Nat.ble n (stp P g).k.length=true:=by kernel_rfl):KG S P F g:=
 ⟨J_cut hS hc b n s (fun M hb=>(h1 M fun g' ids pr hc hp a hle=>⟨hb g' ids pr hc hp a hle.out⟩).out) c.out hp hn⟩
theorem Ai (hS:H9 S P)(hc:pr)(c:∀s,S.up s (F .normal)->F .normal s){R A:Type}{f:(A->Option R)->Option R}{k0:A->Option R}{r:R}(h:lt k0 f=some r)(n:Nat)(s:A->St)
 (h1:∀(M:St->Prop) (k:A->Option R),(∀(g' : Cfg) (ids:List (Nat×Nat)) (pr:Prop) (a:A),pr->k a=some r->(hp:pr=G1 (cnd P g'):=by kernel_rfl)->(b:stp P g' = .pop .normal (.mid M::(stp P g).k.drop n) (stp P g').st:=by kernel_rfl)->(hle:KLe ids (stp P g').st (s a):=by exact kl)->KG S P F g')->f k=some r->KG S P F (Cf5 n M (stp P g)))
 (d:∀a,k0 a=some r->KG S P F (.pop .normal ((stp P g).k.drop n) (s a))) (hp:pr=G1 (cnd P g):=by kernel_rfl) (hn:Nat.ble n (stp P g).k.length=true:=by kernel_rfl):KG S P F g:=
 ⟨J_lt hS hc c h n s (fun M k hb i=>(h1 M k (fun g' ids pr a hc hk hp b hle=>⟨hb g' ids pr a hc hk hp b hle.out⟩) i).out) (fun a hk=>(d a hk).out) hp hn⟩
theorem E2 (hS:H9 S P)(hc:pr){R A:Type}{body:(A->Option R)->A->Option R}{N:Nat}{a0:A}{r:R}(h:T9 N body a0=some r)(s:A->St){ids:List (Nat×Nat)}
 (i:∀(X:Type) (s' : X->St) (J:X->Prop) (m:X->Nat) (n:Nat) (b:A->Option R) (a:A),
  (∀(g' : Cfg) (ids:List (Nat×Nat)) (pr:Prop) (a:A),pr->b a=some r->(hp:pr=G1 (cnd P g'):=by kernel_rfl)->(f:stp P g' = .pop .normal (.lp X s' J m n::(stp P g).k) (stp P g').st:=by kernel_rfl)->(hle:KLe ids (stp P g').st (s a):=by exact kl)->KG S P F g') ->
  body b a=some r->KG S P F (.code (Ao5 (stp P g)) (.lp X s' J m n::(stp P g).k) (s a))) (hp:pr=G1 (cnd P g):=by kernel_rfl) (hl:Na (stp P g)=true:=by kernel_rfl) (hle:KLe ids (stp P g).st (s a0):=by exact kl):KG S P F g:=
 ⟨Cg0 hS hc h s (fun X s' J m n b a hb c=>(i X s' J m n b a (fun g' ids pr a hc d hp f hle=>⟨hb g' ids pr a hc d hp f hle.out⟩) c).out) hp hl hle.out⟩
theorem D7 (hS:H9 S P)(hc:pr){R A B:Type}{body:(A->B->Option R)->A->B->Option R}{N:Nat}{a0:A}{b0:B}{r:R}(h:P9 N body a0 b0=some r)(s:A->B->St){ids:List (Nat×Nat)}
 (d:∀(X:Type) (s' : X->St) (J:X->Prop) (m:X->Nat) (n:Nat) (c:A->B->Option R) (a:A) (b:B),
  (∀(g' : Cfg) (ids:List (Nat×Nat)) (pr:Prop) (a:A) (b:B),pr->c a b=some r->(hp:pr=G1 (cnd P g'):=by kernel_rfl)->(o:stp P g' = .pop .normal (.lp X s' J m n::(stp P g).k) (stp P g').st:=by kernel_rfl)->(hle:KLe ids (stp P g').st (s a b):=by exact kl)->KG S P F g') ->
  body c a b=some r->KG S P F (.code (Ao5 (stp P g)) (.lp X s' J m n::(stp P g).k) (s a b))) (hp:pr=G1 (cnd P g):=by kernel_rfl) (hl:Na (stp P g)=true:=by kernel_rfl) (hle:KLe ids (stp P g).st (s a0 b0):=by exact kl):KG S P F g:=
 E2 hS hc h (fun x=>s x.1 x.2) (fun X s' J m n c a hb=>d X s' J m n (fun a b=>c (a,b)) a.1 a.2 fun g' ids pr a b h1 f i j l=>hb g' ids pr (a,b) h1 f i j l) hp hl hle
theorem Cv (hS:H9 S P)(hc:pr){R A B C:Type}{body:(A->B->C->Option R)->A->B->C->Option R}{N:Nat}{a0:A}{b0:B}{c0:C}{r:R}(h:Zb N body a0 b0 c0=some r)(s:A->B->C->St){ids:List (Nat×Nat)}
 (f:∀(X:Type) (s' : X->St) (J:X->Prop) (m:X->Nat) (n:Nat) (d:A->B->C->Option R) (a:A) (b:B) (c:C),
  (∀(g' : Cfg) (ids:List (Nat×Nat)) (pr:Prop) (a:A) (b:B) (c:C),pr->d a b c=some r->(hp:pr=G1 (cnd P g'):=by kernel_rfl)->(q:stp P g' = .pop .normal (.lp X s' J m n::(stp P g).k) (stp P g').st:=by kernel_rfl)->(hle:KLe ids (stp P g').st (s a b c):=by exact kl)->KG S P F g') ->
  body d a b c=some r->KG S P F (.code (Ao5 (stp P g)) (.lp X s' J m n::(stp P g).k) (s a b c))) (hp:pr=G1 (cnd P g):=by kernel_rfl) (hl:Na (stp P g)=true:=by kernel_rfl) (hle:KLe ids (stp P g).st (s a0 b0 c0):=by exact kl):KG S P F g:=
 E2 hS hc h (fun x=>s x.1 x.2.1 x.2.2) (fun X s' J m n d a hb=>f X s' J m n (fun a b c=>d (a,b,c)) a.1 a.2.1 a.2.2 fun g' ids pr a b c h1 i j l o=>hb g' ids pr (a,b,c) h1 i j l o) hp hl hle
theorem Nb (hS:H9 S P)(hc:pr){R A B C D:Type}{body:(A->B->C->D->Option R)->A->B->C->D->Option R}{N:Nat}{a0:A}{b0:B}{c0:C}{d0:D}{r:R}(h:Bf5 N body a0 b0 c0 d0=some r)(s:A->B->C->D->St){ids:List (Nat×Nat)}
 (i:∀(X:Type) (s' : X->St) (J:X->Prop) (m:X->Nat) (n:Nat) (f:A->B->C->D->Option R) (a:A) (b:B) (c:C) (d:D),
  (∀(g' : Cfg) (ids:List (Nat×Nat)) (pr:Prop) (a:A) (b:B) (c:C) (d:D),pr->f a b c d=some r->(hp:pr=G1 (cnd P g'):=by kernel_rfl)->(t:stp P g' = .pop .normal (.lp X s' J m n::(stp P g).k) (stp P g').st:=by kernel_rfl)->(hle:KLe ids (stp P g').st (s a b c d):=by exact kl)->KG S P F g') ->
  body f a b c d=some r->KG S P F (.code (Ao5 (stp P g)) (.lp X s' J m n::(stp P g).k) (s a b c d))) (hp:pr=G1 (cnd P g):=by kernel_rfl) (hl:Na (stp P g)=true:=by kernel_rfl) (hle:KLe ids (stp P g).st (s a0 b0 c0 d0):=by exact kl):KG S P F g:=
 E2 hS hc h (fun x=>s x.1 x.2.1 x.2.2.1 x.2.2.2) (fun X s' J m n f a hb=>i X s' J m n (fun a b c d=>f (a,b,c,d)) a.1 a.2.1 a.2.2.1 a.2.2.2 fun g' ids pr a b c d h1 j l o q=>hb g' ids pr (a,b,c,d) h1 j l o q) hp hl hle
theorem AN0 (hS:H9 S P)(hc:pr){n:Nat}{rs:List ResultVar}{Q:UY->List Obj->List Bool->Prop}{a:AV}{objs:List Obj}(outs:List Nat)(b:Q (.ret a) objs (Jt n outs))(hp:pr=G1 (cnd P g):=by kernel_rfl)
 (c:(BT4 (stp P g)).bind (fun st=>AM7 P st rs outs)=some (a,objs):=by kernel_rfl):KG S P (EI S P n rs Q) g:=⟨J_ret hS hc outs b hp c⟩
theorem A8 (hS:H9 S P)(hc:pr){n:Nat}{rs:List ResultVar}{Q:UY->List Obj->List Bool->Prop}{a:AV}{objs:List Obj}(st:St)(outs:List Nat){ids:List (Nat×Nat)}(b:Q (.ret a) objs (Jt n outs))(hp:pr=G1 (cnd P g):=by kernel_rfl)
 (c:(BT4 (stp P g)).isSome=true:=by kernel_rfl) (hle:KLe ids (stp P g).st st:=by exact kl) (d:AM7 P st rs outs=some (a,objs):=by kernel_rfl):KG S P (EI S P n rs Q) g:=⟨Cg1 hS hc st outs b hp c hle.out d⟩
theorem A1 (hS:H9 S P){f:FuncId}{fn:Func}{args:List AV}{objs objs' : List Obj}{ks:List Bool}{r:AV}(c:P.funcs[f]? = some fn)
 (h:KG S P (EI S P objs.length fn.results.toList fun res o k=>res=.ret r/\o=objs' /\ k=ks) (.code (fn.body.getD .skip) [] { env:=argEnv args,regs:=objRegs objs }))
 (hc:fn.body.isSome=true:=by kernel_rfl) (hn:Nat.ble args.length fn.ntmps=true:=by kernel_rfl) (d:Nat.blt objs.length 1000=true:=by kernel_rfl)
 (a:Cs fn.ntmps (fn.body.getD .skip)=true:=by kernel_rfl) (b:(fn.name == "runtime.NumGoroutine")=false:=by kernel_rfl):FunO S f args objs r objs' ks:=BT7 hS c h.out hc hn d a b
theorem Ec (hS:H9 S P)(hc:pr)(h:DG S P (KC (stp P g)) fun env regs=>KG S P F (.pop .normal (stp P g).k ⟨env,regs⟩))(hp:pr=G1 (cnd P g):=by kernel_rfl)(c:FV (stp P g)=true:=by kernel_rfl)(a:P.follows .mixedOrders=true:=by kernel_rfl)
 (b:Vw (KC (stp P g)).all (KC (stp P g)).cls=true:=by kernel_rfl):KG S P F g:=by
 have e:(fun env regs=>KG S P F (.pop .normal (stp P g).k ⟨env,regs⟩))=fun env regs=>G S P F (.pop .normal (stp P g).k ⟨env,regs⟩):=by funext env regs;exact propext ⟨fun h=>h.out,fun h=>⟨h⟩⟩
 rw[e]at h;exact⟨BT8 hS hc h.out hp c a b⟩
section
variable {sc:SC}{k:Env->F5->Prop}
theorem D9 (hc:pr)(h:k (FU P sc).env (FU P sc).regs)(hp:pr=G1 (AJ7 P sc):=by kernel_rfl)(a:(FU P sc).rest.isEmpty=true:=by kernel_rfl):DG S P sc k:=⟨C_end hc h hp a⟩
theorem AY (hc:pr){b:Bool}(ht:b=true->DG S P (VC true (FU P sc)) k)(a:b=false->DG S P (VC false (FU P sc)) k)(hp:pr=G1 (AJ7 P sc):=by kernel_rfl)(hb:Ao8 (FU P sc)=some b:=by kernel_rfl):DG S P sc k:=
 ⟨BU1 hc (fun h=>(ht h).out) (fun h=>(a h).out) hp hb⟩
theorem Ac (ids:List Nat)(hc:pr){fn:FuncId}{args:List AV}{objs objs' : List Obj}{r:AV}{ks:List Bool}(a:FunO S fn args objs r objs' ks)(hk:DG S P (AX2 ids ks r objs' (FU P sc)) k)
 (hp:pr=G1 (AJ7 P sc):=by kernel_rfl) (b:AX1 ids (FU P sc)=some (fn,args,objs):=by kernel_rfl) (hn:Ai3 ids ks objs'.length (FU P sc)=true:=by kernel_rfl):DG S P sc k:=⟨Cg2 ids hc a hk.out hp b hn⟩
theorem F8 (hc:pr){fn:FuncId}{args:List AV}{r:AV}(a:FunO S fn args [] r [] [])(hk:DG S P (Bp6 r (FU P sc)) k)(hp:pr=G1 (AJ7 P sc):=by kernel_rfl)(b:AX4 (FU P sc)=some (fn,args):=by kernel_rfl)(hn:AX3 (FU P sc)=true:=by kernel_rfl):DG S P sc k:=
 ⟨Cg3 hc a hk.out hp b hn⟩
theorem Aj (hc:pr){x:PV}(hk:DG S P (AM8 x (FU P sc)) k)(hp:pr=G1 (AJ7 P sc):=by kernel_rfl)(b:(IR P (FU P sc)).map (·.2)=some x:=by kernel_rfl)(a:((IR P (FU P sc)).map fun q=>G1 q.1)=some (true=true):=by kernel_rfl):DG S P sc k:=⟨BU2 hc hk.out hp b a⟩
theorem AX5 (hc:pr){kt e:TypeId}{key:PV}{es:List (PV×PV)}{x:PV}{b:Bool}{fd:Option PV}(c:find (QX P kt) key es=some fd)(a:G1 (QY P kt))(hk:DG S P (Bp7 x b (FU P sc)) k)
 (hp:pr=G1 (AJ7 P sc):=by kernel_rfl) (d:AA1 P (FU P sc)=some ⟨kt,e,key,es⟩:=by kernel_rfl) (hx:BE1 P e fd=some (x,b):=by kernel_rfl):DG S P sc k:=⟨BE8 hc c a hk.out hp d hx⟩
theorem BF0 (hc:pr){kt:TypeId}{key y:PV}{es es' : List (PV×PV)}(b:upd (QX P kt) key y es=some es')(a:G1 (QY P kt))(hk:DG S P (BU3 es' (FU P sc)) k)
 (hp:pr=G1 (AJ7 P sc):=by kernel_rfl) (c:AM9 P (FU P sc)=some (kt,key,y,es):=by kernel_rfl):DG S P sc k:=⟨BE9 hc b a hk.out hp c⟩
end
end
end Go.AM
namespace Go.AM
section
variable {S:W1}{P:Program}{F:O8}{g:Cfg}{pr:Prop}
def yldE:Cfg->Option (List PV×List (List PV))
 |.ops all (o::_) _ st=>match DZ all st.env o,o.op with
  |some true,.call c=>match c.callee with
   |.value f=>match aev st.env f,Hz st.regs (c.args.toList.map (aev st.env))with
    |.yf j,some (xs,regs)=>match A7 regs j with
     |some (.yld (ys::rest) true)=>if IJ j regs=true/\xs.length=ys.length then some (xs,ys::rest)else none
     |_=>none
    |_,_=>none
   |_=>none
  |_,_=>none
 |_=>none
def Cg4 (b:Bool)(rest:List (List PV)):Cfg->Cfg
 |.ops all (o::ops) K st=>match o.op with
  |.call c=>match c.callee with
   |.value f=>match aev st.env f,Hz st.regs (c.args.toList.map (aev st.env))with
    |.yf j,some (_,regs)=>BD8 o.dst (.p (.bb b)) st.env (ins j (.yld rest b) regs) fun st=>.ops all ops K st
    |_,_=>.ops all (o::ops) K st
   |_=>.ops all (o::ops) K st
  |_=>.ops all (o::ops) K st
 |g=>g
theorem AA2:∀l:List PV,BP9 l l
 |[]=>trivial
 |x::l=>⟨.inl rfl,AA2 l⟩
theorem BU4 (hS:H9 S P)(hc:pr){ys:List PV}{rest:List (List PV)}(ht:G S P F (Cg4 true rest (stp P g)))(d:G S P F (Cg4 false [] (stp P g)))(hp:pr=G1 (cnd P g))(a:yldE (stp P g)=some (ys,ys::rest)):G S P F g:=by
 refine HM hS hc ?_ hp;generalize stp P g=g' at a ht d;unfold yldE at a;split at a
 .split at a
  .rename_i l i;split at a
   .rename_i c;split at a
    .rename_i hy j;split at a
     .rename_i m;split at a
      .rename_i f;simp only[Cl5,Cm7,Cw8]at a;obtain⟨rfl,rfl,rfl⟩:=a;simp only[Cg4,i,c,hy,j,OA]at ht d;refine BS5 hS l i c hy j m f.1 (AA2 _) fun b=>?_;cases b
       .exact d
       exact ht
      cases a
     cases a
    cases a
   cases a
  cases a
 cases a
theorem FX (hS:H9 S P)(hc:pr){ys:List PV}{rest:List (List PV)}(ht:KG S P F (Cg4 true rest (stp P g)))(a:KG S P F (Cg4 false [] (stp P g)))(hp:pr=G1 (cnd P g):=by kernel_rfl)(b:yldE (stp P g)=some (ys,ys::rest):=by kernel_rfl):KG S P F g:=
 ⟨BU4 hS hc ht.out a.out hp b⟩
def Be {T:Type}(x:T)(o:Option (List T)):Option (List T):=o.map (x :: ·)
theorem VD {T:Type}{x:T}{o:Option (List T)}{L:List T}(h:Be x o=some L):∃L',L=x::L' /\ o=some L':=by simp only[Be,Co4]at h;obtain⟨l,h1,a⟩:=h;exact⟨l,a.symm,h1⟩
theorem IS (hS:H9 S P)(hc:pr){R A:Type}{body:(A->Option R)->A->Option R}{N:Nat}{a0:A}{r0:R}(h:T9 N body a0=some r0)(s:A->R->St){ids:List (Nat×Nat)}
 (f:∀(X:Type) (s' : X->St) (J:X->Prop) (m:X->Nat) (n:Nat) (b:A->Option R) (a:A) (r:R),
  (∀(g' : Cfg) (ids:List (Nat×Nat)) (pr:Prop) (a:A) (r:R),pr->b a=some r->(hp:pr=G1 (cnd P g'):=by kernel_rfl)->(d:stp P g' = .pop .normal (.lp X s' J m n::(stp P g).k) (stp P g').st:=by kernel_rfl)->(hle:KLe ids (stp P g').st (s a r):=by exact kl)->KG S P F g') ->
  body b a=some r->KG S P F (.code (Ao5 (stp P g)) (.lp X s' J m n::(stp P g).k) (s a r))) (hp:pr=G1 (cnd P g):=by kernel_rfl) (hl:Na (stp P g)=true:=by kernel_rfl) (hle:KLe ids (stp P g).st (s a0 r0):=by exact kl):KG S P F g:=by
 refine⟨HM hS hc ?_ hp⟩;rw[AM6 hl];refine Bl9 hS (X:=Nat×A×R) (fun x=>s x.2.1 x.2.2) (fun x=>T9 x.1 body x.2.1=some x.2.2) (fun x=>x.1) (N,a0,r0) ids hle.out h ?_;rintro⟨n,a,r⟩ hx;cases n with
 |zero=>cases hx
 |succ n=>exact (f _ _ _ _ _ (T9 n body) a r (fun g' ids pr a r hc c hp d hle=>⟨HM hS hc (by rw[d];exact Bm0 hS (n,a,r) ids hle.out c (CJ2 n)) hp⟩) hx).out
theorem Ap0 (hS:H9 S P)(hc:pr){R A B:Type}{body:(A->B->Option R)->A->B->Option R}{N:Nat}{a0:A}{b0:B}{r0:R}(h:P9 N body a0 b0=some r0)(s:A->B->R->St){ids:List (Nat×Nat)}
 (d:∀(X:Type) (s' : X->St) (J:X->Prop) (m:X->Nat) (n:Nat) (c:A->B->Option R) (a:A) (b:B) (r:R),
  (∀(g' : Cfg) (ids:List (Nat×Nat)) (pr:Prop) (a:A) (b:B) (r:R),pr->c a b=some r->(hp:pr=G1 (cnd P g'):=by kernel_rfl)->(o:stp P g' = .pop .normal (.lp X s' J m n::(stp P g).k) (stp P g').st:=by kernel_rfl)->(hle:KLe ids (stp P g').st (s a b r):=by exact kl)->KG S P F g') ->
  body c a b=some r->KG S P F (.code (Ao5 (stp P g)) (.lp X s' J m n::(stp P g).k) (s a b r))) (hp:pr=G1 (cnd P g):=by kernel_rfl) (hl:Na (stp P g)=true:=by kernel_rfl) (hle:KLe ids (stp P g).st (s a0 b0 r0):=by exact kl):KG S P F g:=
 IS hS hc h (fun x r=>s x.1 x.2 r) (fun X s' J m n c a r hb=>d X s' J m n (fun a b=>c (a,b)) a.1 a.2 r fun g' ids pr a b r h1 f i j l=>hb g' ids pr (a,b) r h1 f i j l) hp hl hle
theorem IT (hS:H9 S P){f:FuncId}{fn:Func}{first caps:List AV}{objs:List Obj}{L:List (List PV)}(i:P.funcs[f]? = some fn)
 (h:KG S P (EI S P (objs++[Obj.yld L true]).length fn.results.toList fun r objs' ks=>∃b,objs'[objs.length]? = some (.yld [] b)/\ks[objs.length]? = some true/\∃a,r=.ret a) (.code (fn.body.getD .skip) [] { env:=argEnv (first ++ .yf objs.length::caps),regs:=objRegs (objs++[Obj.yld L true]) }))
 (hc:fn.body.isSome=true:=by kernel_rfl) (hn:Nat.ble (first ++ .yf objs.length::caps).length fn.ntmps=true:=by kernel_rfl) (j:Nat.blt (objs++[Obj.yld L true]).length 1000=true:=by kernel_rfl)
 (d:Cs fn.ntmps (fn.body.getD .skip)=true:=by kernel_rfl) (g:(fn.name == "runtime.NumGoroutine")=false:=by kernel_rfl):IN S f first caps objs L:=by
 obtain⟨code,c⟩:=Co0.1 hc;rw[c,Cm5]at d h;exact Rj hS i c (Ct2 hn) (by simpa[CD3]using j) rfl d g h.out
def AA3 (P:Program)(ids:List Nat):Cfg->Option (FuncId×List AV×List AV×List Obj)
 |.code (.rangeFunc op _ _ _) _ st=>match Hh st.env op with
  |some (f,first,caps)=>match P.funcs[f]?,O9 ids st.regs ids,Fn ids first,Fn ids caps with
   |some fn,some objs,some as,some bs=>if (fn.body.isSome && !(fn.name == "runtime.NumGoroutine")&&GE objs&&J0 ids&&(objs.length==ids.length)&&Nat.blt ids.length 1000) then some (f,as,bs,objs)else none
   |_,_,_,_=>none
  |none=>none
 |_=>none
def Nc:Cfg->Array Tmp
 |.code (.rangeFunc _ ps _ _) _ _=>ps
 |_=>#[]
def AA4:Cfg->Code
 |.code (.rangeFunc _ _ a _) _ _=>a
 |_=>.skip
def AA5:Cfg->Code
 |.code (.rangeFunc _ _ _ b) _ _=>b
 |_=>.skip
def AA6 (ids ts:List Nat)(g:Cfg):St:=⟨Bk ts (ts.map (get g.st.env)),R7 ids (ids.map fun _=>false) g.st.regs⟩
def rst (gh:Nat)(t:St):St:=⟨[],ins gh (.ghost (t.env.map (·.2))) t.regs⟩
def AA7 (gh:Nat)(ps:Array Tmp)(ys:List PV)(t:St):St:=⟨Pj ps.toList ys t.env,ins gh (.ghost (t.env.map (·.2))) t.regs⟩
def exitE:Cfg->UX
 |.pop e _ _=>e
 |_=>.normal
def BN0:Cfg->Bool
 |.pop .ret [] _=>true
 |.pop (.exit _) [] _=>true
 |_=>false
theorem Bp8 (regs:F5)(d:Nat)(x:Obj):A7 (ins d x regs) d=some x:=by
 induction regs with
 |nil=>simp[ins,A7]
 |cons p r ih=>
  obtain⟨i,b⟩:=p;simp only[ins];split
  .simp[A7]
  split
  .simp[A7]
  rename_i h1 a;simp only[A7,a,Rn,ih]
theorem KD (gh:Nat)(t:St):A7 (rst gh t).regs gh=some (.ghost (t.env.map fun p=>p.2)):=by unfold rst;exact Bp8 _ _ _
def VE (ids:List Nat):Cfg->Option (FuncId×List AV×List AV×List Obj)
 |.code (.rangeFunc op _ _ _) _ st=>match Hh st.env op with
  |some (f,first,caps)=>match O9 ids st.regs ids,Fn ids first,Fn ids caps with
   |some objs,some as,some bs=>if (GE objs&&J0 ids&&(objs.length==ids.length)&&Nat.blt ids.length 1000) then some (f,as,bs,objs)else none
   |_,_,_=>none
  |none=>none
 |_=>none
theorem MD {ids:List Nat}{g:Cfg}{q:FuncId×List AV×List AV×List Obj}(h:AA3 P ids g=some q):VE ids g=some q/\∃fn,P.funcs[q.1]? = some fn/\fn.body.isSome=true/\(fn.name == "runtime.NumGoroutine")=false:=by
 unfold AA3 at h;split at h
 .split at h
  .rename_i a;split at h
   .rename_i fn objs' as' bs' h1 c d f;split at h
    .rename_i b;cases h;simp only[Cl8,Co5,beq_iff_eq]at b;obtain⟨⟨⟨⟨⟨e1,e2⟩,e3⟩,e4⟩,e5⟩,e6⟩:=b;refine⟨?_,fn,h1,e1,by simpa using e2⟩;simp only[VE,a,c,d,f,e3,e4,e5,e6,beq_self_eq_true,CF8,Rm]
    cases h
   cases h
  cases h
 cases h
theorem Ap1 (hS:H9 S P)(hc:pr){f:FuncId}{as bs:List AV}{objs:List Obj}{R T A:Type}{enc:T->List PV}{L:List T}{mb:(A->Option R)->T->A->Option R}{mk:A->Option R}{a0:A}{r:R}(o:∃fn,P.funcs[f]? = some fn/\fn.body.isSome=true/\(fn.name == "runtime.NumGoroutine")=false)
 (ids ts:List Nat) (gh:Nat) (s:A->St) {idl:List (Nat×Nat)}(h:Q5 L mb mk a0=some r) (x:IN S f as bs objs (L.map enc))
 (i:∀t:T,(enc t).length=(Nc (stp P g)).size) (hk:∀a,(s a).env.map (·.1)=ts) (hn:∀a,A7 (s a).regs gh=none) (m:∀a,(⟨Bk ts ((s a).env.map (·.2)),del gh (ins gh (.ghost ((s a).env.map (·.2))) (s a).regs)⟩:St)=s a)
 (c:∀(t:T) (next:St->Prop) (d:A->Option R) (a:A),
  (∀(g' : Cfg) (ids:List (Nat×Nat)) (pr:Prop) (a:A),pr->d a=some r->(hp:pr=G1 (cnd P g'):=by kernel_rfl)->(b:stp P g' = .pop .normal [] (stp P g').st:=by kernel_rfl)->(hle:KLe ids (stp P g').st (rst gh (s a)):=by exact kl)->KG S P (FL S gh ts next (kp S P (stp P g).k F)) g') ->
  mb d t a=some r->KG S P (Dr S P (AA5 (stp P g)) gh ts next (kp S P (stp P g).k F)) (.code (AA4 (stp P g)) [] (AA7 gh (Nc (stp P g)) (enc t) (s a))))
 (j:∀a,mk a=some r->KG S P F (.pop .normal (stp P g).k (s a)))
 (hp:pr=G1 (cnd P g):=by kernel_rfl) (b:VE ids (stp P g)=some (f,as,bs,objs):=by kernel_rfl) (q:Nat.blt gh 1000=true:=by kernel_rfl) (n:A7 (stp P g).st.regs gh=none:=by kernel_rfl) (u:J0 ts=true:=by kernel_rfl)
 (hle:KLe idl (AA6 ids ts (stp P g)) (s a0):=by exact kl):KG S P F g:=by
 refine⟨HM hS hc ?_ hp⟩;generalize stp P g=g1 at i c j b n hle;unfold VE at b;split at b
 .rename_i op ps asg body K st;split at b
  .rename_i f' first caps v
   split at b
   .rename_i objs' as' bs' y z h4;split at b
    .rename_i w;simp only[Cl5,Cm7]at b;obtain⟨rfl,rfl,rfl,rfl⟩:=b;simp only[Cl8,Co5,beq_iff_eq]at w;obtain⟨⟨⟨e3,e4⟩,e5⟩,e6⟩:=w;refine BS9 hS ids ts gh s idl h x v o y e3 e4 z h4 e5 q n e6 u i hle.out hk hn (fun t next d a hb hm=>?_) (fun a hm=>(j a hm).out);refine (c t next d a (fun g' ids' pr a hc l hp b hle=>⟨HM hS hc ?_ hp⟩) hm).out;rw[b];have hl:((s a).env.map (·.2)).length=ts.length:=by rw[<- hk a];simp
     refine hb _ (rst gh (s a)) ((s a).env.map fun p=>p.2) ids' a hle.out (KD gh (s a)) hl ?_ (m a) l
     have:=congrArg St.regs (m a)
     simp only at this;show A7 (del gh (ins gh _ _)) gh=none;rw[this];exact hn a
    cases b
   cases b
  cases b
 cases b
theorem Hj (hS:H9 S P)(hc:pr){f:FuncId}{as bs:List AV}{objs:List Obj}{R T A:Type}{enc:T->List PV}{L:List T}{mb:(A->Option R)->T->A->Option R}{mk:A->Option R}{a0:A}{r:R}
 (ids ts:List Nat) (gh:Nat) (s:A->St) {idl:List (Nat×Nat)}(h:Q5 L mb mk a0=some r) (q:IN S f as bs objs (L.map enc))
 (d:∀t:T,(enc t).length=(Nc (stp P g)).size) (hk:∀a,(s a).env.map (·.1)=ts) (hn:∀a,A7 (s a).regs gh=none) (j:∀a,(⟨Bk ts ((s a).env.map (·.2)),del gh (ins gh (.ghost ((s a).env.map (·.2))) (s a).regs)⟩:St)=s a)
 (b:∀(t:T) (next:St->Prop) (c:A->Option R) (a:A),
  (∀(g' : Cfg) (ids:List (Nat×Nat)) (pr:Prop) (a:A),pr->c a=some r->(hp:pr=G1 (cnd P g'):=by kernel_rfl)->(l:stp P g' = .pop .normal [] (stp P g').st:=by kernel_rfl)->(hle:KLe ids (stp P g').st (rst gh (s a)):=by exact kl)->KG S P (FL S gh ts next (kp S P (stp P g).k F)) g') ->
  mb c t a=some r->KG S P (Dr S P (AA5 (stp P g)) gh ts next (kp S P (stp P g).k F)) (.code (AA4 (stp P g)) [] (AA7 gh (Nc (stp P g)) (enc t) (s a))))
 (i:∀a,mk a=some r->KG S P F (.pop .normal (stp P g).k (s a)))
 (hp:pr=G1 (cnd P g):=by kernel_rfl) (l:AA3 P ids (stp P g)=some (f,as,bs,objs):=by kernel_rfl) (m:Nat.blt gh 1000=true:=by kernel_rfl) (n:A7 (stp P g).st.regs gh=none:=by kernel_rfl) (o:J0 ts=true:=by kernel_rfl)
 (hle:KLe idl (AA6 ids ts (stp P g)) (s a0):=by exact kl):KG S P F g:=
 Ap1 hS hc (MD l).2 ids ts gh s h q d hk hn j b i hp (MD l).1 m n o hle
theorem Bp9 (hS:H9 S P)(hc:pr){f:FuncId}{as bs:List AV}{objs:List Obj}{R T A:Type}{enc:T->List PV}{L:List T}{mb:(A->Option R)->T->A->Option R}{mk:A->Option R}{a0:A}{r0:R}(o:∃fn,P.funcs[f]? = some fn/\fn.body.isSome=true/\(fn.name == "runtime.NumGoroutine")=false)
 (ids ts:List Nat) (gh:Nat) (s:A->R->St) {idl:List (Nat×Nat)}(h:Q5 L mb mk a0=some r0) (x:IN S f as bs objs (L.map enc))
 (i:∀t:T,(enc t).length=(Nc (stp P g)).size) (hk:∀a r,(s a r).env.map (·.1)=ts) (hn:∀a r,A7 (s a r).regs gh=none) (m:∀a r,(⟨Bk ts ((s a r).env.map (·.2)),del gh (ins gh (.ghost ((s a r).env.map (·.2))) (s a r).regs)⟩:St)=s a r)
 (c:∀(t:T) (next:St->Prop) (d:A->Option R) (a:A) (r:R),
  (∀(g' : Cfg) (ids:List (Nat×Nat)) (pr:Prop) (a:A) (r:R),pr->d a=some r->(hp:pr=G1 (cnd P g'):=by kernel_rfl)->(b:stp P g' = .pop .normal [] (stp P g').st:=by kernel_rfl)->(hle:KLe ids (stp P g').st (rst gh (s a r)):=by exact kl)->KG S P (FL S gh ts next (kp S P (stp P g).k F)) g') ->
  mb d t a=some r->KG S P (Dr S P (AA5 (stp P g)) gh ts next (kp S P (stp P g).k F)) (.code (AA4 (stp P g)) [] (AA7 gh (Nc (stp P g)) (enc t) (s a r))))
 (j:∀a r,mk a=some r->KG S P F (.pop .normal (stp P g).k (s a r)))
 (hp:pr=G1 (cnd P g):=by kernel_rfl) (b:VE ids (stp P g)=some (f,as,bs,objs):=by kernel_rfl) (q:Nat.blt gh 1000=true:=by kernel_rfl) (n:A7 (stp P g).st.regs gh=none:=by kernel_rfl) (u:J0 ts=true:=by kernel_rfl)
 (hle:KLe idl (AA6 ids ts (stp P g)) (s a0 r0):=by exact kl):KG S P F g:=by
 refine⟨HM hS hc ?_ hp⟩;generalize stp P g=g1 at i c j b n hle;unfold VE at b;split at b
 .rename_i op ps asg body K st;split at b
  .rename_i f' first caps v
   split at b
   .rename_i objs' as' bs' y z h4;split at b
    .rename_i w;simp only[Cl5,Cm7]at b;obtain⟨rfl,rfl,rfl,rfl⟩:=b;simp only[Cl8,Co5,beq_iff_eq]at w;obtain⟨⟨⟨e3,e4⟩,e5⟩,e6⟩:=w;refine BD7 hS ids ts gh s idl h x v o y e3 e4 z h4 e5 q n e6 u i hle.out hk hn (fun t next d a r hb hm=>?_) (fun a r hm=>(j a r hm).out);refine (c t next d a r (fun g' ids' pr a r hc l hp b hle=>⟨HM hS hc ?_ hp⟩) hm).out;rw[b];have hl:((s a r).env.map (·.2)).length=ts.length:=by rw[<- hk a r];simp
     refine hb _ (rst gh (s a r)) ((s a r).env.map fun p=>p.2) ids' a r hle.out (KD gh (s a r)) hl ?_ (m a r) l
     have:=congrArg St.regs (m a r)
     simp only at this;show A7 (del gh (ins gh _ _)) gh=none;rw[this];exact hn a r
    cases b
   cases b
  cases b
 cases b
theorem BF1 (hS:H9 S P)(hc:pr){f:FuncId}{as bs:List AV}{objs:List Obj}{R T A:Type}{enc:T->List PV}{L:List T}{mb:(A->Option R)->T->A->Option R}{mk:A->Option R}{a0:A}{r0:R}
 (ids ts:List Nat) (gh:Nat) (s:A->R->St) {idl:List (Nat×Nat)}(h:Q5 L mb mk a0=some r0) (q:IN S f as bs objs (L.map enc))
 (d:∀t:T,(enc t).length=(Nc (stp P g)).size) (hk:∀a r,(s a r).env.map (·.1)=ts) (hn:∀a r,A7 (s a r).regs gh=none) (j:∀a r,(⟨Bk ts ((s a r).env.map (·.2)),del gh (ins gh (.ghost ((s a r).env.map (·.2))) (s a r).regs)⟩:St)=s a r)
 (b:∀(t:T) (next:St->Prop) (c:A->Option R) (a:A) (r:R),
  (∀(g' : Cfg) (ids:List (Nat×Nat)) (pr:Prop) (a:A) (r:R),pr->c a=some r->(hp:pr=G1 (cnd P g'):=by kernel_rfl)->(l:stp P g' = .pop .normal [] (stp P g').st:=by kernel_rfl)->(hle:KLe ids (stp P g').st (rst gh (s a r)):=by exact kl)->KG S P (FL S gh ts next (kp S P (stp P g).k F)) g') ->
  mb c t a=some r->KG S P (Dr S P (AA5 (stp P g)) gh ts next (kp S P (stp P g).k F)) (.code (AA4 (stp P g)) [] (AA7 gh (Nc (stp P g)) (enc t) (s a r))))
 (i:∀a r,mk a=some r->KG S P F (.pop .normal (stp P g).k (s a r)))
 (hp:pr=G1 (cnd P g):=by kernel_rfl) (l:AA3 P ids (stp P g)=some (f,as,bs,objs):=by kernel_rfl) (m:Nat.blt gh 1000=true:=by kernel_rfl) (n:A7 (stp P g).st.regs gh=none:=by kernel_rfl) (o:J0 ts=true:=by kernel_rfl)
 (hle:KLe idl (AA6 ids ts (stp P g)) (s a0 r0):=by exact kl):KG S P F g:=
 Bp9 hS hc (MD l).2 ids ts gh s h q d hk hn j b i hp (MD l).1 m n o hle
def Ck6 (t:Nat)(a:AV):Cfg->Cfg
 |.ops all rest K st=>mkO (ins t a st.env) st.regs fun env regs=>.ops all rest K ⟨env,regs⟩
 |g=>g
theorem BU5 (hS:H9 S P)(hc:pr)(t:Nat){k n:Nat}{f:Nat->List PV}(b:n=0->KG S P F (Ck6 t (.p (.v (.slice none 0 0))) (stp P g)))(h1:KG S P F (Ck6 t (.p (.sl true k n f)) (stp P g)))
 (hp:pr=G1 (cnd P g):=by kernel_rfl) (a:OB (stp P g)=true:=by kernel_rfl) (c:get (stp P g).st.env t=.p (.sl false k n f):=by kernel_rfl):KG S P F g:=by
 refine⟨HM hS hc ?_ hp⟩;generalize stp P g=g1 at b h1 a c;unfold OB at a;split at a
 .refine Cd3 hS t c (fun h=>?_) ?_
  .have:=(b h).out
   simpa only[Ck6,HL]using this
  have:=h1.out
  simpa only[Ck6,HL]using this
 cases a
def frzC (j:Nat)(ps:List PV):Cfg->Cfg
 |.code c K st=>mkO (Bz2 j ps st.env) (ins j .dead st.regs) fun env regs=>.code c K ⟨env,regs⟩
 |g=>g
theorem Bq0 (hS:H9 S P)(hc:pr)(j:Nat)(ps:List PV)(hk:KG S P F (frzC j ps (stp P g)))(hp:pr=G1 (cnd P g):=by kernel_rfl)(c:FV (stp P g)=true:=by kernel_rfl)(b:P.follows .mixedOrders=true:=by kernel_rfl)
 (a:Ph (KC (stp P g)).all=true:=by kernel_rfl) (f:A7 (stp P g).st.regs j=some (.cells (ps.map .p)):=by kernel_rfl):KG S P F g:=by
 refine⟨HM hS hc ?_ hp⟩;generalize stp P g=g1 at hk c a f;unfold FV at c;split at c
 .rename_i id ops K st;have hk:=hk.out;simp only[frzC,HL]at hk;show awp S P (.region id ops true) (kp S P K F) st;simp only[awp,Rm];have d : Bl5 S P ops.toList (kp S P K F) ⟨Bz2 j ps st.env,ins j .dead st.regs⟩:=by
   have:awp S P (.region id ops true) (kp S P K F) ⟨Bz2 j ps st.env,ins j .dead st.regs⟩:=hk
   simpa only[awp,Rm]using this
  exact AW4 hS b a (hS.frz st j ps _ f d)
 cases c
def clsN (js:List Nat):Nat->List Oper->List Cls
 |_,[]=>[]
 |i,o::r=>(if js.contains i then .n else if js.contains (i+1000)then .w else Ck4 o.op)::clsN js (i+1) r
def Ap2 (js:List Nat):Cfg->SC
 |.code (.region _ ops true) _ st=>⟨ops.toList,clsN js 0 ops.toList,ops.toList,st.env,st.regs,[]⟩
 |_=>⟨[],[],[],[],[],[]⟩
theorem C5 (hS:H9 S P)(hc:pr)(js:List Nat)(h:DG S P (Ap2 js (stp P g)) fun env regs=>KG S P F (.pop .normal (stp P g).k ⟨env,regs⟩))(hp:pr=G1 (cnd P g):=by kernel_rfl)(c:FV (stp P g)=true:=by kernel_rfl)(a:P.follows .mixedOrders=true:=by kernel_rfl)
 (b:Vw (Ap2 js (stp P g)).all (Ap2 js (stp P g)).cls=true:=by kernel_rfl):KG S P F g:=by
 have e:(fun env regs=>KG S P F (.pop .normal (stp P g).k ⟨env,regs⟩))=fun env regs=>G S P F (.pop .normal (stp P g).k ⟨env,regs⟩):=by funext env regs;exact propext ⟨fun h=>h.out,fun h=>⟨h⟩⟩
 rw[e]at h;refine⟨HM hS hc ?_ hp⟩;have h:=h.out;generalize stp P g=g' at c b h;unfold FV at c;split at c
 .exact Bo7 hS _ a b h
 cases c
def clsL (ls:List (Nat×Cls)):Nat->List Oper->List Cls
 |_,[]=>[]
 |i,o::r=>(match ls.find? (fun q=>q.1==i)with|some q=>q.2|none=>Ck4 o.op)::clsL ls (i+1) r
def Ap3 (ls:List (Nat×Cls)):Cfg->SC
 |.code (.region _ ops true) _ st=>⟨ops.toList,clsL ls 0 ops.toList,ops.toList,st.env,st.regs,[]⟩
 |_=>⟨[],[],[],[],[],[]⟩
theorem Y6 (hS:H9 S P)(hc:pr)(ls:List (Nat×Cls))(h:DG S P (Ap3 ls (stp P g)) fun env regs=>KG S P F (.pop .normal (stp P g).k ⟨env,regs⟩))(hp:pr=G1 (cnd P g):=by kernel_rfl)(c:FV (stp P g)=true:=by kernel_rfl)(a:P.follows .mixedOrders=true:=by kernel_rfl)
 (b:Vw (Ap3 ls (stp P g)).all (Ap3 ls (stp P g)).cls=true:=by kernel_rfl):KG S P F g:=by
 have e:(fun env regs=>KG S P F (.pop .normal (stp P g).k ⟨env,regs⟩))=fun env regs=>G S P F (.pop .normal (stp P g).k ⟨env,regs⟩):=by funext env regs;exact propext ⟨fun h=>h.out,fun h=>⟨h⟩⟩
 rw[e]at h;refine⟨HM hS hc ?_ hp⟩;have h:=h.out;generalize stp P g=g' at c b h;unfold FV at c;split at c
 .exact Bo7 hS _ a b h
 cases c
theorem OC (hS:H9 S P)(hc:pr){body:Code}{gh:Nat}{ts:List Nat}{next:St->Prop}{Q:O8}(h:KG S P (FL S gh ts next Q) (.code body [] (stp P g).st))(hp:pr=G1 (cnd P g):=by kernel_rfl)(a:stp P g=.pop .normal [] (stp P g).st:=by kernel_rfl):KG S P (Dr S P body gh ts next Q) g:=by refine⟨HM hS hc ?_ hp⟩;rw[a];exact G_asg hS h.out
theorem UO (hS:H9 S P)(hc:pr){K:List It}{gh:Nat}{ts:List Nat}{next:St->Prop}(t:St){ids:List (Nat×Nat)}(hk:KG S P F (.pop (exitE (stp P g)) K t))(hp:pr=G1 (cnd P g):=by kernel_rfl)(a:BN0 (stp P g)=true:=by kernel_rfl)
 (hle:KLe ids (stp P g).st (rst gh t):=by exact kl) (h1:t.env.map (·.1)=ts:=by kernel_rfl) (d:A7 t.regs gh=none:=by kernel_rfl) (b:(⟨Bk ts (t.env.map (·.2)),del gh (ins gh (.ghost (t.env.map (·.2))) t.regs)⟩:St)=t:=by kernel_rfl):KG S P (FL S gh ts next (kp S P K F)) g:=by
 refine⟨HM hS hc ?_ hp⟩;generalize stp P g=g1 at hk a hle;have hl:(t.env.map (·.2)).length=ts.length:=by rw[<- h1];simp
 have c:A7 (del gh (ins gh (.ghost (t.env.map (·.2))) t.regs)) gh=none:=by
  have:=congrArg St.regs b
  simp only at this;rw[this];exact d
 unfold BN0 at a;split at a
 .exact AW2 hS T3 (rst gh t) ids hle.out (KD gh t) hl c (by rw[show (⟨Bk ts (t.env.map (·.2)),del gh (rst gh t).regs⟩:St)=t from b];exact hk.out)
 .exact AW2 hS T3 (rst gh t) ids hle.out (KD gh t) hl c (by rw[show (⟨Bk ts (t.env.map (·.2)),del gh (rst gh t).regs⟩:St)=t from b];exact hk.out)
 cases a
theorem Ap4 (hS:H9 S P){gh:Nat}{ts:List Nat}{next:St->Prop}{Q:O8}(s:St)(h:S.up s (FL S gh ts next Q .normal)):FL S gh ts next Q .normal s:=hS.trans _ _ h
end
end Go.AM
namespace Go.AM
section
variable {S:W1}{P:Program}{F:O8}{g:Cfg}{pr:Prop}
def Cg5 (j:Nat)(ps:List PV):Cfg->Cfg
 |.ops all rest K st=>mkO (Bz2 j ps st.env) (ins j .dead st.regs) fun env regs=>.ops all rest K ⟨env,regs⟩
 |g=>g
def BN1 (ids:List Nat):Cfg->Option (FuncId×List AV×List Obj)
 |.ops all (o::_) _ st=>match DZ all st.env o,o.op with
  |some true,.call c=>match c.callee with
   |.value f=>match Aw4 st.env f (c.args.toList.map (aev st.env))with
    |some (fn,as')=>match Fn ids as',O9 ids st.regs ids with
     |some a,some ob=>if J0 ids&&GE ob then some (fn,a,ob)else none
     |_,_=>none
    |none=>none
   |_=>none
  |_,_=>none
 |_=>none
def BN2 (ids:List Nat)(ks:List Bool)(n:Nat):Cfg->Bool
 |.ops _ (o::_) _ st=>Dl st.regs ids ks (o.dst.getD 0) n
 |_=>false
def BN3 (ids:List Nat)(ks:List Bool)(r:AV)(objs' : List Obj):Cfg->Cfg
 |.ops all (o::rest) K st=>BD8 o.dst (unA (N5 (o.dst.getD 0) ids ks objs'.length) r) st.env
  (Aw3 (N5 (o.dst.getD 0) ids ks objs'.length) (N5 (o.dst.getD 0) ids ks objs'.length) objs' (R7 ids ks st.regs)) fun st=>.ops all rest K st
 |g=>g
theorem BU6 (hS:H9 S P)(ids:List Nat)(hc:pr){fn:FuncId}{args:List AV}{objs objs' : List Obj}{r:AV}{ks:List Bool}(f:FunO S fn args objs r objs' ks)(hk:KG S P F (BN3 ids ks r objs' (stp P g)))
 (hp:pr=G1 (cnd P g):=by kernel_rfl) (a:BN1 ids (stp P g)=some (fn,args,objs):=by kernel_rfl) (hn:BN2 ids ks objs'.length (stp P g)=true:=by kernel_rfl):KG S P F g:=by
 refine⟨HM hS hc ?_ hp⟩;have hk:=hk.out;generalize stp P g=g' at a hn hk;unfold BN1 at a;split at a
 .split at a
  .rename_i i j;split at a
   .rename_i c;split at a
    .rename_i hw;split at a
     .rename_i l d;split at a
      .rename_i b;cases a;simp only[Cl8]at b;simp only[BN3,BN2,OA]at hk hn;exact BQ5 hS ids i j c hw l d f b.1 b.2 hn hk
      cases a
     cases a
    cases a
   cases a
  cases a
 cases a
def unrT:List (St->Prop)->Nat->St->Prop
 |[],_,_=>False
 |a::_,0,t=>a t
 |_::l,i+1,t=>unrT l i t
theorem BF2 (hS:H9 S P)(hc:pr)(n:Nat)(T:Nat->St->Prop)(s0:St){ids:List (Nat×Nat)}(j:T 0 s0)
 (l:∀(X:Type) (s' : X->St) (J:X->Prop) (m:X->Nat) (i k:Nat) (t:St),i<=n->T i t ->
  (∀(g' : Cfg) (ids:List (Nat×Nat)) (pr:Prop) (t' : St),pr->Nat.ble (i+1) n=true->T (i+1) t' -> (hp:pr=G1 (cnd P g'):=by kernel_rfl)->(q:stp P g' = .pop .normal (.lp X s' J m k::(stp P g).k) (stp P g').st:=by kernel_rfl)->(hle:KLe ids (stp P g').st t':=by exact kl)->KG S P F g') ->
  KG S P F (.code (Ao5 (stp P g)) (.lp X s' J m k::(stp P g).k) t)) (hp:pr=G1 (cnd P g):=by kernel_rfl) (hl:Na (stp P g)=true:=by kernel_rfl) (hle:KLe ids (stp P g).st s0:=by exact kl):KG S P F g:=by
 refine⟨HM hS hc ?_ hp⟩;rw[AM6 hl];refine Bl9 hS (X:=Nat×St) (fun x=>x.2) (fun x=>x.1<=n/\T x.1 x.2) (fun x=>n-x.1) (0,s0) ids hle.out ⟨Cx3 _,j⟩ ?_;rintro⟨i,t⟩ ⟨o,ht⟩;refine (l (Nat×St) (fun x=>x.2) (fun x=>x.1<=n/\T x.1 x.2) (fun x=>n-x.1) i (n-i) t o ht fun g' ids' pr' t' b hn c d f a=>⟨HM hS b ?_ d⟩).out;rw[f];have hn:i+1<=n:=Ct2 hn;exact hS.le ids' _ _ _ a.out ⟨(i+1,t'),rfl,⟨hn,c⟩,by show n-(i+1)<n-i;omega⟩
end
section
variable {S:W1}{P:Program}{F:O8}{g:Cfg}{pr:Prop}
theorem G9 (hS:H9 S P)(hc:pr)(d:Nat)(st:St){ids:List (Nat×Nat)}(hk:KG S P F (opsS st (Pc P d g)))(hp:pr=G1 (Cf4 P d g):=by kernel_rfl)(a:OB (Pc P d g)=true:=by kernel_rfl)(hle:KLe ids (Pc P d g).st st:=by exact kl):KG S P F g:=by
 refine⟨(Or (u:=some d) (F:=F) hS 400 [] g (by subst hp;exact hc)).2 ?_⟩;have hk:=hk.out;have hle:=hle.out;show G S P F (Pc P d g);generalize Pc P d g=g' at a hle hk;unfold OB at a;split at a
 .exact Bp4 hS st ids hle hk
 cases a
end
end Go.AM
namespace Go.AM
section
variable {S:W1}{P:Program}{F:O8}{g:Cfg}{pr:Prop}
def Cg6 (S:W1)(P:Program)(pv:PV)(m:String)(as:List AV)(r:AV):Prop:=∃t y fn,pv=.iface t y/\Aw5 P t m=some fn/\BA0 S fn (.p (nP y)::as) r
def invE:Cfg->Option (PV×String×List AV)
 |.ops all (o::_) _ st=>match DZ all st.env o,o.op with
  |some true,.call c=>match c.callee with
   |.invoke rv m=>match YV st.regs (c.args.toList.map (aev st.env)),aev st.env rv with
    |some (as,_),.p pv=>match Fn [] as with
     |some as'=>some (pv,m,as')
     |none=>none
    |_,_=>none
   |_=>none
  |_,_=>none
 |_=>none
def invK (r:AV):Cfg->Cfg
 |.ops all (o::rest) K st=>match o.op with
  |.call c=>match YV st.regs (c.args.toList.map (aev st.env))with
   |some (_,regs)=>BD8 o.dst (unA [] r) st.env regs fun st=>.ops all rest K st
   |none=>.ops all (o::rest) K st
  |_=>.ops all (o::rest) K st
 |g=>g
theorem UP (hS:H9 S P)(hc:pr){pv:PV}{m:String}{as:List AV}{r:AV}(b:Cg6 S P pv m as r)(hk:KG S P F (invK r (stp P g)))
 (hp:pr=G1 (cnd P g):=by kernel_rfl) (a:invE (stp P g)=some (pv,m,as):=by kernel_rfl):KG S P F g:=by
 obtain⟨t,y,fn,rfl,hm,b⟩:=b;refine⟨HM hS hc ?_ hp⟩;have hk:=hk.out;generalize stp P g=g' at a hk;unfold invE at a;split at a
 .split at a
  .rename_i i f;split at a
   .rename_i c;split at a
    .rename_i ha d;split at a
     .rename_i j;cases a;simp only[invK,f,ha,OA]at hk;refine BD3 hS i f c ha d hm (args:=.p (nP y)::_) ?_ b hk;simp only[Fn,Av8,j]
     cases a
    cases a
   cases a
  cases a
 cases a
theorem D8 (hS:H9 S P)(hc:pr)(d j:Nat)(ps:List PV)(hk:KG S P F (Cg5 j ps (Pc P d g)))(hp:pr=G1 (Cf4 P d g):=by kernel_rfl)(a:OB (Pc P d g)=true:=by kernel_rfl)
 (b:A7 (Pc P d g).st.regs j=some (.cells (ps.map .p)):=by kernel_rfl):KG S P F g:=by
 refine⟨(Or (u:=some d) (F:=F) hS 400 [] g (by subst hp;exact hc)).2 ?_⟩;have hk:=hk.out;show G S P F (Pc P d g);generalize Pc P d g=g' at a b hk;unfold OB at a;split at a
 .simp only[Cg5,HL]at hk;exact AK1 hS (hS.frz _ j ps _ b hk)
 cases a
def BF3 (j j' : Nat):AV->AV
 |.vecp i m=>if i=j then .vec j' else .vecp i m
 |a=>a
def BF4 (j j' : Nat):List AV->List AV
 |[]=>[]
 |a::r=>BF3 j j' a::BF4 j j' r
def BF5 (j j' : Nat):Env->Env
 |[]=>[]
 |(t,a)::r=>(t,BF3 j j' a)::BF5 j j' r
def Bf8 (j j' : Nat):F5->F5
 |[]=>[]
 |(t,.cells cs)::r=>(t,.cells (BF4 j j' cs))::Bf8 j j' r
 |(t,o)::r=>(t,o)::Bf8 j j' r
def msA (j:Nat)(r:List Nat):AV->List Nat
 |.vecp i m=>if i=j then m::r else r
 |_=>r
def msL (j:Nat):List AV->List Nat
 |[]=>[]
 |a::r=>msA j (msL j r) a
def msE (j:Nat):Env->List Nat
 |[]=>[]
 |(_,a)::r=>msA j (msE j r) a
def msR (j:Nat):F5->List Nat
 |[]=>[]
 |(_,.cells cs)::r=>msL j cs++msR j r
 |_::r=>msR j r
theorem Bq1 {j:Nat}{r:List Nat}{a:AV}:∀x∈r,x∈msA j r a:=by
 intro x hx;unfold msA;split
 .split
  .exact Cn4 _ hx
  exact hx
 exact hx
theorem AX6 {j n j' : Nat}{r:List Nat}{a:AV}(h:∀m∈msA j r a,m=n):Bz7 j n j' a=BF3 j j' a:=by
 cases a with
 |vecp i m=>
  simp only[Bz7,BF3];by_cases e:i=j
  .have:m=n:=h m (by simp[msA,e])
   simp[e,this]
  simp[e]
 |_=>rfl
theorem AX7 {j n j' : Nat}:∀{l:List AV},(∀m∈msL j l,m=n)->BL7 j n j' l=BF4 j j' l
 |[],_=>rfl
 |a::r,h=>by simp only[BL7,BF4,AX6 (r:=msL j r) h,AX7 fun m hm=>h m (Bq1 m hm)]
theorem AX8 {j n j' : Nat}:∀{l:Env},(∀m∈msE j l,m=n)->BL6 j n j' l=BF5 j j' l
 |[],_=>rfl
 |(t,a)::r,h=>by simp only[BL6,BF5,AX6 (r:=msE j r) h,AX8 fun m hm=>h m (Bq1 m hm)]
theorem Ap5 {j n j' : Nat}:∀{l:F5},(∀m∈msR j l,m=n)->AU0 j n j' l=Bf8 j j' l
 |[],_=>rfl
 |(t,o)::r,h=>by
  cases o with
  |cells cs=>simp only[AU0,Bf8,Cb5,AX7 fun m hm=>h m (Co9 _ hm),Ap5 fun m hm=>h m (Cn3 _ hm)]
  |_=>simp only[AU0,Bf8,Cb5,Ap5 (l:=r) h]
def truC (j j' : Nat)(e:TypeId)(k n:Nat)(f:Nat->List PV):Cfg->Cfg
 |.ops all rest K st=>mkO (BF5 j j' st.env) (ins j' (.vec e k n f false) (ins j .dead (Bf8 j j' st.regs))) fun env regs=>.ops all rest K ⟨env,regs⟩
 |g=>g
theorem Cg7 (hS:H9 S P)(hc:pr)(d j n j' : Nat){e:TypeId}{k N:Nat}{f:Nat->List PV}(hn:n<=N)(hk:KG S P F (truC j j' e k n f (Pc P d g)))(hp:pr=G1 (Cf4 P d g):=by kernel_rfl)(b:OB (Pc P d g)=true:=by kernel_rfl)
 (c:A7 (Pc P d g).st.regs j=some (.vec e k N f false):=by kernel_rfl) (i:A7 (Pc P d g).st.regs j' = none:=by kernel_rfl) (h1:Nat.ble 1000 j' = true:=by kernel_rfl)
 (hm:(msE j (Pc P d g).st.env++msR j (Pc P d g).st.regs)=List.replicate (msE j (Pc P d g).st.env++msR j (Pc P d g).st.regs).length n:=by kernel_rfl):KG S P F g:=by
 refine⟨(Or (u:=some d) (F:=F) hS 400 [] g (by subst hp;exact hc)).2 ?_⟩;have hk:=hk.out;show G S P F (Pc P d g);generalize Pc P d g=g' at b c i hk hm;unfold OB at b;split at b
 .rename_i st;have a:∀m∈msE j st.env++msR j st.regs,m=n:=fun m h=>by rw[show msE j st.env++msR j st.regs=_ from hm]at h;exact (List.mem_replicate.1 h).2
  simp only[truC,HL]at hk;refine AK1 hS (hS.trunc _ j j' n N k e f _ c hn i (Ct2 h1) ?_);rw[AX8 fun m h=>a m (Co9 _ h),Ap5 fun m h=>a m (Cn3 _ h)];exact hk
 cases b
end
abbrev cA {α : Type}(n:Nat)(c : α -> PV)(f:Nat -> α):List PV:=Fa n (fun i=>c (f i))
theorem I2 (n:Nat)(f:Nat->PV):(Fa n f).length=n:=by simp[Fa]
theorem H0 (n:Nat)(f:Nat->PV):∀i,i<n->[(Fa n f).getD i default]=[f i]:=by intro i a;simp[Fa,Cl4,a]
theorem Ed {n:Nat}{z:PV}{ps:List PV}(h:ps=List.replicate n z):∀i,i<n->[ps.getD i default]=[z]:=by intro i a;subst h;simp[Cl4,a]
theorem Bf9 {n:Nat}{f g:Nat->PV}(h:∀i,i<n->[f i]=[g i]):Fa n f=Fa n g:=by unfold Fa;exact Co7 fun i a=>by have:=h i (Cn2.1 a);injection this
abbrev VF {α : Type}(f:Nat -> α)(k:Nat)(x : α):Nat -> α:=fun i=>if i=k then x else f i
theorem BU7 {α : Type}{c : α -> PV}{n k:Nat}{v:Nat -> α}{f:Nat->PV}{e:PV}{x : α}(h:∀i,i<n->[f i]=[c (v i)])(hx:e=c x):∀i,i<n->[if i=k then e else f i]=[c (if i=k then x else v i)]:=by
 intro i a;by_cases h1:i=k
 .rw[Il h1,Il h1,hx]
 rw[Ix h1,Ix h1];exact h i a
theorem app1H {α : Type}{c : α -> List PV}{n:Nat}{v:Sl α}{f g:Nat->List PV}{z : α}(h:∀i,i<n->f i=c (v.g i))(hn:n=v.n):∀i,i<n+1->i≠v.n->I4 n f g i=c ((v.push z).g i):=by
 subst hn;intro i b a;have hl:i<v.n:=by omega
 show (if i<v.n then f i else g (i-v.n))=c (if i<v.n then v.g i else z);rw[Il hl,Il hl];exact h i hl
theorem setH {α : Type}{c : α -> List PV}{n k:Nat}{v:Sl α}{f e:Nat->List PV}{x : α}(h:∀i,i<n->i≠k->f i=c (v.g i))(hx:k<n->e k=c x):∀i,i<n->(fun l=>if l=k then e l else f l) i=c ((v.upd k x).g i):=by
 intro i a;show (if i=k then e i else f i)=c (if i=k then x else v.g i);split
 .subst_vars;exact hx a
 exact h i a ‹_›
end Go.AM
namespace Go.AM
section
variable {S:W1}{P:Program}{F:O8}{g:Cfg}{R X:Type}{A B:Option R}{r:R}{b:Bool}
theorem kI (hS:H9 S P)(h:(if b then A else B)=some r)(ht:A=some r->KG S P F (BT0 (stp P g)))(a:B=some r->KG S P F (BT1 (stp P g)))
 (hp:True=G1 (cnd P g):=by kernel_rfl) (hb:BD9 (stp P g)=some b:=by kernel_rfl):KG S P F g:=
 D1 hS T3 (fun c=>ht (itT c h)) (fun c=>a (itF c h)) hp hb
theorem kG (hS:H9 S P)(h:(if b then A else B)=some r)(ht:A=some r->KG S P F (VA true (stp P g)))(a:B=some r->KG S P F (VA false (stp P g)))
 (hp:True=G1 (cnd P g):=by kernel_rfl) (hb:AW7 (stp P g)=some b:=by kernel_rfl):KG S P F g:=
 X9 hS T3 (fun c=>ht (itT c h)) (fun c=>a (itF c h)) hp hb
theorem kR (hS:H9 S P){n:Nat}{rs:List ResultVar}{Q:UY->List Obj->List Bool->Prop}{a:AV}{objs:List Obj}(b:Q (.ret a) objs (Jt n []):=by exact⟨rfl,rfl,rfl⟩)
 (hp:True=G1 (cnd P g):=by kernel_rfl) (c:(BT4 (stp P g)).bind (fun st=>AM7 P st rs [])=some (a,objs):=by kernel_rfl):KG S P (EI S P n rs Q) g:=
 AN0 hS T3 [] b hp c
theorem kC (hS:H9 S P){x:Option X}{f:X->Option R}(h:x.bind f=some r){fn:FuncId}{args:List AV}{objs:List Obj}{objs' : X->List Obj}{rr:X->AV}{ks:List Bool}
 (a:∀{y},x=some y->FunO S fn args objs (rr y) (objs' y) ks) (hk:∀y,f y=some r->KG S P F (BE0 [] ks (rr y) (objs' y) (stp P g)))
 (hp:True=G1 (cnd P g):=by kernel_rfl) (b:Bf6 [] (stp P g)=some (fn,args,objs):=by kernel_rfl) (hn:∀y,Bf7 [] ks (objs' y).length (stp P g)=true:=by intro y;kernel_rfl):KG S P F g:=by
 obtain⟨y,e,h⟩:=B1 h;exact B6 hS [] T3 (a e) (hk y h) hp b (hn y)
end
end Go.AM
namespace Go.AM
inductive BT where
 |l (b:Bool)
 |n (b:Bool) (t f:BT)
def BT.ev:BT->Bool
 |.l b=>b
 |.n b t f=>if b then t.ev else f.ev
inductive BE where
 |a (b:Bool)
 |n (x y:BE)
 |o (x y:BE)
def BE.den:BE->Bool
 |.a b=>b
 |.n x y=>x.den&&y.den
 |.o x y=>x.den||y.den
def BE.tr:BE->BT->BT->BT
 |.a b,t,f=>.n b t f
 |.n x y,t,f=>x.tr (y.tr t f) f
 |.o x y,t,f=>x.tr t (y.tr t f)
def BE.top:BE->BT
 |.a b=>.l b
 |.n x y=>x.tr y.top (.l false)
 |.o x y=>x.tr (.l true) y.top
theorem BE.tr_ev:∀(e:BE) (t f:BT),(e.tr t f).ev=if e.den then t.ev else f.ev
 |.a b,t,f=>rfl
 |.n x y,t,f=>by simp only[tr,den,x.tr_ev,y.tr_ev];by_cases h:x.den=true<;>simp[h]
 |.o x y,t,f=>by simp only[tr,den,x.tr_ev,y.tr_ev];by_cases h:x.den=true<;>simp[h]
theorem BE.top_ev:∀e:BE,e.top.ev=e.den
 |.a b=>rfl
 |.n x y=>by simp only[top,den,x.tr_ev,y.top_ev,BT.ev];by_cases h:x.den=true<;>simp[h]
 |.o x y=>by simp only[top,den,x.tr_ev,y.top_ev,BT.ev];by_cases h:x.den=true<;>simp[h]
def keeps:Op->Bool
 |.move _ | .assign _ | .pick .. | .load .. | .nilCheck _ | .binOp .. | .unOp .. | .convert .. | .fieldAddr .. | .field .. | .indexAddr .. | .index .. | .extract ..=>true
 |.call { callee:=.builtin .len,.. } | .call { callee:=.builtin .min,.. } | .call { callee:=.builtin .max,.. }=>true
 |_=>false
theorem Bg0 {P:Program}{env:Env}{regs:F5}{d:Nat}{o:Op}{out:Out}(hk:keeps o=true)(h:aop P env regs d o=some out):out.regs=regs:=by unfold keeps at hk;split at hk<;>first|(cases hk;done)|(simp only[aop]at h;(repeat' split at h)<;>first|(cases h;rfl)|cases h)
theorem Ai4 {o:Op}(hk:keeps o=true):BL8 o=true:=by unfold keeps at hk;split at hk<;>first|cases hk;done|rfl
def BF6:List Prop->List Prop
 |[]=>[]
 |c=>[G1 c]
def bgo (P:Program)(regs:F5)(o:Oper)(last:Bool)(rec:List Prop->Env->Option (BT×List Prop))(c:List Prop)(env:Env)(runs:Bool):Option (BT×List Prop):=match runs with
 |true=>match keeps o.op,o.dst with
  |true,some d=>match aop P env regs d o.op with
   |some ⟨p,v,_⟩=>match last with
    |true=>match UZ v with
     |some b=>some (.l b,BF6 (p++c))
     |none=>none
    |false=>fA v fun v=>Bl7 d v env fun env=>rec (p++c) env
   |none=>none
  |_,_=>none
 |false=>match last,o.dst with
  |false,some d=>Bl7 d Dm env fun env=>rec c env
  |_,_=>none
def bev (P:Program)(all:List Oper)(regs:F5):List Oper->List Prop->Env->Option (BT×List Prop)
 |[],_,_=>none
 |o::rest,c,env=>
  match o.guard with
  |none=>bgo P regs o rest.isEmpty (fun c env=>bev P all regs rest c env) c env true
  |some (j,want)=>match get env (Kr all j)with
   |.p (.v (.bool b))=>bgo P regs o rest.isEmpty (fun c env=>bev P all regs rest c env) c env (b==want)
   |.p (.v (.tuple _))=>bgo P regs o rest.isEmpty (fun c env=>bev P all regs rest c env) c env false
   |.p (.bb b)=>match Bl7 (Kr all j) (.p (.v (.bool true))) env fun env=>bgo P regs o rest.isEmpty (fun c env=>bev P all regs rest c env) [] env want,
    Bl7 (Kr all j) (.p (.v (.bool false))) env fun env=>bgo P regs o rest.isEmpty (fun c env=>bev P all regs rest c env) [] env !want with
    |some (t,ct),some (f,cf)=>some (.n b t f,BF6 c++(ct.map (fun p=>b=true->p)++cf.map (fun p=>b=false->p)))
    |_,_=>none
   |_=>none
def Bk6 (l:List Oper):List Nat:=l.filterMap (·.dst)
def BU8 (ks:List Nat)(env:Env):Env:=env.filter fun q=>!ks.contains q.1
theorem AX9 (ks:List Nat)(env:Env)(x:Nat):get (BU8 ks env) x=if x∈ks then .top else get env x:=by
 induction env with
 |nil=>simp[BU8,get]
 |cons q r ih=>
  obtain⟨i,a⟩:=q;simp only[BU8,CJ3];by_cases b:i∈ks
  .rw[Ix (by simpa using b)]
   have:=ih
   simp only[BU8]at this;rw[this];by_cases hx:x∈ks
   .simp[hx]
   have:i≠x:=fun e=>hx (e ▸ b)
   simp[hx,get,this]
  rw[Il (by simpa using b)];simp only[get]
  have:=ih
  simp only[BU8]at this;rw[this];by_cases hx:i=x
  .subst hx;simp[b]
  simp[hx]
def AN1:List Oper->Option Nat
 |[]=>none
 |[o]=>o.dst
 |_::r=>AN1 r
section
variable {S:W1}{P:Program}
theorem Ai5 {c:List Prop}(h:∀p∈BF6 c,p):G1 c:=by
 cases c with
 |nil=>trivial
 |cons p r=>exact h _ (by simp[BF6])
theorem Cg8 (hS:H9 S P){all:List Oper}{regs:F5}{Q:O8}{post:List Oper}{envF:Env}{V:Bool}{d:Nat}(hQ:∀s,S.up s (QU S P all post Q)->QU S P all post Q s)(hV:get envF d=.p (.bb V))
 (hw:QU S P all post Q ⟨envF,regs⟩) :
 ∀(L:List Oper) (c:List Prop) (env:Env) (T:BT) (C:List Prop),bev P all regs L c env=some (T,C)->(∀p∈C,p)->T.ev=V->AN1 L=some d ->
  (∀x,x≠d->Am4 (get envF x) (get env x) \/ (x∈Bk6 L/\get envF x=.top))->(∀x∈Bk6 L,x≠d->get envF x=.top)->G1 c/\QU S P all (L++post) Q ⟨env,regs⟩:=by
 intro L
 induction L with
 |nil=>intro c env T C h;cases h
 |cons o rest ih=>
  intro c env T C h w i hd hl ht;simp only[bev,Oq]at h;have key:∀(c:List Prop) (env:Env) (runs:Bool) (T:BT) (C:List Prop),bgo P regs o rest.isEmpty (fun c env=>bev P all regs rest c env) c env runs=some (T,C)->(∀p∈C,p)->T.ev=V ->
   (∀x,x≠d->Am4 (get envF x) (get env x) \/ (x∈Bk6 (o::rest)/\get envF x=.top)) ->
   G1 c/\(if runs then wOp S P o (QU S P all (rest++post) Q) Q ⟨env,regs⟩else QU S P all (rest++post) Q (put ⟨env,regs⟩ o.dst Dm)):=by
   intro c env runs T C h w i hl;have l:rest.isEmpty=false->AN1 rest=some d:=by
    intro hr;cases rest with
    |nil=>cases hr
    |cons a r=>simpa[AN1]using hd
   have a0:∀{d'},o.dst=some d' -> Bk6 (o::rest)=d' :: Bk6 rest:=fun g=>by simp[Bk6,g]
   have m:∀d' (v:AV),o.dst=some d' -> ∀x,x≠d->Am4 (get envF x) (get (ins d' v env) x) \/ (x∈Bk6 rest/\get envF x=.top):=by
    intro d' v g x hx;rw[Fv];by_cases n:d' = x
    .subst n;exact .inl (.inl (ht _ (by rw[a0 g];exact Cx9 ..) hx))
    rw[Ix n];rcases hl x hx with h|⟨h1,h2⟩
    .exact .inl h
    exact .inl (.inl h2)
   cases runs with
   |true=>
    simp only[bgo,Bc8,Oq,Rm]at h⊢;split at h
    .rename_i d' hk g;split at h
     .rename_i p v regs' ha;have hr:regs' = regs:=Bg0 hk ha;subst hr;have ha' : aop P env regs' (o.dst.getD 0) o.op=some ⟨p,v,regs'⟩:=by rw[g];exact ha
      split at h
      .rename_i u;split at h
       .rename_i b hb;cases h;have a1:=Ai5 w;obtain⟨hc,hp⟩:=(FK _ _).1 a1;refine⟨hc,UJ (Ai4 hk) ha' hp ?_⟩;obtain rfl:rest=[]:=List.isEmpty_iff.1 u;simp only[AN1]at hd;have e:d' = d:=by rw[g]at hd;exact Cm3 hd
        subst e;refine hQ _ (hS.less _ ⟨envF,regs'⟩ _ (fun x=>?_) (fun _=>by rw[g];rfl) (by simpa using hw));rw[g];show Am4 (get envF x) (get (ins d' v env) x);rw[Fv];by_cases hx:d' = x
        .subst hx;rw[Il rfl,hV];have i:b=V:=i;subst i;unfold UZ at hb;split at hb
         .cases hb;exact .inr (.inr ⟨_,rfl,rfl⟩)
         .cases hb;exact .inr (.inl rfl)
         cases hb
        rw[Ix hx];rcases hl x (fun e=>hx e.symm)with h|⟨_,h⟩
        .exact h
        exact .inl h
       cases h
      rename_i u;have hn:∀x,x≠d->Am4 (get envF x) (get (ins d' v env) x) \/ (x∈Bk6 rest/\get envF x=.top):=m d' v g;obtain⟨a1,a2⟩:=ih _ _ _ _ h w i (l (by simpa using u)) hn (fun x hx=>ht x (by rw[a0 g];exact Cn4 _ hx));obtain⟨hc,hp⟩:=(FK _ _).1 a1;exact⟨hc,UJ (Ai4 hk) ha' hp (by rw[g];exact a2)⟩
     cases h
    cases h
   |false=>
    simp only[bgo,Oq,Cm2,Rn]at h⊢;split at h
    .rename_i d' u g;have hn:∀x,x≠d->Am4 (get envF x) (get (ins d' Dm env) x) \/ (x∈Bk6 rest/\get envF x=.top):=m d' _ g;obtain⟨hc,a2⟩:=ih _ _ _ _ h w i (l (by simpa using u)) hn (fun x hx=>ht x (by rw[a0 g];exact Cn4 _ hx));exact⟨hc,by rw[g];exact a2⟩
    cases h
  simp only[Cq3,QU];cases hg:o.guard with
  |none=>simp only[hg]at h;obtain⟨hc,hk⟩:=key _ _ _ _ _ h w i hl;exact⟨hc,hS.refl _ _ (by simpa[hg]using hk)⟩
  |some q=>
   obtain⟨j,want⟩:=q;simp only[hg]at h;split at h
   .rename_i b hb;obtain⟨hc,hk⟩:=key _ _ _ _ _ h w i hl;refine⟨hc,hS.refl _ _ ⟨some b,by rw[hb];rfl,?_⟩⟩;have e:(some b=some want)↔(b==want)=true:=by simp
    by_cases z:(b==want)=true
    .rw[Il (e.2 z)];simpa[z]using hk
    rw[Ix (fun x=>z (e.1 x))];simpa[z]using hk
   .rename_i tt hb;obtain⟨hc,hk⟩:=key _ _ _ _ _ h w i hl;refine⟨hc,hS.refl _ _ ⟨none,by rw[hb];rfl,?_⟩⟩;rw[Ix (by simp)];simpa using hk
   .rename_i b hb;split at h
    .rename_i t ct f cf h1 h2;cases h;have hc:G1 c:=Ai5 fun p hp=>w p (Co9 _ hp);refine⟨hc,hS.bool _ _ b _ hb ?_⟩;have hl2:∀x,x≠d->Am4 (get envF x) (get (ins (Kr all j) (.p (.v (.bool b))) env) x) \/ (x∈Bk6 (o::rest)/\get envF x=.top):=by
      intro x hx;rw[Fv];by_cases n:Kr all j=x
      .subst n;rw[Il rfl];rcases hl _ hx with h|h
       .rw[hb]at h;rcases h with h|h|⟨y,h1,h2⟩
        .exact .inl (.inl h)
        .exact .inl (.inr (.inr ⟨b,h,rfl⟩))
        cases h2
       exact .inr h
      rw[Ix n];exact hl x hx
     cases b with
     |true=>
      obtain⟨_,hk⟩:=key _ _ _ _ _ h1 (fun p hp=>w (true=true->p) (Cn3 _ (Co9 _ (Cp2.2 ⟨p,hp,rfl⟩))) rfl) i hl2;refine⟨some true,by show yv (get (ins _ _ _) _)=_;rw[Fv,Il rfl];rfl,?_⟩;cases want with
      |true=>simpa using hk
      |false=>simpa using hk
     |false=>
      obtain⟨_,hk⟩:=key _ _ _ _ _ h2 (fun p hp=>w (false=false->p) (Cn3 _ (Cn3 _ (Cp2.2 ⟨p,hp,rfl⟩))) rfl) i hl2;refine⟨some false,by show yv (get (ins _ _ _) _)=_;rw[Fv,Il rfl];rfl,?_⟩;cases want with
      |true=>simpa using hk
      |false=>simpa using hk
    cases h
   cases h
end
def BU9 (P:Program)(m:Nat):Cfg->Option (BT×List Prop)
 |.ops all rest K st=>bev P all st.regs (rest.take m) [] st.env
 |_=>none
def Cg9 (m:Nat)(b:Bool):Cfg->Cfg
 |.ops all rest K st=>match AN1 (rest.take m)with
  |some d=>mkO (ins d (.p (.bb b)) (BU8 (Bk6 (rest.take m)) st.env)) st.regs fun env regs=>.ops all (rest.drop m) K ⟨env,regs⟩
  |none=>.ops all rest K st
 |g=>g
def Ch0 (m:Nat):Cfg->Bool
 |.ops all rest K st=>(AN1 (rest.take m)).isSome
 |_=>false
def Ch1:List Prop->Prop
 |[]=>True
 |p::r=>r.foldl And p
theorem BF7 {l:List Prop}(h:Ch1 l):∀p∈l,p:=by
 have:∀(r:List Prop) (p:Prop),r.foldl And p->p/\∀q∈r,q:=by
  intro r
  induction r with
  |nil=>intro p h;exact⟨h,fun q b=>by cases b⟩
  |cons a r ih=>intro p h;obtain⟨⟨h1,c⟩,d⟩:=ih _ h;exact⟨h1,fun q b=>by rcases Co1.1 b with rfl|b;exact c;exact d q b⟩
 cases l with
 |nil=>intro p hp;cases hp
 |cons a r=>obtain⟨h1,c⟩:=this _ _ h;exact fun q b=>by rcases Co1.1 b with rfl|b;exact h1;exact c q b
section
variable {S:W1}{P:Program}{F:O8}{g:Cfg}{pr pc:Prop}
theorem kB (hS:H9 S P)(n:∀s,S.up s (F .normal)->F .normal s)(hc:pr)(c:pc)(m:Nat)(E:BE)(hk:KG S P F (Cg9 m E.den (stp P g)))
 (hp:pr=G1 (cnd P g):=by kernel_rfl) (a:(BU9 P m (stp P g)).map (·.1)=some E.top:=by kernel_rfl) (b:(BU9 P m (stp P g)).map (fun x=>Ch1 x.2)=some pc:=by kernel_rfl) (f:Ch0 m (stp P g)=true:=by kernel_rfl):KG S P F g:=by
 refine⟨HM hS hc ?_ hp⟩;have hk:=hk.out;generalize stp P g=g' at hk a b f;unfold BU9 at a b;split at a
 .rename_i all rest K st;simp only[Ch0,Co0]at f;obtain⟨d,j⟩:=f;simp only[Cg9,j,HL]at hk;cases hb:bev P all st.regs (rest.take m) [] st.env with
  |none=>rw[hb]at a;cases a
  |some q=>
   obtain⟨T,C⟩:=q;simp only[hb]at a b;simp only[Cm8,Cl5]at a b;subst a
   have:=(Cg8 hS (Q:=kp S P K F) (post:=rest.drop m) (envF:=ins d (.p (.bb E.den)) (BU8 (Bk6 (rest.take m)) st.env)) (V:=E.den) (d:=d) ?_ (by rw[Fv,Il rfl]) hk (rest.take m) [] st.env E.top C hb
    (BF7 (b ▸ c)) E.top_ev j (fun x hx=>?_) (fun x hx i=>?_)).2
   .rwa [CD0]at this
   .intro s h;cases l:rest.drop m with
    |nil=>rw[l]at h;exact BD6 hS n K s h
    |cons o r=>rw[l]at h;exact hS.trans _ _ h
   .rw[Fv,Ix (fun e=>hx e.symm),AX9];split
    .exact .inl (.inl rfl)
    exact .inl (.inr (.inl rfl))
   rw[Fv,Ix (fun e=>i e.symm),AX9,Il hx]
 cases a
end
end Go.AM
namespace Go.AM
def famC (op:Am3):Cfg->List Prop
 |.ops _ _ _ st=>match Y8 op st with
  |some (c,_)=>c
  |none=>[False]
 |_=>[False]
def famG (op:Am3):Cfg->Cfg
 |.ops all rest K st=>match Y8 op st with
  |some (_,st)=>mkO st.env st.regs fun env regs=>.ops all rest K ⟨env,regs⟩
  |none=>.ops all rest K st
 |g=>g
section
variable {S:W1}{P:Program}{F:O8}{g:Cfg}{pr pc:Prop}
theorem Nd (hS:H9 S P)(hc:pr)(d:Nat)(op:Am3)(b:pc)(hk:KG S P F (famG op (Pc P d g)))(hp:pr=G1 (Cf4 P d g):=by kernel_rfl)(f:OB (Pc P d g)=true:=by kernel_rfl)
 (a:pc=G1 (famC op (Pc P d g)):=by kernel_rfl):KG S P F g:=by
 refine⟨(Or (u:=some d) (F:=F) hS 400 [] g (by subst hp;exact hc)).2 ?_⟩;have hk:=hk.out;show G S P F (Pc P d g);generalize Pc P d g=g' at f a hk;unfold OB at f;split at f
 .rename_i all o rest K st;simp only[famC]at a;simp only[famG]at hk;cases i:Y8 op st with
  |none=>rw[i]at a;subst a;exact b.elim
  |some q=>obtain⟨c,st'⟩:=q;simp only[i,HL]at hk a;subst a;exact AK1 hS (hS.fam op _ _ c _ i b hk)
 cases f
end
def Ch2 (j k n:Nat)(e:TypeId)(g:Nat->List PV)(vw:Bool):Cfg->Cfg
 |.ops all rest K st=>mkO st.env (ins j (.vec e k n g vw) st.regs) fun env regs=>.ops all rest K ⟨env,regs⟩
 |g=>g
theorem BV0 {S:W1}{P:Program}{F:O8}{g:Cfg}{pr:Prop}(hS:H9 S P)(hc:pr)(d j:Nat){k n:Nat}{e:TypeId}{vw:Bool}(f q:Nat->List PV)(c:∀i,i<n->leC (f i) (q i))(hk:KG S P F (Ch2 j k n e q vw (Pc P d g)))
 (hp:pr=G1 (Cf4 P d g):=by kernel_rfl) (a:OB (Pc P d g)=true:=by kernel_rfl) (b:A7 (Pc P d g).st.regs j=some (.vec e k n f vw):=by kernel_rfl):KG S P F g:=by
 refine⟨(Or (u:=some d) (F:=F) hS 400 [] g (by subst hp;exact hc)).2 ?_⟩;have hk:=hk.out;show G S P F (Pc P d g);generalize Pc P d g=g1 at hk a b;unfold OB at a;split at a
 .simp only[Ch2,HL]at hk;exact AK1 hS (hS.vecq _ j n k e f q vw _ b c hk)
 cases a
theorem leCn {k:Nat}{g:Nat->List PV}:leC [.v (.slice none 0 0)] [.sl false k 0 g]:=⟨rfl,fun j=>by
 cases j with
 |zero=>exact .inr (.inr (.inl ⟨_,_,rfl,rfl⟩))
 |succ j=>exact .inl rfl⟩
theorem leCr (l:List PV):leC l l:=⟨rfl,fun _=>.inl rfl⟩
end Go.AM
namespace Go.AM
def Ch3 (op:Am3):Cfg->List Prop
 |.code _ _ st=>match Y8 op st with
  |some (c,_)=>c
  |none=>[False]
 |_=>[False]
def Ch4 (op:Am3):Cfg->Cfg
 |.code c K st=>match Y8 op st with
  |some (_,st)=>mkO st.env st.regs fun env regs=>.code c K ⟨env,regs⟩
  |none=>.code c K st
 |g=>g
def AY0 {S:W1}{P:Program}{F:O8}{g:Cfg}{pr pc:Prop}(hS:H9 S P)(hc:pr)(op:Am3)(d:pc)(hk:KG S P F (Ch4 op (stp P g)))(hp:pr=G1 (cnd P g):=by kernel_rfl)(i:FV (stp P g)=true:=by kernel_rfl)(f:P.follows .mixedOrders=true:=by kernel_rfl)
 (b:Ph (KC (stp P g)).all=true:=by kernel_rfl) (a:pc=G1 (Ch3 op (stp P g)):=by kernel_rfl):KG S P F g:=by
 refine⟨HM hS hc ?_ hp⟩;generalize stp P g=g1 at hk i b a;unfold FV at i;split at i
 .rename_i id ops K st;have hk:=hk.out;simp only[Ch4]at hk;simp only[Ch3]at a;cases j:Y8 op st with
  |none=>rw[j]at a;subst a;exact d.elim
  |some q=>
   obtain⟨c,st'⟩:=q;simp only[j,HL]at hk a;subst a;show awp S P (.region id ops true) (kp S P K F) st;simp only[awp,Rm];have l : Bl5 S P ops.toList (kp S P K F) st':=by
    have:awp S P (.region id ops true) (kp S P K F) st':=hk
    simpa only[awp,Rm]using this
   exact AW4 hS f b (hS.fam op _ _ c _ j d l)
 cases i
end Go.AM
namespace Go.AM
def AA8 {P:Program}{f:FuncId}{vw:Bool}{args:List PV}{e:TypeId}{k n:Nat}{g:Nat->List PV}(t:∀as w,(callFunc f as).run P w=.ok (.enter f as) w)(hk:∀i,i<n->(g i).length=k)
 (h:∀(w:World) (Pi:Nat->Nat->Prop) (vs:Array Value),(∀b off,Pi b off->b<w.heap.size)->vs.size=args.length->(∀i,i<args.length->RepP w Pi (vs.getD i undef) (args.getD i default)) ->
  Calls P f vs w fun x w'=>∃v,x=.returned v/\RowKit.Below w.heap.size w w' /\ ((v=.slice none 0 0/\n=0) \/ ∃b cap c,v=.slice (some ⟨b,0,none⟩) n cap/\w.heap.size<=b/\w'.heap[b]? = some (.cells c e (0,0))/\n<=cap/\c.size=cap*k/\cap<=maxLen /\
   ∀i j,i<n->j<k->RepP w Pi (c.getD (i*k+j) undef) ((g i).getD j default)/\(c.getD (i*k+j) undef).oneCell' = true)):FunO (Jw P) f (args.map .p) [] (.vec 0) [.vec e k n g vw] []:=by
 intro 𝒢 C w vs rho hG hs hsz;have y:∀j,A7 (objRegs []) j=none:=fun j=>by simp[objRegs,objRegs.go,A7]
 have h0:=h w (Prv C.X (A7 (objRegs [])) rho) vs (fun b off hp=>by
  rcases hp with hp|⟨j,o,a,_⟩
  .exact hs.hp.bound b off hp
  .simp[y]at a) (by simpa using hsz) (fun i s=>by
  have:=hs.env i
  rw[CZ]at this;have e:(args.map AV.p).getD i .top=.p (args.getD i default):=by simp[s]
  rw[e]at this;exact this.toP)
 refine⟨_,_,t _ _,callsIn_wide.2 (h0.mono ?_)⟩;rintro x w' ⟨v,rfl,hb,hv⟩;have hR:∀j o,A7 (objRegs [Obj.vec e k n g vw]) j=some o->j=0/\o=.vec e k n g vw:=fun j o a=>by
  simp only[objRegs,objRegs.go,A7]at a;split at a
  .rename_i hj0;cases a;exact⟨hj0.symm,rfl⟩
  cases a
 have z:A7 (objRegs [Obj.vec e k n g vw]) 0=some (.vec e k n g vw):=rfl
 let rho' : Nat->Value:=fun j=>if j=0 then v else rho j
 have hr0:rho' 0=v:=rfl;have l:∀b,H8 v (.vec e k n g vw) b->w.heap.size<=b/\b<w'.heap.size:=by
  intro b a0;rcases hv with⟨rfl,_⟩ | ⟨b',cap,c,rfl,h1,h2,_⟩
  .cases a0
  cases a0;exact⟨h1,(Cm4.1 h2).1⟩
 have a1:∀b o,Prv C.X (A7 (objRegs [Obj.vec e k n g vw])) rho' b o->C.X b o \/ w.heap.size<=b:=by
  rintro b o (hX|⟨j,o',a,d,_⟩)
  .exact .inl hX
  obtain⟨rfl,rfl⟩:=hR j o' a;exact .inr (l b d).1
 have m:Keeps w (Prv C.X (A7 (objRegs [])) rho) w' (Prv C.X (A7 (objRegs [Obj.vec e k n g vw])) rho'):=fun b o u hp hc=>by
  have q:=Cy2 w ⟨b,o,none⟩ hc;refine⟨by rw[<- hc];exact Cq4 (hb.block b q),fun hpp=>?_⟩;rcases a1 b o hpp with hX|hge
  .exact hp (.inl hX)
  have:b<w.heap.size:=q
  omega
 refine⟨C,.ret (.vec 0),[.vec e k n g vw],[],rho',hG,⟨rfl,rfl,rfl⟩,?_,⟨v,rfl,?_⟩,fun i s=>by simp at s⟩
 .refine⟨⟨fun j o a=>?_,fun i j oi oj b s a _ _=>by rw[(hR i oi s).1,(hR j oj a).1],fun j o b off a d hX=>?_,fun b off hp=>Cm6 (hs.hp.bound b off hp) hb.size⟩,hs.ext.trans ⟨hb.os,hb.output⟩,Cp0 hs.size hb.size,fun b q hE=>?_,hs.keep.trans m,fun b d=>?_,fun j r b a=>by cases (hR j _ a).2⟩
  .obtain⟨rfl,rfl⟩:=hR j o a;rw[hr0];rcases hv with hn|⟨b,cap,c,rfl,h1,h2,h3,h4,h5,h6⟩
   .exact .inl hn
   exact .inr ⟨b,cap,c,rfl,h2,h3,h4,h5,hk,fun i j s a=>⟨(h6 i j s a).1.keeps m,(h6 i j s a).2⟩⟩
  .obtain⟨rfl,rfl⟩:=hR j o a;have h1:=(l b d).1;have h2:=hs.hp.bound b off hX;omega
  .rw[hb.block b (Cm6 q hs.size)];exact hs.same b q hE
  obtain⟨j,o,a,d⟩:=d;obtain⟨rfl,rfl⟩:=hR j o a;exact .inr (Cp0 hs.size (l b d).1)
 rcases hv with⟨rfl,_⟩ | ⟨b,cap,c,rfl,_⟩
 .exact .vec 0 none 0 0 (by simp[Lv,z]) rfl
 exact .vec 0 _ n cap (by simp[Lv,z]) rfl
end Go.AM
namespace Go.AM
open Go.RowKit Go.ChangeShapes
end Go.AM
namespace Go.AM
section
variable {S:W1}{P:Program}{F:O8}{K:List It}{st:St}{g:Cfg}{pr:Prop}
def BV1 (p:Option PV)(r:UY):Prop:=match p with
 |none=>∃a,r=.ret a
 |some x=>r=.panic x
def VG (S:W1)(f:FuncId)(first caps:List AV)(objs:List Obj)(L:List (List PV))(p:Option PV):Prop:= S.F f (first ++ .yf objs.length::caps) (objs++[.yld L true]) fun r objs' ks=>∃b,objs'[objs.length]? = some (.yld [] b)/\ks[objs.length]? = some true/\(b=true->BV1 p r)/\(b=false->∃a,r=.ret a)
def endP:Option PV->UX
 |none=>.normal
 |some x=>.panic x
theorem BF8 (hS:H9 S P){g:Operand}{ps:Array Tmp}{asg body:Code}{f:FuncId}{first caps as bs:List AV}{objs:List Obj}(ids ts:List Nat)(gh:Nat)(L:List (List PV)){p:Option PV}{X:Type}(s:X->St)(J:List (List PV)->X->Prop)(x0:X)(idl:List (Nat×Nat))
 (hp:Hh st.env g=some (f,first,caps)) (n:∃fn,P.funcs[f]? = some fn/\fn.body.isSome=true/\(fn.name == "runtime.NumGoroutine")=false) (q:O9 ids st.regs ids=some objs) (t:GE objs=true) (hd:J0 ids=true) (u:Fn ids first=some as) (v:Fn ids caps=some bs) (w:objs.length=ids.length)
 (z:gh<1000) (a0:A7 st.regs gh=none) (a1:ids.length<1000) (a2:J0 ts=true) (d:∀ys∈L,ys.length=ps.size)
 (hF:VG S f as bs objs L p) (hle:Le idl ⟨Bk ts (ts.map (get st.env)),R7 ids (ids.map fun _=>false) st.regs⟩ (s x0)) (h0:J L x0) (hk:∀x,(s x).env.map (·.1)=ts) (hn:∀x,A7 (s x).regs gh=none)
 (c:∀ys rest x,J (ys::rest) x->G S P (Dr S P body gh ts (BD4 s J rest) (kp S P K F)) (.code asg [] ⟨Pj ps.toList ys (s x).env,ins gh (.ghost ((s x).env.map (·.2))) (s x).regs⟩))
 (i:∀x,J [] x->G S P F (.pop (endP p) K (s x))):G S P F (.code (.rangeFunc g ps asg body) K st):=by
 have j:∀{l:List Nat},J0 l=true->l.Nodup:=by
  intro l
  induction l with
  |nil=>intro _;exact CB0
  |cons a r ih=>intro h;simp only[J0,Cl8,Co5,Cq5,decide_eq_false_iff_not]at h;exact Cs6.2 ⟨h.1,ih h.2⟩
 refine⟨f,first,caps,as,bs,objs,ids,ts,gh,L,BD4 s J,fun b r=>b=true->BV1 p r,hp,n,t,hd,u,v,q,z,a0,a1,j a2,d,hS.le idl _ _ _ hle ⟨hk x0,hn x0,x0,rfl,h0⟩,?_,?_,?_⟩
 .rintro ys rest _ _ _ ⟨x,rfl,hJ⟩;have h:=c ys rest x hJ;have e:Dr S P body gh ts (BD4 s J rest) (kp S P K F)=fun e s'=>match e with
   |.normal=>S.up s' fun s'=>awp S P body (FL S gh ts (BD4 s J rest) (kp S P K F)) s'
   |_=>False:=by funext e s';cases e<;>rfl
  rw[e]at h;exact h
 .rintro _ r _ _ ⟨x,rfl,hJ⟩ hf;have h1:=hf rfl;have m:=i x hJ;cases p with
  |none=>obtain⟨a,rfl⟩:=h1;exact m
  |some y=>cases h1;exact m
 rw[<- w];refine hS.monoF _ _ _ _ _ ?_ hF;rintro r o ks ⟨b,h1,m,h3,h4⟩;exact⟨b,h1,m,h3,h4⟩
theorem BF9 (hS:H9 S P){g:Operand}{ps:Array Tmp}{asg body:Code}{f:FuncId}{first caps as bs:List AV}{objs:List Obj}{R T A:Type}{enc:T->List PV}{L:List T}{p:Option PV}{mb:(A->Option R)->T->A->Option R}{mk:A->Option R}{a0:A}{r:R}
 (ids ts:List Nat) (gh:Nat) (s:A->St) (idl:List (Nat×Nat)) (h:Q5 L mb mk a0=some r) (y:VG S f as bs objs (L.map enc) p)
 (hp:Hh st.env g=some (f,first,caps)) (j:∃fn,P.funcs[f]? = some fn/\fn.body.isSome=true/\(fn.name == "runtime.NumGoroutine")=false) (l:O9 ids st.regs ids=some objs) (m:GE objs=true) (z:J0 ids=true) (n:Fn ids first=some as) (o:Fn ids caps=some bs) (q:objs.length=ids.length)
 (u:Nat.blt gh 1000=true) (v:A7 st.regs gh=none) (w:Nat.blt ids.length 1000=true) (x:J0 ts=true) (d:∀t:T,(enc t).length=ps.size)
 (hle:Le idl ⟨Bk ts (ts.map (get st.env)),R7 ids (ids.map fun _=>false) st.regs⟩ (s a0)) (hk:∀a,(s a).env.map (·.1)=ts) (hn:∀a,A7 (s a).regs gh=none)
 (b:∀(t:T) (next:St->Prop) (c:A->Option R) (a:A),(∀(st st1:St) (cs:List AV) (idl:List (Nat×Nat)) (a:A),Le idl st st1->A7 st1.regs gh=some (.ghost cs)->cs.length=ts.length->A7 (del gh st1.regs) gh=none->(⟨Bk ts cs,del gh st1.regs⟩:St)=s a->c a=some r->G S P (FL S gh ts next (kp S P K F)) (.pop .normal [] st)) ->
  mb c t a=some r->G S P (Dr S P body gh ts next (kp S P K F)) (.code asg [] ⟨Pj ps.toList (enc t) (s a).env,ins gh (.ghost ((s a).env.map (·.2))) (s a).regs⟩))
 (i:∀a,mk a=some r->G S P F (.pop (endP p) K (s a))):G S P F (.code (.rangeFunc g ps asg body) K st):=by
 refine BF8 hS ids ts gh (L.map enc) s (fun rest a=>∃L',rest=L'.map enc/\Q5 L' mb mk a=some r) a0 idl hp j l m z n o q (by simpa[CD3]using u) v (by simpa[CD3]using w) x (fun ys hy=>?_) y hle ⟨L,rfl,h⟩ hk hn ?_ ?_
 .obtain⟨t,_,rfl⟩:=Cp2.1 hy;exact d t
 .rintro ys rest a ⟨L',hL,hx⟩;cases L' with
  |nil=>cases hL
  |cons t L'=>simp only[Cp1,Cw8]at hL;obtain⟨rfl,rfl⟩:=hL;refine b t _ (Q5 L' mb mk) a (fun st st1 cs idl a hle h1 h2 h3 h4 h5=>?_) hx;exact AM0 hS st1 a idl hle h1 h2 h3 h4 ⟨L',rfl,h5⟩
 rintro a ⟨L',hL,hx⟩;cases L' with
 |nil=>exact i a hx
 |cons t L'=>cases hL
theorem AY1 (hS:H9 S P)(hc:pr){f:FuncId}{as bs:List AV}{objs:List Obj}{R T A:Type}{enc:T->List PV}{L:List T}{p:Option PV}{mb:(A->Option R)->T->A->Option R}{mk:A->Option R}{a0:A}{r:R}
 (ids ts:List Nat) (gh:Nat) (s:A->St) {idl:List (Nat×Nat)}(h:Q5 L mb mk a0=some r) (x:VG S f as bs objs (L.map enc) p)
 (i:∀t:T,(enc t).length=(Nc (stp P g)).size) (hk:∀a,(s a).env.map (·.1)=ts) (hn:∀a,A7 (s a).regs gh=none) (m:∀a,(⟨Bk ts ((s a).env.map (·.2)),del gh (ins gh (.ghost ((s a).env.map (·.2))) (s a).regs)⟩:St)=s a)
 (c:∀(t:T) (next:St->Prop) (d:A->Option R) (a:A),
  (∀(g' : Cfg) (ids:List (Nat×Nat)) (pr:Prop) (a:A),pr->d a=some r->(hp:pr=G1 (cnd P g'):=by kernel_rfl)->(b:stp P g' = .pop .normal [] (stp P g').st:=by kernel_rfl)->(hle:KLe ids (stp P g').st (rst gh (s a)):=by exact kl)->KG S P (FL S gh ts next (kp S P (stp P g).k F)) g') ->
  mb d t a=some r->KG S P (Dr S P (AA5 (stp P g)) gh ts next (kp S P (stp P g).k F)) (.code (AA4 (stp P g)) [] (AA7 gh (Nc (stp P g)) (enc t) (s a))))
 (j:∀a,mk a=some r->KG S P F (.pop (endP p) (stp P g).k (s a)))
 (hp:pr=G1 (cnd P g):=by kernel_rfl) (b:AA3 P ids (stp P g)=some (f,as,bs,objs):=by kernel_rfl) (o:Nat.blt gh 1000=true:=by kernel_rfl) (n:A7 (stp P g).st.regs gh=none:=by kernel_rfl) (q:J0 ts=true:=by kernel_rfl)
 (hle:KLe idl (AA6 ids ts (stp P g)) (s a0):=by exact kl):KG S P F g:=by
 refine⟨HM hS hc ?_ hp⟩;have u:=(MD b).2;replace b:=(MD b).1;generalize stp P g=g1 at i c j b n hle;unfold VE at b;split at b
 .rename_i op ps asg body K st;split at b
  .rename_i f' first caps v
   split at b
   .rename_i objs' as' bs' y z h4;split at b
    .rename_i w;simp only[Cl5,Cm7]at b;obtain⟨rfl,rfl,rfl,rfl⟩:=b;simp only[Cl8,Co5,beq_iff_eq]at w;obtain⟨⟨⟨e3,e4⟩,e5⟩,e6⟩:=w;refine BF9 hS ids ts gh s idl h x v u y e3 e4 z h4 e5 o n e6 q i hle.out hk hn (fun t next d a hb hm=>?_) (fun a hm=>(j a hm).out);refine (c t next d a (fun g' ids' pr a hc l hp b hle=>⟨HM hS hc ?_ hp⟩) hm).out;rw[b];have hl:((s a).env.map (·.2)).length=ts.length:=by rw[<- hk a];simp
     refine hb _ (rst gh (s a)) ((s a).env.map fun p=>p.2) ids' a hle.out (KD gh (s a)) hl ?_ (m a) l
     have:=congrArg St.regs (m a)
     simp only at this;show A7 (del gh (ins gh _ _)) gh=none;rw[this];exact hn a
    cases b
   cases b
  cases b
 cases b
theorem Bq2 (hS:H9 S P){f:FuncId}{fn:Func}{first caps:List AV}{objs:List Obj}{L:List (List PV)}{p:Option PV}(i:P.funcs[f]? = some fn)
 (h:KG S P (EI S P (objs++[Obj.yld L true]).length fn.results.toList fun r objs' ks=>∃b,objs'[objs.length]? = some (.yld [] b)/\ks[objs.length]? = some true/\(b=true->BV1 p r)/\(b=false->∃a,r=.ret a)) (.code (fn.body.getD .skip) [] { env:=argEnv (first ++ .yf objs.length::caps),regs:=objRegs (objs++[Obj.yld L true]) }))
 (hc:fn.body.isSome=true:=by kernel_rfl) (hn:Nat.ble (first ++ .yf objs.length::caps).length fn.ntmps=true:=by kernel_rfl) (j:Nat.blt (objs++[Obj.yld L true]).length 1000=true:=by kernel_rfl)
 (d:Cs fn.ntmps (fn.body.getD .skip)=true:=by kernel_rfl) (g:(fn.name == "runtime.NumGoroutine")=false:=by kernel_rfl):VG S f first caps objs L p:=by
 obtain⟨code,c⟩:=Co0.1 hc;rw[c,Cm5]at d h;exact Rj hS i c (Ct2 hn) (by simpa[CD3]using j) rfl d g h.out
theorem BG0 (hS:H9 S P){f:FuncId}{fn:Func}{args:List AV}{objs:List Obj}{Q:UY->List Obj->List Bool->Prop}(d:P.funcs[f]? = some fn)
 (h:KG S P (EI S P objs.length fn.results.toList Q) (.code (fn.body.getD .skip) [] { env:=argEnv args,regs:=objRegs objs }))
 (hc:fn.body.isSome=true:=by kernel_rfl) (hn:Nat.ble args.length fn.ntmps=true:=by kernel_rfl) (g:Nat.blt objs.length 1000=true:=by kernel_rfl)
 (b:Cs fn.ntmps (fn.body.getD .skip)=true:=by kernel_rfl) (c:(fn.name == "runtime.NumGoroutine")=false:=by kernel_rfl):S.F f args objs Q:=by
 obtain⟨code,a⟩:=Co0.1 hc;rw[a,Cm5]at b h;exact Rj hS d a (Ct2 hn) (by simpa[CD3]using g) rfl b c h.out
def panE:Cfg->Option PV
 |.ops all (o::_) _ st=>match DZ all st.env o,o.op with
  |some true,.panic x=>match aev st.env x with
   |.p (.iface t y)=>some (.iface t y)
   |_=>none
  |_,_=>none
 |_=>none
def panC (x:PV):Cfg->Cfg
 |.ops _ _ K st=>.pop (.panic x) K st
 |g=>g
theorem BV2 (hS:H9 S P)(hc:pr){x:PV}(hk:KG S P F (panC x (stp P g)))(hp:pr=G1 (cnd P g):=by kernel_rfl)(a:panE (stp P g)=some x:=by kernel_rfl):KG S P F g:=by
 refine⟨HM hS hc ?_ hp⟩;have hk:=hk.out;generalize stp P g=g1 at hk a;unfold panE at a;split at a
 .rename_i all o rest K st;split at a
  .rename_i y b c;split at a
   .rename_i t z hx;cases a;exact BS6 hS b c hx hk
   cases a
  cases a
 cases a
def BG1:Cfg->Option PV
 |.pop (.panic x) [] _=>some x
 |_=>none
theorem BN4 (hS:H9 S P)(hc:pr){n:Nat}{rs:List ResultVar}{Q:UY->List Obj->List Bool->Prop}{x:PV}{objs:List Obj}(outs:List Nat)(c:Q (.panic x) objs (Jt n outs))(hp:pr=G1 (cnd P g):=by kernel_rfl)
 (a:BG1 (stp P g)=some x:=by kernel_rfl) (d:J0 outs=true:=by kernel_rfl) (b:O9 outs (stp P g).st.regs outs=some objs:=by kernel_rfl):KG S P (EI S P n rs Q) g:=by
 refine⟨HM hS hc ?_ hp⟩;generalize stp P g=g1 at a b;unfold BG1 at a;split at a
 .cases a;exact⟨outs,objs,d,b,c⟩
 cases a
theorem BV3 (hS:H9 S P){all rest:List Oper}{o:Oper}{c:Call}{f:Operand}{as:List AV}{regs:F5}{fn:FuncId}{as' args:List AV}{objs objs' : List Obj}{ks:List Bool}{x:PV}(ids:List Nat)
 (d:DZ all st.env o=some true) (g:o.op=.call c) (b:c.callee=.value f) (ha:YV st.regs (c.args.toList.map (aev st.env))=some (as,regs))
 (hw:Aw4 st.env f as=some (fn,as')) (i:Fn ids as' = some args) (a:O9 ids regs ids=some objs) (j:S.F fn args objs fun res o k=>res=.panic x/\o=objs' /\ k=ks)
 (l:J0 ids=true) (hy:GE objs=true) (hn:Dl regs ids ks (o.dst.getD 0) objs'.length=true)
 (hk:G S P F (.pop (.panic x) K { env:=st.env,regs:=Aw3 (N5 (o.dst.getD 0) ids ks objs'.length) (N5 (o.dst.getD 0) ids ks objs'.length) objs' (R7 ids ks regs) })) :
 G S P F (.ops all (o::rest) K st):=by
 refine FM hS d ?_;unfold wOp;obtain⟨callee,cargs,types⟩:=c;simp only at b ha;subst b;rw[g];refine .inl ⟨as,regs,_,_,.inl ha,hw,ids,args,objs,l,i,a,hy,hS.monoF _ _ _ _ _ ?_ j⟩;rintro _ _ _ ⟨rfl,rfl,rfl⟩;exact⟨hn,hk⟩
def BN5 (ids:List Nat)(ks:List Bool)(x:PV)(objs' : List Obj):Cfg->Cfg
 |.ops all (o::rest) K st=>match o.op with
  |.call c=>match YV st.regs (c.args.toList.map (aev st.env))with
   |some (_,regs)=>mkO st.env (Aw3 (N5 (o.dst.getD 0) ids ks objs'.length) (N5 (o.dst.getD 0) ids ks objs'.length) objs' (R7 ids ks regs)) fun env regs=>.pop (.panic x) K ⟨env,regs⟩
   |none=>.ops all (o::rest) K st
  |_=>.ops all (o::rest) K st
 |g=>g
theorem BV4 (hS:H9 S P)(ids:List Nat)(hc:pr){fn:FuncId}{args:List AV}{objs objs' : List Obj}{x:PV}{ks:List Bool}(i:S.F fn args objs fun res o k=>res=.panic x/\o=objs' /\ k=ks)
 (hk:KG S P F (BN5 ids ks x objs' (stp P g))) (hp:pr=G1 (cnd P g):=by kernel_rfl) (a:Bf6 ids (stp P g)=some (fn,args,objs):=by kernel_rfl) (hn:Bf7 ids ks objs'.length (stp P g)=true:=by kernel_rfl):KG S P F g:=by
 refine⟨HM hS hc ?_ hp⟩;replace hk:=hk.out;generalize stp P g=g' at a hn hk;unfold Bf6 at a;split at a
 .split at a
  .rename_i j f;split at a
   .rename_i c;split at a
    .rename_i ha;split at a
     .rename_i hw;split at a
      .rename_i l d;split at a
       .rename_i b;cases a;simp only[Cl8]at b;simp only[BN5,Bf7,f,ha,HL]at hk hn;exact BV3 hS ids j f c ha hw l d i b.1 b.2 hn hk
       cases a
      cases a
     cases a
    cases a
   cases a
  cases a
 cases a
def Ai6 (S:W1)(R:St->Prop)(X:PV->St->Prop):O8
 |.normal,st=>S.up st R
 |.panic x,st=>X x st
 |_,_=>False
theorem K_upN (hS:H9 S P)(hc:pr){R:St->Prop}{X:PV->St->Prop}(st:St){ids:List (Nat×Nat)}(hR:R st)(hp:pr=G1 (cnd P g):=by kernel_rfl)(a:stp P g=.pop .normal [] (stp P g).st:=by kernel_rfl)
 (hle:KLe ids (stp P g).st st:=by exact kl):KG S P (Ai6 S R X) g:=by
 refine⟨HM hS hc ?_ hp⟩;rw[a];exact hS.le ids _ _ R hle.out hR
theorem K_upP (hS:H9 S P)(hc:pr){R:St->Prop}{X:PV->St->Prop}{x:PV}(b:X x (stp P g).st)(hp:pr=G1 (cnd P g):=by kernel_rfl)(a:BG1 (stp P g)=some x:=by kernel_rfl):KG S P (Ai6 S R X) g:=by
 refine⟨HM hS hc ?_ hp⟩;generalize stp P g=g1 at a b;unfold BG1 at a;split at a
 .cases a;exact b
 cases a
end
end Go.AM
namespace Go.AM
section
variable {S:W1}{P:Program}{F:O8}{K:List It}{g:Cfg}{pr:Prop}
end
end Go.AM
