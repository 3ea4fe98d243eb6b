/- Part 4. -/
import Derived.Test.YtlbooedblpdmaaaGreatDoorEC
import Derived.ProofKit
import Derived.WideKeyArgs
import Derived.Deep.Slices
import Derived.OpenShut
import Derived.KernelRfl
set_option linter.defProp false
set_option linter.unusedSimpArgs false
set_option linter.unusedVariables false
set_option linter.unusedSectionVars false
namespace Go.AM
def Pq:=True.intro
def Bm2:=@Int.toNat_natCast
def Bp0:=@List.mem_map
def Bq2:=@BitVec.eq_of_toNat_eq
def Bs4:=@List.map_append
def Bs7:=@Nat.le_of_ble_eq_true
def Bu3:=@List.range_succ
def Bu6:=@List.mem_singleton
def Bv8:=@Nat.shiftRight_eq_div_pow
def Bw0:=@Nat.pow_le_pow_right
def Bw4:=@BitVec.toNat_ushiftRight
def Bx4:=@List.take_append_drop
def Bx7:=@Nat.blt_eq
def By1:=@List.tail_cons
def BA4:=@Nat.min_eq_right
def BB8:=@Int.fdiv_eq_ediv_of_nonneg
def BC2:=@List.drop_zero
def BC6:=@List.length_range
def BE1:=@List.filter_cons
def BE3:=@BitVec.toNat_shiftLeft
def BF3:=@Go.WideShapes.add_plain
def BG4:=@BitVec.toNat_ofInt
def BG5:=@Int.natCast_nonneg
def BG6:=@List.sum_cons
def BG7:=@List.getElem_range
def clsOf:Op->Cls
 |.store .. | .alloc _ | .box .. | .buildSlice .. | .makeMap .. | .makeSlice .. | .mapUpdate .. | .entryStore .. | .mapEntry ..=>.w
 |.load .. | .indexAddr .. | .lookup ..=>.r
 |.call { callee:=.builtin .len,.. } | .call { callee:=.builtin .cap,.. }=>.r
 |.call { callee:=.builtin .min,.. } | .call { callee:=.builtin .max,.. }=>.n
 |.call _=>.w
 |_=>.n
def isR (env:Env):Op->Bool
 |.load .. | .indexAddr ..=>true
 |.lookup _ _ k _=>isP (aev env k)
 |.call { callee:=.builtin .len,.. }=>true
 |o=>isN env o
def inJ (js:List Nat):AV->Bool
 |.p _=>true
 |.vec i=>js.contains i
 |.vecp i _=>js.contains i
 |_=>false
def adJ (js:List Nat):AV->Bool
 |.reg i _=>js.contains i
 |.elt i _ _ _=>js.contains i
 |_=>false
def mrJ (js:List Nat):AV->Bool
 |.mref i=>js.contains i
 |_=>false
def isL (js:List Nat)(env:Env):Op->Bool
 |.lookup _ m k _=>mrJ js (aev env m)&&isP (aev env k)
 |.load _ a=>adJ js (aev env a)
 |.indexAddr _ x _=>adJ js (aev env x)||inJ js (aev env x)
 |.call { callee:=.builtin .len,args,.. }=>args.toList.all fun x=>inJ js (aev env x)
 |_=>false
def isA (js:List Nat)(env:Env)(d:Nat):Op->Bool
 |.alloc _=>js.contains (nid d 0)
 |.box _ _=>js.contains (nid d 0)
 |.store _ a _=>adJ js (aev env a)
 |.call { callee:=.builtin .append,args,.. }=>js.contains (nid d 0)&&args.toList.all fun x=>inJ js (aev env x)
 |.buildSlice _ _ parts=>js.contains (nid d 0)&&parts.toList.all fun q=>isP (aev env q.2)
 |_=>false
def isB (js:List Nat)(env:Env)(d:Nat):Op->Bool
 |.buildSlice _ _ parts=>js.contains (nid d 0)&&parts.toList.all fun q=>inJ js (aev env q.2)
 |_=>false
def Ah1 (cl:Cls)(env:Env)(d:Nat)(o:Op):Bool:=match cl with
 |.n=>isN env o
 |.r=>isR env o
 |.w=>true
 |.l j=>isL j env o
 |.a j=>isA j env d o
 |.b j=>isB j env d o
structure SRes:Type 1 where
 conds:List Prop
 cls:List Cls
 rest:List Oper
 env:Env
 regs:D8
def Be8 (kn:List Nat)(all:List Oper)(env:Env)(o:Oper):Bool:=match o.guard with
 |none=>false
 |some (j,_)=>match kn.contains j with
  |true=>false
  |false=>match get env (Gi all j)with
   |.p (.bb _)=>true
   |_=>false
def OO (P:Program)(kn:List Nat)(all:List Oper):List Cls->List Oper->List Prop->Env->D8->SRes
 |cl::cls,o::rest,c,env,regs=>
  match Be8 kn all env o with
  |true=>⟨c,cl::cls,o::rest,env,regs⟩
  |false=>match BF all env o with
  |some true=>match AM4 o.op&&Ah1 cl env (o.dst.getD 0) o.op with
   |true=>match aop P env regs (o.dst.getD 0) o.op with
    |none=>⟨c,cl::cls,o::rest,env,regs⟩
    |some ⟨p,v,regs'⟩=>fA v fun v=>fR regs' fun regs'=>fC p c fun c=>
     match o.dst with
     |some d=>Ao1 d v env fun env=>OO P kn all cls rest c env regs'
     |none=>OO P kn all cls rest c env regs'
   |false=>⟨c,cl::cls,o::rest,env,regs⟩
  |some false=>match o.dst with
   |some d=>Ao1 d BB env fun env=>OO P kn all cls rest c env regs
   |none=>OO P kn all cls rest c env regs
  |none=>⟨c,cl::cls,o::rest,env,regs⟩
 |cls,rest,c,env,regs=>⟨c,cls,rest,env,regs⟩
section
variable {S:U3}{P:Program}
theorem AE0 {env:Env}{R R' : D8}{d:Nat}{o:Op}{c:List Prop}{v:AV}(f:isR env o=true)(h:aop P env R d o=some ⟨c,v,R'⟩):R' = R:=by
 have gen:isN env o=true->R' = R:=fun hn=>(RV hn h).1;cases o with
 |load t a=>
  simp only[aop]at h;split at h
  .simp only[Bm4,Out.mk.injEq]at h;exact h.2.2.symm
  cases h
 |indexAddr t x i=>
  simp only[aop]at h;split at h
  .split at h
   .simp only[Bm4,Out.mk.injEq]at h;exact h.2.2.symm
   cases h
  cases h
 |lookup t m k ok=>
  simp only[isR]at f;cases hk:aev env k<;>simp only[hk,isP,Bn1]at f;simp only[aop,hk,Em]at h;split at h
  .simp only[Bm4,Out.mk.injEq]at h;exact h.2.2.symm
  cases h
 |call cc=>
  obtain⟨callee,args,types⟩:=cc;cases callee with
  |builtin b=>
   cases b with
   |len=>
    simp only[aop]at h;split at h
    .split at h
     .simp only[Bm4,Out.mk.injEq]at h;exact h.2.2.symm
     cases h
    cases h
   |_=>exact gen f
  |_=>exact gen f
 |_=>exact gen f
theorem EW (regs:D8)(d t:Nat)(x:Obj):A2 (ins d x regs) t=if d=t then some x else A2 regs t:=by
 induction regs with
 |nil=>simp[ins,A2]
 |cons p r ih=>
  obtain⟨i,b⟩:=p;simp only[ins];split
  .simp only[A2]
  split
  .rename_i h;subst h;simp only[A2];split<;>rfl
  rename_i h1 a;simp only[A2,ih];by_cases h:i=t
  .simp only[h,Pn];rw[Pl (by omega)]
  simp only[h,Po]
theorem Zf {js:List Nat}{a:AV}(h:adJ js a=true):∃i∈js,(∃off,a=.reg i off) \/ ∃k n off,a=.elt i k n off:=by
 cases a with
 |reg i off=>exact⟨i,by simpa[adJ]using h,.inl ⟨off,rfl⟩⟩
 |elt i k n off=>exact⟨i,by simpa[adJ]using h,.inr ⟨k,n,off,rfl⟩⟩
 |_=>cases h
section
variable {js:List Nat}{R R2:D8}(hR:∀q∈js,A2 R2 q=A2 R q)
include hR
theorem AE1 {t:TypeId}{a:AV}(ha:adJ js a=true):load P R2 t a=load P R t a:=by obtain⟨i,b,⟨off,rfl⟩ | ⟨k,n,off,rfl⟩⟩:=Zf ha<;>simp only[load,hR i b]
theorem Ah2 {t:TypeId}{x:AV}{n:Int}(ha:(adJ js x||inJ js x)=true):EN P R2 t x n=EN P R t x n:=by
 cases x with
 |vec i=>
  have a:i∈js:=by simpa[adJ,inJ]using ha
  unfold EN;cases tk P t with
  |none=>rfl
  |some k=>cases k<;>first|rfl|simp only[hR i a]
 |vecp i m=>
  have a:i∈js:=by simpa[adJ,inJ]using ha
  unfold EN;cases tk P t with
  |none=>rfl
  |some k=>cases k<;>first|rfl|simp only[hR i a]
 |reg i off=>unfold EN;cases tk P t with
  |none=>rfl
  |some k=>cases k<;>rfl
 |p y=>unfold EN;cases tk P t with
  |none=>rfl
  |some k=>cases k<;>cases y<;>rfl
 |elt i k n off=>unfold EN;cases tk P t with
  |none=>rfl
  |some k=>cases k<;>rfl
 |_=>cases ha
theorem AE2 {t:TypeId}{x:AV}(ha:inJ js x=true):Al1 P R2 t x=Al1 P R t x:=by
 cases x with
 |vec i=>
  have a:i∈js:=by simpa[inJ]using ha
  unfold Al1;cases tk P t with
  |none=>rfl
  |some k=>cases k<;>first|rfl|simp only[hR i a]
 |vecp i m=>unfold Al1;cases tk P t with
  |none=>rfl
  |some k=>cases k<;>rfl
 |p y=>unfold Al1;split<;>simp_all
 |_=>cases ha
theorem UA {k:Nat}{x:AV}(ha:inJ js x=true):elems R2 k x=elems R k x:=by
 cases x with
 |vec i=>
  have a:i∈js:=by simpa[inJ]using ha
  simp only[elems,hR i a]
 |vecp i m=>
  have a:i∈js:=by simpa[inJ]using ha
  simp only[elems,hR i a]
 |p y=>unfold elems;split<;>simp_all
 |_=>cases ha
theorem Ar2 {e:TypeId}{k:Nat}{x:AV}{q:Nat×(Nat->List PV)×Bool×D8}(ha:inJ js x=true)(h:Ru R e k x=some q) :(Ru R2 e k x=some (q.1,q.2.1,q.2.2.1,R2)/\q.2.2.2=R) \/ ∃j∈js,Ru R2 e k x=some (q.1,q.2.1,q.2.2.1,ins j .dead R2)/\q.2.2.2=ins j .dead R:=by
 cases x with
 |vec i=>
  have b:i∈js:=by simpa[inJ]using ha
  simp only[Ru]at h⊢;rw[hR i b]
  right
  refine⟨i,b,?_⟩;cases a:A2 R i with
  |none=>simp[a]at h
  |some o=>
   cases o with
   |vec e' m n f vw=>
    simp only[a]at h⊢;split at h
    .rename_i hc;cases h;exact⟨by rw[Pk hc],rfl⟩
    cases h
   |_=>simp[a]at h
 |vecp i m=>
  have b:i∈js:=by simpa[inJ]using ha
  simp only[Ru]at h⊢;rw[hR i b]
  right
  refine⟨i,b,?_⟩;cases a:A2 R i with
  |none=>simp[a]at h
  |some o=>
   cases o with
   |vec e' m n f vw=>
    cases vw with
    |true=>simp[a]at h
    |false=>
     simp only[a]at h⊢;split at h
     .rename_i hc;cases h;exact⟨by rw[Pk hc],rfl⟩
     cases h
   |_=>simp[a]at h
 |p y=>
  left
  unfold Ru at h⊢;split at h
  .cases h;exact⟨rfl,rfl⟩
  .rename_i h1;cases h1
  .rename_i h1;cases h1
  cases h
 |_=>cases ha
theorem Ar3 {t:TypeId}{a x:AV}{c:List Prop}{R' : D8}(ha:adJ js a=true)(h:store P R t a x=some (c,R')):∃i∈js,∃o,R' = ins i o R/\store P R2 t a x=some (c,ins i o R2):=by
 obtain⟨i,s,g⟩:=Zf ha;refine⟨i,s,?_⟩;have r:=hR i s;have fin:∀(p:Prop) [Decidable p] (c0:List Prop) (o:Obj),(if p then some (c0,ins i o R)else none)=some (c,R')->∃o',R' = ins i o' R/\(if p then some (c0,ins i o R2)else none)=some (c,ins i o' R2):=by
  intro p _ c0 o h;split at h
  .rename_i hc;simp only[Bm4,Bn4]at h;obtain⟨rfl,rfl⟩:=h;exact⟨o,rfl,by rw[Pk hc]⟩
  cases h
 cases b:tsz P t with
 |none=>simp[store,b]at h
 |some m=>
  cases d:Cp x with
  |false=>simp[store,b,d]at h
  |true=>
   cases j:A2 R i with
   |none=>rcases g with⟨off,rfl⟩ | ⟨k,n,off,rfl⟩<;>simp[store,b,d,j]at h
   |some o=>
    rw[j]at r;rcases g with⟨off,rfl⟩ | ⟨k,n,off,rfl⟩
    .simp only[store,b,d,j,r]at h⊢;cases o with
     |cells cs=>exact fin _ _ _ h
     |arr n f=>
      cases x with
      |p y=>cases y with
       |agg ps=>exact fin _ _ _ h
       |_=>exact fin _ _ _ h
      |_=>simp at h
     |_=>simp at h
    simp only[store,b,d,j,r]at h⊢;cases o with
    |vec e k' n' f vw=>
     cases vw with
     |true=>simp at h
     |false=>cases x with
      |p y=>exact fin _ _ _ h
      |_=>simp at h
    |fam e n' jr x0=>
     cases x0 with
     |none=>simp at h
     |some q=>
      cases hl:cellsOf x with
      |nil=>simp[hl]at h
      |cons y l=>cases l with
       |nil=>simp only[hl]at h⊢;exact fin _ _ _ h
       |cons=>simp[hl]at h
    |_=>simp at h
end
theorem AE3 {js:List Nat}{env:Env}{R R' : D8}{d:Nat}{o:Op}{c:List Prop}{v:AV}(f:isL js env o=true)(h:aop P env R d o=some ⟨c,v,R'⟩):R' = R/\∀R2,(∀q∈js,A2 R2 q=A2 R q)->aop P env R2 d o=some ⟨c,v,R2⟩:=by
 cases o with
 |lookup t m k ok=>
  simp only[isL,Bm8]at f;obtain⟨hm,hk⟩:=f;simp only[aop]at h⊢;cases ek:aev env k<;>simp only[ek,isP,Bn1]at hk;cases em:aev env m<;>simp only[em,mrJ,Bn1]at hm;rename_i x j;simp only[ek,em,Em]at h⊢;cases hl:Dr P R t (.mref j) (nP x) ok with
  |none=>simp[hl]at h
  |some q=>
   obtain⟨c',a'⟩:=q;simp only[hl,Bm4,Out.mk.injEq]at h;obtain⟨rfl,rfl,rfl⟩:=h;refine⟨rfl,fun R2 g=>?_⟩;have e:Dr P R2 t (.mref j) (nP x) ok=Dr P R t (.mref j) (nP x) ok:=by
    unfold Dr;cases tk P t with
    |none=>rfl
    |some q=>
     cases q with
     |map kt e=>have e2:=g j (by simpa using hm);cases l:Gw P kt (nP x)<;>simp only[l,e2]
     |_=>rfl
   rw[e,hl]
 |load t a=>
  simp only[isL]at f;simp only[aop]at h⊢;cases hl:load P R t (aev env a)with
  |none=>simp[hl]at h
  |some q=>obtain⟨c',a'⟩:=q;simp only[hl,Bm4,Out.mk.injEq]at h;obtain⟨rfl,rfl,rfl⟩:=h;exact⟨rfl,fun R2 g=>by rw[AE1 g f,hl]⟩
 |indexAddr t x i=>
  simp only[isL]at f;simp only[aop]at h⊢;cases r:asInt (aev env i)with
  |none=>simp[r]at h
  |some n=>
   simp only[r]at h⊢;cases hl:EN P R t (aev env x) n with
   |none=>simp[hl]at h
   |some q=>obtain⟨c',a'⟩:=q;simp only[hl,Bm4,Out.mk.injEq]at h;obtain⟨rfl,rfl,rfl⟩:=h;exact⟨rfl,fun R2 g=>by rw[Ah2 g f,hl]⟩
 |call cc=>
  obtain⟨callee,args,types⟩:=cc;cases callee with
  |builtin b=>
   cases b with
   |len=>
    simp only[isL]at f;simp only[aop]at h⊢;split at h
    .rename_i x t hx ht;simp only[hx,By6,BH3,BA9]at f;cases hl:Al1 P R t (aev env x)with
     |none=>simp[hl]at h
     |some n=>simp only[hl,Bm4,Out.mk.injEq]at h;obtain⟨rfl,rfl,rfl⟩:=h;exact⟨rfl,fun R2 g=>by simp only[AE2 g f,hl]⟩
    cases h
   |_=>cases f
  |_=>cases f
 |_=>cases f
theorem AN1:∀{xs:List AV},xs.all isP=true->∃ys,∀R,EM R xs=some (ys,R)
 |[],_=>⟨[],fun _=>rfl⟩
 |.p x::xs,h=>by obtain⟨ys,hy⟩:=AN1 (xs:=xs) (by simpa[isP]using h);exact⟨nP x::ys,fun R=>by simp only[EM,Em,hy]⟩
 |.reg .. :: _,h | .elt .. :: _,h | .vec _::_,h | .vecp .. :: _,h | .mref _::_,h | .clo .. :: _,h | .tup _::_,h | .agr _::_,h | .yf _::_,h | .top::_,h=>by simp[isP]at h
theorem AT3 {n:Nat}:∀{L:List (Nat×AV)},(∀p∈L,isP p.2=true)->∀R,Jf R n L=none:=by
 intro L h R;unfold Jf;split
 .rename_i j
  have:=h (0,.vec j) (by simp)
  cases this
 rfl
theorem AE4 {js:List Nat}{env:Env}{R R' : D8}{d:Nat}{o:Op}{c:List Prop}{v:AV}(r:isA js env d o=true)(h:aop P env R d o=some ⟨c,v,R'⟩) :∀R2,(∀q∈js,A2 R2 q=A2 R q)->∃R3,aop P env R2 d o=some ⟨c,v,R3⟩/\(∀q∈js,A2 R3 q=A2 R' q)/\∀q,q ∉ js->A2 R3 q=A2 R2 q:=by
 intro R2 u;have up:∀{A B:D8}(i:Nat) (x:Obj),i∈js->(∀q∈js,A2 A q=A2 B q)->(∀q,q ∉ js->A2 A q=A2 R2 q)->(∀q∈js,A2 (ins i x A) q=A2 (ins i x B) q)/\∀q,q ∉ js->A2 (ins i x A) q=A2 R2 q:=by intro A B i x hi h1 u;refine⟨fun q hq=>by rw[EW,EW,h1 q hq],fun q hq=>?_⟩;rw[EW,Pl (by rintro rfl;exact hq hi),u q hq]
 have one:=fun {i:Nat}(x:Obj) (hi:i∈js)=>up i x hi u fun _ _=>rfl;cases o with
 |buildSlice t n parts=>
  simp only[isA,Bm8]at r;have w:nid d 0∈js:=by simpa using r.1
  obtain⟨ys,hys⟩:=AN1 (xs:=parts.toList.map fun q=>aev env q.2) (by simpa[Bx0,Bs9]using r.2);have hrl:=AT3 (n:=n) (L:=parts.toList.map fun q=>(q.1,aev env q.2)) (fun p hp=>by obtain⟨q,hq,rfl⟩:=Bp0.1 hp;exact Bo3.1 r.2 q hq)
  simp only[aop,hrl,hys,u _ w]at h⊢;split at h
  .split at h
   .rename_i l0 regs0 m0 z0 a3 a4 a5;simp only[Bm4,Bn4]at a3;obtain⟨rfl,rfl⟩:=a3;split at h
    .rename_i hc;simp only[Bm4,Out.mk.injEq]at h;obtain⟨rfl,rfl,rfl⟩:=h;refine⟨ins (nid d 0) _ R2,?_,one _ w⟩;simp only[a4,a5];rw[Pk hc]
    cases h
   cases h
  cases h
 |alloc t=>
  have w:nid d 0∈js:=by simpa[isA]using r
  simp only[aop,u _ w]at h⊢;split at h
  .rename_i z h1 h3;split at h
   .rename_i hz;simp only[Bm4,Out.mk.injEq]at h;obtain⟨rfl,rfl,rfl⟩:=h;exact⟨_,by simp only[h1,h3,hz,Pn],one _ w⟩
   cases h
  cases h
 |box t x=>
  have w:nid d 0∈js:=by simpa[isA]using r
  simp only[aop,u _ w]at h⊢;split at h
  .rename_i h1 h3;simp only[Bm4,Out.mk.injEq]at h;obtain⟨rfl,rfl,rfl⟩:=h;exact⟨_,by simp only[h1,h3],one _ w⟩
  cases h
 |store t a x=>
  simp only[isA]at r;simp only[aop]at h⊢;split at h
  .rename_i hs;simp only[Bm4,Out.mk.injEq]at h;obtain⟨rfl,rfl,rfl⟩:=h;obtain⟨i,hi,o,rfl,hs2⟩:=Ar3 u r hs;exact⟨_,by simp only[hs2],one _ hi⟩
  cases h
 |call cc=>
  obtain⟨callee,args,types⟩:=cc;cases callee with
  |builtin b=>
   cases b with
   |append=>
    simp only[isA,Bm8]at r;have w:nid d 0∈js:=by simpa using r.1
    have r:=r.2;simp only[aop,u _ w]at h⊢;split at h
    .rename_i s x t t2 hx ht;simp only[hx,By6,BH3,BA9,Bm8]at r;split at h
     .rename_i e k2 hk1 hk2;split at h
      .rename_i m z hz1 hz2 hz3;split at h
       .rename_i n g l f vw regs1 hn he htk;split at h
        .rename_i hc;simp only[Bm4,Out.mk.injEq]at h;obtain⟨rfl,rfl,rfl⟩:=h;rcases Ar2 u r.1 htk with⟨h3,h4⟩ | ⟨j,hjj,h3,h4⟩
         .simp only at h3 h4;subst h4;refine⟨ins (nid d 0) (.vec e m (l+n) (T2 l f g) vw) R2,?_,one _ w⟩;simp only[UA u r.2,hz1,hz2,hz3,hn,he,h3];rw[Pk hc]
         simp only at h3 h4;subst h4;have h5:=one (i:=j) .dead hjj;refine⟨ins (nid d 0) (.vec e m (l+n) (T2 l f g) vw) (ins j .dead R2),?_,up _ _ w h5.1 h5.2⟩;simp only[UA u r.2,hz1,hz2,hz3,hn,he,h3];rw[Pk hc]
        cases h
       split at h
       .rename_i c1 v1 R1 hF;simp only[Bm4,Out.mk.injEq]at h;obtain⟨rfl,rfl,rfl⟩:=h;simp only[Je]at hF;split at hF
        .rename_i j l hs hx';have hjj:j∈js:=by have:=r.1;rw[hs]at this;simpa[inJ]using this
         have hll:l∈js:=by have:=r.2;rw[hx']at this;simpa[inJ]using this
         split at hF
         .rename_i e1 n jr e2 jz y h1 h3 h4;split at hF
          .rename_i hc;simp only[Bm4,Bn4]at hF;obtain⟨rfl,rfl,rfl⟩:=hF;have a1:=one (i:=j) .dead hjj;have a2:=up l .dead hll a1.1 a1.2;refine⟨ins (nid d 0) (.fam e (n+1) jr (some (n,y))) (ins l .dead (ins j .dead R2)),?_,up _ _ w a2.1 a2.2⟩;have el:elems R2 m (.vec l)=none:=by simp only[elems,u l hll,h4]
           simp only[hz1,hz2,hz3,hs,hx',el,h1];simp only[Je,u _ w,u j hjj,u l hll,h1,h3,h4];rw[Pk hc]
          cases hF
         cases hF
        cases hF
       cases h
      cases h
     cases h
    cases h
   |_=>cases r
  |_=>cases r
 |_=>cases r
theorem AE5 {js:List Nat}{R R' : D8}{x:AV}{y:PV}(hx:inJ js x=true)(h:Em R x=some (y,R')):∀q,q ∉ js->A2 R' q=A2 R q:=by
 intro q b;have up:∀(j:Nat) (o:Obj),j∈js->A2 (ins j o R) q=A2 R q:=fun j o a=>by rw[EW,Pl (by rintro rfl;exact b a)]
 cases x with
 |p x=>simp only[Em,Bm4,Bn4]at h;rw[<- h.2]
 |vec j=>
  have a:j∈js:=by simpa[inJ]using hx
  simp only[Em]at h;split at h
  .simp only[Bm4,Bn4]at h;rw[<- h.2];exact up _ _ a
  cases h
 |vecp j m=>
  have a:j∈js:=by simpa[inJ]using hx
  simp only[Em]at h;split at h
  .simp only[Bm4,Bn4]at h;rw[<- h.2];exact up _ _ a
  cases h
 |_=>cases hx
theorem UB {js:List Nat}:∀{xs:List AV}{R R' : D8}{l:List PV},(xs.all fun x=>inJ js x)=true->EM R xs=some (l,R')->∀q,q ∉ js->A2 R' q=A2 R q
 |[],R,R',l,_,h,q,_=>by simp only[EM,Bm4,Bn4]at h;rw[<- h.2]
 |x::xs,R,R',l,hx,h,q,hq=>by
  simp only[By6,Bm8]at hx;simp only[EM]at h;cases h1:Em R x with
  |none=>simp[h1]at h
  |some p=>
   obtain⟨y,R1⟩:=p;simp only[h1]at h;cases a:EM R1 xs with
   |none=>simp[a]at h
   |some p=>obtain⟨l1,R2⟩:=p;simp only[a,Bm4,Bn4]at h;rw[<- h.2,UB hx.2 a q hq,AE5 hx.1 h1 q hq]
theorem AE6 {js:List Nat}{env:Env}{R R' : D8}{d:Nat}{o:Op}{c:List Prop}{v:AV}(a:isB js env d o=true)(h:aop P env R d o=some ⟨c,v,R'⟩):∀q,q ∉ js->A2 R' q=A2 R q:=by
 intro q b;cases o with
 |buildSlice t n parts=>
  simp only[isB,Bm8]at a;have f:nid d 0∈js:=by simpa using a.1
  have up:∀(R1:D8) (o:Obj),A2 (ins (nid d 0) o R1) q=A2 R1 q:=fun R1 o=>by rw[EW,Pl (by rintro rfl;exact b f)]
  simp only[aop]at h;split at h
  .split at h
   .split at h
    .split at h
     .simp only[Bm4,Out.mk.injEq]at h;rw[<- h.2.2];exact up _ _
     cases h
    cases h
   cases h
  split at h
  .split at h
   .rename_i g _ _;split at h
    .simp only[Bm4,Out.mk.injEq]at h;rw[<- h.2.2,up];exact UB (by simpa[Bx0,Bs9]using a.2) g q b
    cases h
   cases h
  cases h
 |_=>cases a
theorem QA {cl:Cls}{env:Env}{R R' : D8}{d:Nat}{o:Op}{c:List Prop}{v:AV}(f:Ah1 cl env d o=true)(h:aop P env R d o=some ⟨c,v,R'⟩):clsF cl (isN env o=true) (R' = R)/\clsX P cl env R d o c v R':=by
 cases cl with
 |n=>exact⟨f,trivial⟩
 |r=>exact⟨AE0 f h,trivial⟩
 |w=>exact⟨trivial,trivial⟩
 |l j=>exact⟨trivial,AE3 f h⟩
 |a j=>exact⟨trivial,AE4 f h⟩
 |b j=>exact⟨trivial,AE6 f h⟩
variable {kn:List Nat}{all:List Oper}{k:Env->D8->Prop}
theorem NE:∀(cls:List Cls) (rest:List Oper) (c:List Prop) (env:Env) (regs:D8),E5 (OO P kn all cls rest c env regs).conds ->
 E5 c/\(Kl S P all (OO P kn all cls rest c env regs).cls (OO P kn all cls rest c env regs).rest (OO P kn all cls rest c env regs).env (OO P kn all cls rest c env regs).regs k->Kl S P all cls rest env regs k)
 |[],[],c,env,regs,h=>⟨h,fun h=>h⟩
 |[],_::_,c,env,regs,h=>⟨h,fun h=>h⟩
 |_::_,[],c,env,regs,h=>⟨h,fun h=>h⟩
 |cl::cls,o::rest,c,env,regs,h=>by
  simp only[OO]at h⊢;cases g:Be8 kn all env o with
  |true=>simp only[g]at h⊢;exact⟨h,fun h=>h⟩
  |false=>
  simp only[g]at h⊢;cases f:BF all env o with
  |none=>simp only[f]at h⊢;exact⟨h,fun h=>h⟩
  |some b=>
   cases b with
   |true=>
    simp only[f]at h⊢;cases ha:(AM4 o.op&&Ah1 cl env (o.dst.getD 0) o.op)with
    |false=>simp only[ha]at h⊢;exact⟨h,fun h=>h⟩
    |true=>
     simp only[ha]at h⊢;simp only[Bm8]at ha;cases hp:aop P env regs (o.dst.getD 0) o.op with
     |none=>simp only[hp]at h⊢;exact⟨h,fun h=>h⟩
     |some q=>
      obtain⟨p,v,regs'⟩:=q;simp only[hp,Ae7,AR0,Bd2]at h⊢;have fin:∀(env' : Env),env' = ND o.dst v env->(E5 (p++c)/\(Kl S P all (OO P kn all cls rest (p++c) env' regs').cls (OO P kn all cls rest (p++c) env' regs').rest (OO P kn all cls rest (p++c) env' regs').env (OO P kn all cls rest (p++c) env' regs').regs k->Kl S P all cls rest env' regs' k)) ->
       E5 c/\(Kl S P all (OO P kn all cls rest (p++c) env' regs').cls (OO P kn all cls rest (p++c) env' regs').rest (OO P kn all cls rest (p++c) env' regs').env (OO P kn all cls rest (p++c) env' regs').regs k->Kl S P all (cl::cls) (o::rest) env regs k):=by
       rintro env' rfl ⟨h1,i⟩;obtain⟨j,l⟩:=(Ds _ _).1 h1;exact⟨j,fun hs=>⟨true,f,by rw[Pk rfl];exact⟨v,regs', .inl ⟨p,hp,l,QA ha.2 hp⟩,i hs⟩⟩⟩
      cases a:o.dst with
      |some d=>simp only[a,Iq]at h⊢;exact fin _ (by simp[a,ND]) (NE cls rest _ _ _ h)
      |none=>simp only[a]at h⊢;exact fin _ (by simp[a,ND]) (NE cls rest _ _ _ h)
   |false=>
    simp only[f]at h⊢;cases a:o.dst with
    |some d=>simp only[a,Iq]at h⊢;obtain⟨h1,i⟩:=NE cls rest _ _ _ h;exact⟨h1,fun hs=>⟨false,f,by simp only[Bn1,Po,a,ND];exact i hs⟩⟩
    |none=>simp only[a]at h⊢;obtain⟨h1,i⟩:=NE cls rest _ _ _ h;exact⟨h1,fun hs=>⟨false,f,by simp only[Bn1,Po,a,ND];exact i hs⟩⟩
theorem s_go {cls cls' : List Cls}{rest rest' : List Oper}{c:List Prop}{env env' : Env}{regs regs' : D8}(h:OO P kn all cls rest [] env regs=⟨c,cls',rest',env',regs'⟩)(hc:E5 c)(hk:Kl S P all cls' rest' env' regs' k):Kl S P all cls rest env regs k:=by
 have:=NE (S:=S) (kn:=kn) (k:=k) cls rest [] env regs (by rw[h];exact hc)
 rw[h]at this;exact this.2 hk
theorem s_end {cls:List Cls}{env:Env}{regs:D8}(h:k env regs):Kl S P all cls [] env regs k:=by cases cls<;>exact h
theorem AN2 {cl:Cls}{cls:List Cls}{o:Oper}{rest:List Oper}{env:Env}{regs regs' : D8}{c:List Prop}{v:AV}(b:BF all env o=some true)(ha:aop P env regs (o.dst.getD 0) o.op=some ⟨c,v,regs'⟩)(hc:E5 c)
 (a:Ah1 cl env (o.dst.getD 0) o.op=true) (hk:Kl S P all cls rest (ND o.dst v env) regs' k):Kl S P all (cl::cls) (o::rest) env regs k:=
 ⟨true,b,by rw[Pk rfl];exact⟨v,regs', .inl ⟨c,ha,hc,QA a ha⟩,hk⟩⟩
theorem Be9 {cl:Cls}{cls:List Cls}{o:Oper}{rest:List Oper}{env:Env}{regs:D8}{c:Call}{f:Operand}{fn:FuncId}{as' args:List AV}{r:AV}(a:BF all env o=some true)(b:o.op=.call c)(d:c.callee=.value f)
 (ha:((c.args.toList.map (aev env)).all Ag9)=true) (hw:TV env f (c.args.toList.map (aev env))=some (fn,as')) (g:CO [] as' = some args) (i:AB7 S fn args r)
 (hk:Kl S P all cls rest (ND o.dst (unA [] r) env) regs k):Kl S P all (cl::cls) (o::rest) env regs k:=
 ⟨true,a,by rw[Pk rfl];exact⟨_,regs,.inr (.inl ⟨⟨c,f,fn,as',args,r,b,d,ha,hw,g,i,rfl⟩,rfl⟩),hk⟩⟩
theorem Zg {m:List Nat}:∀{ids:List Nat}{objs:List Obj}{R:D8}{q:Nat},q ∉ ids->A2 (TU m ids objs R) q=A2 R q
 |[],_,R,q,_=>rfl
 |j::ids,[],R,q,_=>rfl
 |j::ids,o::objs,R,q,h=>by simp only[Bp9,not_or]at h;show A2 (TU m ids objs (ins j (unO m o) R)) q=_;rw[Zg h.2,EW,Pl (Bt7 h.1)]
theorem Ar4 {cl:Cls}{cls:List Cls}{o:Oper}{rest:List Oper}{env:Env}{regs regs1:D8}{c:Call}{f:Operand}{as:List AV}{fn:FuncId}{as' args:List AV}{objs objs' : List Obj}{ks:List Bool}{r:AV}(ids:List Nat)(a:cl=.w \/ ∃js,cl=.b js/\∀q,q ∉ js->A2 (TU (J6 (o.dst.getD 0) ids ks objs'.length) (J6 (o.dst.getD 0) ids ks objs'.length) objs' (N8 ids ks regs1)) q=A2 regs q)(g:BF all env o=some true)(i:o.op=.call c)(j:c.callee=.value f)
 (ha:ON regs (c.args.toList.map (aev env))=some (as,regs1)) (hw:TV env f as=some (fn,as')) (l:CO ids as' = some args) (d:L0 ids regs1 ids=some objs) (m:FunO S fn args objs r objs' ks)
 (n:H5 ids=true) (hy:DP objs=true) (hn:BA regs1 ids ks (o.dst.getD 0) objs'.length=true)
 (hk:Kl S P all cls rest (ND o.dst (unA (J6 (o.dst.getD 0) ids ks objs'.length) r) env) (TU (J6 (o.dst.getD 0) ids ks objs'.length) (J6 (o.dst.getD 0) ids ks objs'.length) objs' (N8 ids ks regs1)) k) :
 Kl S P all (cl::cls) (o::rest) env regs k:=
 ⟨true,g,by rw[Pk rfl];exact⟨_,_,.inr (.inr (.inl ⟨a,c,f,as,regs1,fn,as',args,objs,objs',ks,r,ids,i,j,ha,hw,l,d,m,n,hy,hn,rfl,rfl⟩)),hk⟩⟩
theorem AE7 {cl:Cls}{cls:List Cls}{o:Oper}{rest:List Oper}{env:Env}{regs:D8}{c:List Prop}{x:PV}(a:BF all env o=some true)(ha:TT P env o.op=some (c,x))(hc:E5 c)
 (hk:Kl S P all cls rest (ND o.dst (.p x) env) regs k):Kl S P all (cl::cls) (o::rest) env regs k:=
 ⟨true,a,by rw[Pk rfl];exact⟨_,regs,.inr (.inr (.inr ⟨c,x,ha,hc,rfl,rfl⟩)),hk⟩⟩
def Bl3 (o:Op):Cls:=match o with
 |.buildSlice ..=>.n
 |o=>clsOf o
theorem AE8 (hS:H2 S P){F:K6}{K:List It}{id:Nat}{ops:Array Oper}{st:St}{cls:List Cls}(a:P.follows .mixedOrders=true)(c:ops.toList.map (fun o=>Bl3 o.op)=cls)(b:NC ops.toList cls=true)
 (h:Kl S P ops.toList cls ops.toList st.env st.regs fun env regs=>G S P F (.pop .normal K ⟨env,regs⟩)):G S P F (.code (.region id ops true) K st):=
 Ar1 hS cls a b h
end
end Go.AM
namespace Go.AM
section
variable {S:U3}{P:Program}{F:K6}{K:List It}{st:St}
theorem KH (hS:H2 S P){f:FuncId}{fn:Func}{code:Code}{args:List AV}{objs:List Obj}{Q:Nd->List Obj->List Bool->Prop}{rs:List ResultVar}(d:P.funcs[f]? = some fn)(hc:fn.body=some code)(hn:args.length<=fn.ntmps)(g:objs.length<1000)
 (a:fn.results.toList=rs) (b:AO fn.ntmps code=true) (c:(fn.name == "runtime.NumGoroutine")=false)
 (h:G S P (Cw S P objs.length rs Q) (.code code [] { env:=argEnv args,regs:=objRegs objs })):S.F f args objs Q:=by
 subst a;exact hS.func f fn code args objs _ d hc c b hn g (hS.refl _ _ h)
theorem AT4 (hS:H2 S P){all rest:List Oper}{o:Oper}{c:Call}{f:Operand}{j:Nat}{xs ys:List PV}{regs:D8}{rest0:List (List PV)}
 (i:BV all st.env o=some true) (l:o.op=.call c) (d:c.callee=.value f) (hy:aev st.env f=.yf j) (g:EM st.regs (c.args.toList.map (aev st.env))=some (xs,regs))
 (m:A2 regs j=some (.yld (ys::rest0) true)) (a:Fq j regs=true) (hle:AQ8 xs ys)
 (hk:∀b:Bool,G S P F (.ops all rest K (put { st with regs:=ins j (.yld (if b then rest0 else []) b) regs } o.dst (.p (.bb b))))):G S P F (.ops all (o::rest) K st):=by
 refine Du hS i ?_;unfold wOp;obtain⟨callee,cargs,types⟩:=c;simp only at d g;subst d;rw[l];exact .inr ⟨j,xs,regs,ys,rest0,hy,g,m,a,hle,hk⟩
theorem AE9 (hS:H2 S P){all rest:List Oper}{o:Oper}{c:Call}{rv:Operand}{m:String}{as:List AV}{regs:D8}{t:TypeId}{y:PV}{fn:FuncId}{args:List AV}{r:AV}
 (d:BV all st.env o=some true) (f:o.op=.call c) (b:c.callee=.invoke rv m) (ha:ON st.regs (c.args.toList.map (aev st.env))=some (as,regs)) (a:aev st.env rv=.p (.iface t y)) (hm:TW P t m=some fn)
 (g:CO [] (.p y::as)=some args) (i:AB7 S fn args r)
 (hk:G S P F (.ops all rest K (put { env:=st.env,regs:=regs } o.dst (unA [] r)))):G S P F (.ops all (o::rest) K st):=by
 refine Du hS d ?_;unfold wOp;obtain⟨callee,cargs,types⟩:=c;simp only at b ha;subst b;rw[f];refine⟨as,regs,t,y,fn,ha,a,hm,[],args,[],rfl,g,rfl,rfl,hS.monoF _ _ _ _ _ ?_ i⟩;rintro _ _ _ ⟨rfl,rfl,rfl⟩;exact⟨rfl,hk⟩
theorem AT5 (hS:H2 S P){all rest:List Oper}{o:Oper}{x:Operand}{t:TypeId}{y:PV}(a:BV all st.env o=some true)(b:o.op=.panic x)(hx:aev st.env x=.p (.iface t y))(hk:G S P F (.pop (.panic (.iface t y)) K st)):G S P F (.ops all (o::rest) K st):=by refine Du hS a ?_;unfold wOp;rw[b];exact⟨t,y,hx,hk⟩
def Gk (S:U3)(f:FuncId)(first caps:List AV)(objs:List Obj)(L:List (List PV)):Prop:= S.F f (first ++ .yf objs.length::caps) (objs++[.yld L true]) fun r objs' ks=>∃b,objs'[objs.length]? = some (.yld [] b)/\ks[objs.length]? = some true/\∃a,r=.ret a
def BG (S:U3)(P:Program)(body:Code)(gh:Nat)(ts:List Nat)(next:St->Prop)(Q:K6):K6
 |.normal,s=>S.up s fun s=>awp S P body (Dt S gh ts next Q) s
 |_,_=>False
theorem G_asg (hS:H2 S P){body:Code}{gh:Nat}{ts:List Nat}{next:St->Prop}{Q:K6}(h:G S P (Dt S gh ts next Q) (.code body [] st)):G S P (BG S P body gh ts next Q) (.pop .normal [] st):=
 hS.refl _ _ h
def AF0 {X:Type}(s:X->St)(J:List (List PV)->X->Prop)(rest:List (List PV))(t:St):Prop:=∃x,t=s x/\J rest x
theorem Ar5 (hS:H2 S P){g:Operand}{ps:Array Tmp}{asg body:Code}{f:FuncId}{first caps as bs:List AV}{objs:List Obj}(ids ts:List Nat)(gh:Nat)(L:List (List PV)){X:Type}(s:X->St)(J:List (List PV)->X->Prop)(x0:X)(idl:List (Nat×Nat))
 (hp:En st.env g=some (f,first,caps)) (m:∃fn,P.funcs[f]? = some fn/\fn.body.isSome=true/\(fn.name == "runtime.NumGoroutine")=false) (n:L0 ids st.regs ids=some objs) (q:DP objs=true) (hd:H5 ids=true) (t:CO ids first=some as) (u:CO ids caps=some bs) (v:objs.length=ids.length)
 (w:gh<1000) (y:A2 st.regs gh=none) (z:ids.length<1000) (a0:H5 ts=true) (d:∀ys∈L,ys.length=ps.size)
 (hF:Gk S f as bs objs L) (hle:Le idl ⟨Z0 ts (ts.map (get st.env)),N8 ids (ids.map fun _=>false) st.regs⟩ (s x0)) (h0:J L x0) (hk:∀x,(s x).env.map (·.1)=ts) (hn:∀x,A2 (s x).regs gh=none)
 (c:∀ys rest x,J (ys::rest) x->G S P (BG S P body gh ts (AF0 s J rest) (kp S P K F)) (.code asg [] ⟨Ji ps.toList ys (s x).env,ins gh (.ghost ((s x).env.map (·.2))) (s x).regs⟩))
 (i:∀x,J [] x->G S P F (.pop .normal K (s x))):G S P F (.code (.rangeFunc g ps asg body) K st):=by
 have j:∀{l:List Nat},H5 l=true->l.Nodup:=by
  intro l
  induction l with
  |nil=>intro _;exact Bv6
  |cons a r ih=>intro h;simp only[H5,Bm8,Bp6,Br3,decide_eq_false_iff_not]at h;exact Bs3.2 ⟨h.1,ih h.2⟩
 refine⟨f,first,caps,as,bs,objs,ids,ts,gh,L,AF0 s J,fun _ r=>∃a,r=.ret a,hp,m,q,hd,t,u,n,w,y,z,j a0,d,hS.le idl _ _ _ hle ⟨hk x0,hn x0,x0,rfl,h0⟩,?_,?_,?_⟩
 .rintro ys rest _ _ _ ⟨x,rfl,hJ⟩;have h:=c ys rest x hJ;have e:BG S P body gh ts (AF0 s J rest) (kp S P K F)=fun e s'=>match e with
   |.normal=>S.up s' fun s'=>awp S P body (Dt S gh ts (AF0 s J rest) (kp S P K F)) s'
   |_=>False:=by funext e s';cases e<;>rfl
  rw[e]at h;exact h
 .rintro _ r _ _ ⟨x,rfl,hJ⟩ ⟨a,rfl⟩;exact i x hJ
 rw[<- v];refine hS.monoF _ _ _ _ _ ?_ hF;rintro r o ks ⟨b,h1,h2,h3⟩;exact⟨b,h1,h2,h3,fun _=>h3⟩
theorem Xi (hS:H2 S P){gh:Nat}{ts:List Nat}{X:Type}{s:X->St}{J:List (List PV)->X->Prop}{rest:List (List PV)}{Q:K6}(st1:St){cs:List AV}(x:X)(idl:List (Nat×Nat))(hle:Le idl st st1)(a:A2 st1.regs gh=some (.ghost cs))(hl:cs.length=ts.length)(b:A2 (del gh st1.regs) gh=none)
 (c:(⟨Z0 ts cs,del gh st1.regs⟩:St)=s x) (d:J rest x):G S P (Dt S gh ts (AF0 s J rest) Q) (.pop .normal [] st):=
 hS.le idl _ _ _ hle ⟨cs,a,hl,b,x,c,d⟩
theorem Zh (hS:H2 S P){gh:Nat}{ts:List Nat}{next:St->Prop}{e:Nc}(c:match e with | .normal | .panic _=>False|_=>True)(st1:St){cs:List AV}(idl:List (Nat×Nat))(hle:Le idl st st1)(a:A2 st1.regs gh=some (.ghost cs))(hl:cs.length=ts.length)(b:A2 (del gh st1.regs) gh=none)
 (hk:G S P F (.pop e K ⟨Z0 ts cs,del gh st1.regs⟩)):G S P (Dt S gh ts next (kp S P K F)) (.pop e [] st):=by
 cases e with
 |normal=>exact c.elim
 |panic x=>exact c.elim
 |exit id=>exact hS.le idl _ _ _ hle ⟨cs,a,hl,b,hk⟩
 |goto t=>exact hS.le idl _ _ _ hle ⟨cs,a,hl,b,hk⟩
 |ret=>exact hS.le idl _ _ _ hle ⟨cs,a,hl,b,hk⟩
end
end Go.AM
namespace Go.AM
def RW {n:Nat}(h:n<2 ^ 32):IntKind.u32.wrap (n:Int)=n:=by have h1:((n:Int) % (2 ^ 32:Int))=n:=Bx6 (by omega) (by omega);unfold IntKind.wrap;simp only[IntKind.bits,IntKind.signed,h1,Bv7,Bn1,Po]
abbrev u32 (x:BitVec 32):PV:=.v (.int .u32 x.toNat)
def Iz (x:BitVec 32):BitVec.ofInt 32 (x.toNat:Int)=x:=by
 apply Bq2;rw[BG4]
 have:=x.isLt
 omega
def Fu (x y:BitVec 32):F4 .and .u32 x.toNat y.toNat=((x &&& y).toNat:Int):=by simp only[F4,IntKind.bits,Iz];exact RW (x &&& y).isLt
def Lt (x y:BitVec 32):F4 .or .u32 x.toNat y.toNat=((x ||| y).toNat:Int):=by simp only[F4,IntKind.bits,Iz];exact RW (x ||| y).isLt
def EX (x y:BitVec 32):F4 .andNot .u32 x.toNat y.toNat=((x &&& ~~~ y).toNat:Int):=by simp only[F4,IntKind.bits,Iz];exact RW (x &&& ~~~ y).isLt
def Ar6 (x:BitVec 32)(n:Nat):shI .shr .u32 x.toNat n=((x >>> n).toNat:Int):=by
 simp only[shI,IntKind.bits,Bm2];have hx:=x.isLt;rw[Bw4,Bv8];have e:((2:Int) ^ (min n 32))=((2 ^ (min n 32):Nat):Int):=by norm_cast
 rw[e,BB8 _ (BG5 _),<- Int.natCast_ediv];congr 1;by_cases h:n<=32
 .rw[Bu1 h]
 rw[BA4 (by omega),Bu7 hx,Bu7];exact Bo7 hx (Bw0 (by omega) (by omega))
def Bf0 (x:BitVec 32)(n:Nat):shI .shl .u32 x.toNat n=((x <<< n).toNat:Int):=by
 simp only[shI,IntKind.bits,Bm2];rw[BE3,Nat.shiftLeft_eq];unfold IntKind.wrap;simp only[IntKind.bits,IntKind.signed,Bv7,Bn1,Po];by_cases h:n<=32
 .rw[Bu1 h]
  norm_cast
 rw[BA4 (by omega)];have h1:x.toNat*2 ^ n % 2 ^ 32=0:=by obtain⟨d,rfl⟩:∃d,n=32+d:=⟨n-32,by omega⟩;rw[Nat.pow_add,<- Nat.mul_assoc,Nat.mul_right_comm,Nat.mul_mod_left]
 have a:x.toNat*2 ^ 32 % 2 ^ 32=0:=Nat.mul_mod_left _ _;rw[h1];simp
end Go.AM
namespace Go.AM
def HO {P:Program}{f:FuncId}{args:List PV}{r:AV}(d:∀as w,(callFunc f as).run P w=.ok (.enter f as) w)
 (h:∀(w:World) (Pi:Nat->Nat->Prop) (vs:Array Value),TabOk P w Pi->(∀b off,Pi b off->b<w.heap.size)->vs.size=args.length->(∀i,i<args.length->RepP w Pi (vs.getD i undef) (args.getD i default)) ->
  Calls P f vs w fun e w'=>∃v,e=.returned v/\RowKit.Below w.heap.size w w' /\ ∀live rho,RepA w' Pi live rho v r):AB7 (HC P) f (args.map .p) r:=by
 intro 𝒢 C w vs rho q hs l;have s:=h w (Prv C.X (A2 (objRegs [])) rho) vs ((𝒢.tab C q).keeps hs.keep) (fun b off hp=>by
  rcases hp with hp|⟨j,o,a,_⟩
  .exact hs.hp.bound b off hp
  .simp[objRegs,objRegs.go,A2]at a) (by simpa using l) (fun i m=>by
  have:=hs.env i
  rw[Bq]at this;have e:(args.map AV.p).getD i .top=.p (args.getD i default):=by simp[m]
  rw[e]at this;exact this.toP)
 refine⟨_,_,d _ _,callsIn_wide.2 (s.mono ?_)⟩;rintro e w' ⟨v,rfl,hb,t⟩;have hk:Keeps w (Prv C.X (A2 (objRegs [])) rho) w' (Prv C.X (A2 (objRegs [])) rho):=fun b o v hp hc=>⟨by rw[<- hc];exact Br2 (hb.block b (Bu9 w ⟨b,o,none⟩ hc)),hp⟩
 refine⟨C,.ret r,[],[],rho,q,⟨rfl,rfl,rfl⟩,?_,⟨v,rfl,t _ _⟩,fun i m=>by simp at m⟩;have c:∀j,A2 (objRegs []) j=none:=fun j=>by simp[objRegs,objRegs.go,A2]
 refine⟨⟨fun j o a=>by simp[c]at a,fun i j oi oj b a=>by simp[c]at a,fun j o b off a=>by simp[c]at a,fun b off hp=>Bo7 (hs.hp.bound b off hp) hb.size⟩,hs.ext.trans ⟨hb.os,hb.output⟩,Bq1 hs.size hb.size,fun b g u=>?_,hs.keep.trans hk,fun b n=>?_,fun j r b a=>by simp[c]at a⟩
 .rw[hb.block b (Bo7 g hs.size)];exact hs.same b g u
 obtain⟨j,o,a,_⟩:=n;simp[c]at a
def RX {P:Program}{f:FuncId}{args:List PV}{r:AV}(a:∀as w,(callFunc f as).run P w=.ok (.enter f as) w)
 (h:∀(w:World) (Pi:Nat->Nat->Prop) (vs:Array Value),(∀b off,Pi b off->b<w.heap.size)->vs.size=args.length->(∀i,i<args.length->RepP w Pi (vs.getD i undef) (args.getD i default)) ->
  Calls P f vs w fun e w'=>∃v,e=.returned v/\RowKit.Below w.heap.size w w' /\ ∀live rho,RepA w' Pi live rho v r):AB7 (HC P) f (args.map .p) r:=
 HO a fun w Pi vs _=>h w Pi vs
end Go.AM
namespace Go.AM
open Go.RowKit Go.ChangeShapes
def Bl4 (W:World):Ctx:={ X:=fun _ _=>False,w0:=W,E0:=fun _=>False,Pi0:=fun _ _=>False,rho0:=fun _=>undef,Y:=fun _ _=>False,yv:=undef }
theorem AT6 {W:World}{vs:Array Value}{args:List PV}(g:vs.size=args.length)(l:∀i,i<args.length->RepP W (fun _ _=>False) (vs.getD i undef) (args.getD i default)) :Sat (Bl4 W) ⟨argEnv (args.map .p),objRegs []⟩ ⟨vs,[]⟩ W (fun _=>undef):=by
 have a:∀j,A2 (objRegs []) j=none:=fun j=>by simp[objRegs,objRegs.go,A2]
 have f:∀b o,¬Prv (Bl4 W).X (A2 (objRegs [])) (fun _=>undef) b o:=fun b o h=>by
  rcases h with h|⟨j,o',c,_⟩
  .exact h
  simp[a]at c
 refine⟨⟨⟨fun j o c=>by simp[a]at c,fun i j oi oj b c=>by simp[a]at c,fun j o b off c=>by simp[a]at c,fun b off hp=>hp.elim⟩,Ext.refl _,Bm9 _,fun _ _ _=>rfl,fun b o v _ hc=>⟨hc,f b o⟩,fun b hb=>?_,fun j r b c=>by simp[a]at c⟩,fun t=>?_,fun j _ hl=>?_,Bv6,fun d m=>by cases m⟩
 .obtain⟨j,o,c,_⟩:=hb;simp[a]at c
 .show RepA W _ _ _ (vs.getD t undef) (get (argEnv (args.map .p)) t);rw[Bq];by_cases ht:t<args.length
  .have e:(args.map AV.p).getD t .top=.p (args.getD t default):=by simp[ht]
   rw[e];exact .p _ _ ((l t ht).keeps fun b o v _ hc=>⟨hc,f b o⟩)
  have e:(args.map AV.p).getD t .top=.top:=by simp[BA2 ht]
  rw[e];exact .top _
 obtain⟨o,n⟩:=hl
structure Bf1 (W w' : World):Prop where
 os:w'.os=W.os
 output:w'.output=W.output
 size:W.heap.size<=w'.heap.size
 block:∀b,b<W.heap.size->w'.heap[b]? = W.heap[b]?
theorem Ja {P:Program}{f:FuncId}{args:List PV}(a:∀as w,(callFunc f as).run P w=.ok (.enter f as) w)(h:AB7 (HC P) f (args.map .p) (.p (.bb true)))
 {W:World}{vs:Array Value}(g:TabOk P W fun _ _=>False) (c:vs.size=args.length) (j:∀i,i<args.length->RepP W (fun _ _=>False) (vs.getD i undef) (args.getD i default)) :
 Calls P f vs W fun e w'=>e=.returned (.bool true)/\Bf1 W w':=by
 obtain⟨nx,w1,h1,l⟩:=h (Prot.triv P (Bl4 W) (fun _ _ h=>h) g) (Bl4 W) W vs _ rfl (AT6 c j) (by simpa using c);rw[a]at h1;cases h1;refine (callsIn_wide.1 l).mono ?_;rintro e w' ⟨C',r,objs',ks,rho',rfl,⟨rfl,rfl,rfl⟩,d,⟨v,rfl,m⟩,_⟩;cases m with
 |p _ _ hp=>cases hp;exact⟨rfl,d.ext.1,d.ext.2,d.size,fun b hb=>d.same b hb fun h=>h⟩
section
variable {H:Type}{enc:TypeId×Value->H}{P:Program}
theorem AF1 {W w' : World}(h:Bf1 W w')(may:MemPlace->Prop):W.keptBut w' may:=by
 refine⟨h.os,h.output,fun i a=>?_⟩;rw[h.block i a];generalize W.heap[i]? = o;cases o with
 |none=>trivial
 |some o=>cases o<;>first|exact⟨rfl,rfl,rfl,fun _ _=>rfl⟩ | exact .inr ⟨rfl,rfl⟩ | rfl
theorem Ar7 {W w' : World}(h:Bf1 W w'){p:MemPlace}(hp:p.block<W.heap.size):W.sameAt w' p:=by have hb:RowKit.Below W.heap.size W { w' with tape:=W.tape }:=⟨h.os,rfl,h.output,h.size,fun k hk=>h.block k hk⟩;exact hb.same hp
theorem Lu {W w' : World}(hk:Bf1 W w')(hl:laidOutB P=true){sp:Nat->Bool}:∀{ts:List TypeId}{vs:List Value}{ds:List (DataW H)}{ps:List MemPlace},(∀t∈ts,P.readableRec t=true/\t<P.types.size) ->
 (∀p∈ps,p.block<W.heap.size)->(∀p∈ps,sp p.block=true)->DataW.TrodAll enc P W 0 (fun _=>true) true ts vs ds ps->DataW.TrodAll enc P w' 0 sp true ts vs ds ps
 |[],[],[],_,_,_,_,h=>h
 |t::ts,v::vs,d::ds,_,hr,hlt,hs,⟨p,q,h1,h2,e⟩=>by subst e;refine⟨p,q,?_,Lu hk hl (fun t ht=>hr t (Bp9.2 (.inr ht))) (fun x hx=>hlt x (Bn9 _ hx)) (fun x hx=>hs x (Bn9 _ hx)) h2,rfl⟩;exact WideElems.Trod_stays hl (hr t (by simp)).1 (hr t (by simp)).2 h1 (fun x hx=>Ar7 hk (hlt x (Bp5 _ hx))) (fun x hx=>hs x (Bp5 _ hx))
theorem YF {f:Func}{s:ChangeSpec}{tb:TypeId}{W W' : World}{args:Array Value}{ds gs:List (DataW H)}{before:List MemPlace}(a:s.vars=[])(hres:f.resultTypes = #[tb])(i:P.underlying tb=some .bool)(hl:laidOutB P=true)
 (d:∀t∈f.params.toList,P.readableRec t=true/\t<P.types.size) (o:DataW.Whole enc P f.params.toList s.vars false W args.toList ds gs before)
 (g:s.fn H ds={ results:=[.lit (.bool true)],args:=ds,vars:=[] }) (hk:Bf1 W W'):s.post enc P f false true false false W args (.bool true) W':=by
 have c:∀p∈before,p.block<W.heap.size:=fun p hp=>o.lt p hp;have j:=o;obtain⟨p,q,v,r,rfl,w,hn⟩:=o;rw[a]at r;obtain⟨rfl,rfl⟩:=trodVars_none r;simp only[Br5]at c j;have l : ∀sp:Nat->Bool,(∀x∈p,sp x.block=true)->DataW.TrodAll enc P W' 0 sp true f.params.toList args.toList (s.fn H (ds++[])).args p:=fun sp hsp=>by rw[Br5,g];exact Lu hk hl d c hsp v
 have hR:∀(b:Nat) (sp:Nat->Bool) (u:Bool),DataW.TrodAll enc P W' b sp u f.resultTypes.toList ((Value.bool true).resultList f.resultTypes.size) (s.fn H (ds++[])).results []:=fun b sp u=>by rw[Br5,g,hres];exact⟨[],[],shut_bool i _,rfl,rfl⟩
 have m : ∀sp:Nat->Bool,DataW.TrodVars enc P W' sp s.vars (s.fn H (ds++[])).vars []:=fun sp=>by rw[Br5,g,a];rfl
 refine⟨ds,[],p,[],p,[],j,hR _ _ _,l _ (fun x hx=>by simpa using c x hx),m _,AF1 hk _,fun _=>?_⟩;refine⟨ok_one hres rfl (by simp[Value.okWide,i,Cell.okWide,Cell.ok]),_,_,([]++p)++[],⟨[]++p,[],trodAll_append (l _ fun _ _=>rfl) (hR _ _ _),m _,rfl,?_,?_⟩,?_⟩
 .intro b off hp;have n : MemPlace.cell b off∈p:=by simpa using hp
  have:=w b off (by simpa using n)
  have hb:=c _ n;simp only[MemPlace.block]at hb;simp only[World.frozen?,hk.block b hb]at this⊢;exact this
 .intro ha
  have:=hn ha
  simpa using this
 intro p' hp _;simpa using hp
end
end Go.AM
namespace Go.AM
open Go.RowKit Go.ChangeShapes Go.Deep
def We (l:List Nat):Nat:=l.foldr (· + ·) 0
theorem UC (a:Nat)(l:List Nat):We (a::l)=a+We l:=rfl
structure Bulk {H:Type}(B:DataW H->Nat):Prop where
 int:∀k n,1<=B (.lit (.int k n))
 bool:∀b,1<=B (.lit (.bool b))
 str:∀l,l.length+1<=B (.lit (.string l))
 nil:1<=B .nil
 slice:∀es sp,We (es.map B)+1<=B (.slice es sp)
 agg:∀ps,We (ps.map B)+1<=B (.agg ps)
mutual
inductive IA (P:Program):Nat->TypeId->List PV->Prop
 |int {m:Nat}{t:TypeId}{k:IntKind}{n:Int}(ht:P.underlying t=some (.int k)) (hw:(Lit.int k n).wf=true) (hm:1<=m):IA P m t [.v (.int k n)]
 |bool {m:Nat}{t:TypeId}{b:Bool}(ht:P.underlying t=some .bool) (hm:1<=m):IA P m t [.bb b]
 |str {m:Nat}{t:TypeId}{l:List UInt8}(ht:P.underlying t=some .string) (hm:l.length+1<=m):IA P m t [.str l]
 |slice {m:Nat}{t e:TypeId}{n:Nat}{f:Nat->List PV}(ms:Nat->Nat) (ht:P.underlying t=some (.slice e)) (hl:∀i,i<n->(f i).length=P.cellsOf e) (h:∀i,i<n->IA P (ms i) e (f i))
  (hm:We ((List.range n).map ms)+1<=m):IA P m t [.sl false (P.cellsOf e) n f]
 |arr {m m' : Nat}{t e:TypeId}{n:Nat}{pvs:List PV}(ht:P.underlying t=some (.array n e)) (h:GA P m (List.replicate n e) pvs) (hm:m+1<=m'):IA P m' t pvs
 |struct {m m' : Nat}{t:TypeId}{fs:Array Field}{pvs:List PV}(ht:P.underlying t=some (.struct fs)) (h:GA P m (fs.toList.map (·.type)) pvs) (hm:m+1<=m'):IA P m' t pvs
inductive GA (P:Program):Nat->List TypeId->List PV->Prop
 |nil {m:Nat}:GA P m [] []
 |cons {a b m:Nat}{t:TypeId}{ts:List TypeId}{p q:List PV}(h:IA P a t p) (h' : GA P b ts q) (hm:a+b<=m):GA P m (t::ts) (p++q)
end
def CRep (W:World)(cs:List Value)(pvs:List PV):Prop:= cs.length=pvs.length/\∀i,i<pvs.length->RepP W (fun _ _=>False) (cs.getD i undef) (pvs.getD i default)/\(cs.getD i undef).oneCell' = true
theorem UD {α : Type}(a b:List α)(d : α){i:Nat}(h:i<a.length):(a++b).getD i d=a.getD i d:=by simp[Bm3,Bt1 h]
theorem UE {α : Type}(a b:List α)(d : α){i:Nat}(h:a.length<=i):(a++b).getD i d=b.getD (i-a.length) d:=by simp[Bm3,Bx8 h]
theorem CRep.append {W:World}{a b:List Value}{p q:List PV}(h:CRep W a p)(h' : CRep W b q):CRep W (a++b) (p++q):=by
 refine⟨by simp[h.1,h'.1],fun i f=>?_⟩;by_cases c:i<p.length
 .rw[UD _ _ _ (by rw[h.1];exact c),UD _ _ _ c];exact h.2 i c
 have d : i-p.length<q.length:=by simp at f;omega
 rw[UE _ _ _ (by rw[h.1];omega),UE _ _ _ (by omega),h.1];exact h'.2 _ d
theorem CRep.one {W:World}{v:Value}{x:PV}(h:RepP W (fun _ _=>False) v x)(h1:v.oneCell' = true):CRep W [v] [x]:=by
 refine⟨rfl,fun i a=>?_⟩;obtain rfl:i=0:=by simpa using a
 exact⟨h,h1⟩
def Am5 (P:Program)(T:List TypeId):Bool:=T.all fun t=>match P.underlying t with
 |some (.int _)|some .bool|some .string=>true
 |some (.slice e)=>T.contains e&&decide (0<P.cellsOf e)
 |some (.array _ e)=>T.contains e
 |some (.struct fs)=>fs.toList.all fun f=>T.contains f.type
 |_=>false
section
variable {H:Type}{enc:TypeId×Value->H}{P:Program}{W:World}
theorem QB {B:DataW H->Nat}{r:TypeId->List Value->Option (DataW H×List MemPlace)}(T:TypeId->Prop)
 (ih:∀t cs x,T t->r t cs=some x->∃pvs,CRep W cs pvs/\IA P (B x.1) t pvs) :
 ∀(fs:List Field) (xs:List (DataW H×List MemPlace)) (cs:List Value) (base:Nat),(∀f∈fs,T f.type)->cs.length=(fs.map fun f=>P.cellsOf f.type).sum ->
  (∀(j:Nat) f,fs[j]? = some f->f.offset=base+((fs.take j).map fun f=>P.cellsOf f.type).sum)->xs.length=fs.length ->
  (∀(i:Nat) f,fs[i]? = some f->r f.type ((cs.drop (f.offset-base)).take (P.cellsOf f.type))=xs[i]?) ->
  ∃pvs,CRep W cs pvs/\GA P (We (xs.map fun x=>B x.1)) (fs.map (·.type)) pvs
 |[],xs,cs,base,_,hl,_,hx,_=>by obtain rfl:xs=[]:=Br4 hx;obtain rfl:cs=[]:=Br4 (by simpa using hl);exact⟨[],⟨rfl,fun i m=>Pm m (by simp)⟩,.nil⟩
 |f::fs,xs,cs,base,hT,hl,ho,hx,hr=>by
  cases xs with
  |nil=>simp at hx
  |cons x xs=>
   have l:=ho 0 f rfl;simp only[BF5,Bx2,List.sum_nil,Bv1]at l;have b:=hr 0 f rfl;rw[l,Nat.sub_self,BC2]at b;obtain⟨p,hp,hs⟩:=ih _ _ _ (hT f (by simp)) b;simp only[Bp8,BG6]at hl;obtain⟨q,n,c⟩:=QB T ih fs xs (cs.drop (P.cellsOf f.type)) (base+P.cellsOf f.type) (fun g a=>hT g (by simp[a])) (by simp[hl])
    (fun j g a=>by
     have:=ho (j+1) g (by simpa using a)
     simp only[Bw6,Bp8,BG6]at this;omega) (by simpa using hx)
    (fun i g a=>by
     have:=hr (i+1) g (by simpa using a)
     have d:=ho (i+1) g (by simpa using a);simp only[Bw6,Bp8,BG6]at d;rw[By0,show P.cellsOf f.type+(g.offset-(base+P.cellsOf f.type))=g.offset-base by omega];simpa using this)
   refine⟨p++q,?_,.cons hs c (Bm9 _)⟩
   have:=hp.append n
   rwa [Bx4]at this
theorem Zi {B:DataW H->Nat}{r:TypeId->List Value->Option (DataW H×List MemPlace)}{e:TypeId}(ih:∀cs x,r e cs=some x->∃pvs,CRep W cs pvs/\IA P (B x.1) e pvs) :∀(n:Nat) (xs:List (DataW H×List MemPlace)) (cs:List Value),cs.length=n*P.cellsOf e->xs.length=n->(∀i,i<n->r e ((cs.drop (i*P.cellsOf e)).take (P.cellsOf e))=xs[i]?) ->
  ∃pvs,CRep W cs pvs/\GA P (We (xs.map fun x=>B x.1)) (List.replicate n e) pvs
 |0,xs,cs,hl,hx,_=>by obtain rfl:xs=[]:=Br4 hx;obtain rfl:cs=[]:=Br4 (by simpa using hl);exact⟨[],⟨rfl,fun i c=>Pm c (by simp)⟩,.nil⟩
 |n+1,xs,cs,hl,hx,hr=>by
  cases xs with
  |nil=>simp at hx
  |cons x xs=>
   have a:=hr 0 (by omega);rw[Nat.zero_mul,BC2]at a;obtain⟨p,hp,hs⟩:=ih _ _ a;rw[By4]at hl;obtain⟨q,d,b⟩:=Zi ih n xs (cs.drop (P.cellsOf e)) (by simp[hl]) (by simpa using hx) (fun i c=>by
    have:=hr (i+1) (by omega)
    rw[By0,show P.cellsOf e+i*P.cellsOf e=(i+1)*P.cellsOf e by rw[By4];omega];simpa using this)
   refine⟨p++q,?_,.cons hs b (Bm9 _)⟩
   have:=hp.append d
   rwa [Bx4]at this
theorem Ah (K:Kids P (· < P.types.size)){B:DataW H->Nat}(q:Bulk B){T:List TypeId}(hT:Am5 P T=true)(hTl:∀t∈T,t<P.types.size):∀(fuel:Nat) (t:TypeId) (cs:List Value) (x:DataW H×List MemPlace),t∈T ->
 DataW.trod enc P W 0 (fun _=>true) true fuel t cs=some x->∃pvs,CRep W cs pvs/\IA P (B x.1) t pvs:=by
 intro fuel
 induction fuel with
 |zero=>intro t cs x _ h;simp[DataW.trod]at h
 |succ n ih=>
  intro t cs x ht h;have hp:=Bo3.1 hT t ht;cases c:P.underlying t with
  |none=>simp[c]at hp
  |some d=>
   cases d with
   |bool=>obtain⟨b,rfl,rfl⟩:=DataW.trod_bool c h;exact⟨[.bb b],.one (.bb b) rfl,.bool c (q.bool b)⟩
   |int k=>obtain⟨m,rfl,rfl,hw⟩:=DataW.trod_int c h;exact⟨[.v (.int k m)],.one (.v _) rfl,.int c hw (q.int _ _)⟩
   |string=>
    obtain⟨s,rfl,rfl,_⟩:=DataW.trod_string c h;refine⟨[.str s.data.toList],.one ?_ rfl,.str c (q.str _)⟩
    have:=RepP.str (w:=W) (Pi:=fun _ _=>False) s.data.toList
    simpa using this
   |slice e=>
    simp only[c,Bm8,Br3,decide_eq_true_eq]at hp;obtain⟨hpe,hpk⟩:=hp;rcases DataW.trod_slice c h with⟨rfl,rfl⟩ | ⟨a,len,cap,elems,rest,n',hn,rfl,rfl,_,hlen,_,hel,hall,_⟩
    .exact⟨[.sl false (P.cellsOf e) 0 fun _=>[]],.one (.slnil _ _) rfl,.slice (fun _=>0) c (fun i g=>Pm g (by omega)) (fun i g=>Pm g (by omega)) (by simpa[We]using q.nil)⟩
    obtain rfl:n' = n:=by omega
    have each:∀i,i<len->∃z:List PV×(Nat×(Nat->Value)),z.1.length=P.cellsOf e/\IA P z.2.1 e z.1/\z.2.1=B (elems.getD i (.nil,[])).1 /\
     ∀j,j<P.cellsOf e->W.cell? ((a.add (i*P.cellsOf e)).add j)=some (z.2.2 j)/\RepP W (fun _ _=>False) (z.2.2 j) (z.1.getD j default)/\(z.2.2 j).oneCell' = true:=by
     intro i g;have hk:=hall i g;have hi' : i<elems.length:=by omega
     rw[Bm7 hi']at hk;obtain⟨cs',h1,h2⟩:=Bw7.1 hk;obtain⟨pvs,hc,hs⟩:=ih _ _ _ hpe h2;obtain⟨_,u,y⟩:=World.cells?_some h1;refine⟨(pvs,(_,fun j=>cs'.getD j undef)),by rw[<- hc.1,u],hs,?_,fun j l=>⟨?_,(hc.2 j (by rw[<- hc.1,u];exact l)).1,(hc.2 j (by rw[<- hc.1,u];exact l)).2⟩⟩
     .simp[Bm3,Bm7 hi']
     rw[y j l];simp[Bm7 (show j<cs'.length by omega)]
    obtain⟨z,o⟩:=choose_lt (α:=List PV×(Nat×(Nat->Value))) each;obtain⟨b,off,sp⟩:=a;have hsp:0<len->sp=none:=fun h0=>by
     have:=((o 0 h0).2.2.2 0 hpk).1
     simpa[Addr.add]using World.cell?_spot this
    refine⟨[.sl false (P.cellsOf e) len fun i=>(z i).1],.one (.sl false b off cap (P.cellsOf e) len _ (fun i j=>(z i).2.2 j) hlen (fun i g=>(o i g).1) (fun i j g l=>?_) (fun i j g l=>((o i g).2.2.2 j l).2.1) sp hsp) rfl,
     .slice (fun i=>(z i).2.1) c (fun i g=>(o i g).1) (fun i g=>(o i g).2.1) ?_⟩
    .have:=((o i g).2.2.2 j l).1
     obtain rfl:=hsp (by omega);refine⟨?_,fun h=>h,((o i g).2.2.2 j l).2.2⟩;rw[<- this,BF3,BF3]
    refine Bq1 (Nat.succ_le_succ (Nat.le_of_eq (congrArg We ?_))) (q.slice (elems.map (·.1)) (rest.map (·.1)));apply List.ext_getElem
    .simp[hel]
    intro i h1 h2;simp only[Bq3,BC6]at h1
    have:=(o i h1).2.2.1
    simp only[List.getElem_map,BG7,this];simp[Bm3,Bm7 (show i<elems.length by omega)]
   |array k e=>
    simp only[c,Br3,decide_eq_true_eq]at hp;obtain⟨xs,n',hn,rfl,hl,hx,hr⟩:=DataW.trod_array c h;obtain⟨_,h2⟩:=K.array (hTl t ht) c;obtain rfl:n' = n:=by omega
    obtain⟨pvs,hc,hs⟩:=Zi (B:=B) (W:=W) (r:=DataW.trod enc P W 0 (fun _=>true) true n') (fun cs x hx=>ih e cs x hp hx) k xs cs (by rw[hl,h2]) hx hr;refine⟨pvs,hc,.arr c hs ?_⟩
    have:=q.agg (xs.map (·.1))
    simpa[Bt3,Bs9]using this
   |struct fs=>
    simp only[c]at hp;obtain⟨xs,n',hn,rfl,hl,hx,hr⟩:=DataW.trod_struct c h;obtain⟨h1,h2,h3⟩:=K.struct (hTl t ht) c;obtain rfl:n' = n:=by omega
    obtain⟨pvs,hc,hs⟩:=QB (B:=B) (W:=W) (r:=DataW.trod enc P W 0 (fun _=>true) true n') (· ∈ T) ih fs.toList xs cs 0 (fun f hf=>by have:=Bo3.1 hp f hf;simpa using this) (by rw[hl,h2])
     (fun j f hf=>by rw[h3 j f hf];omega) (by simpa using hx) (fun i f hf=>by rw[Nat.sub_zero];exact hr i f (by simpa using hf))
    refine⟨pvs,hc,.struct c hs ?_⟩
    have:=q.agg (xs.map (·.1))
    simpa[Bt3,Bs9]using this
   |_=>simp[c]at hp
end
end Go.AM
namespace Go.AM
section
variable {S:U3}{P:Program}
theorem Xj {d:Option Nat}{k k' : St->Prop}{Q Q' : K6}(hk:∀s,k s->k' s)(b:∀e s,Q e s->Q' e s)(r:Nd)(s:St)(h:Lk d k Q r s):Lk d k' Q' r s:=by
 cases r with
 |ret a=>exact hk _ h
 |panic x=>exact b _ _ h
theorem Mk (hS:H2 S P){o:Oper}{k k' : St->Prop}{Q Q' : K6}(hk:∀s,k s->k' s)(u:∀e s,Q e s->Q' e s){st:St}(h:wOp S P o k Q st):wOp S P o k' Q' st:=by
 have i:∀d ids f args st,An8 S d ids f args st (Lk o.dst k Q)->An8 S d ids f args st (Lk o.dst k' Q'):=by rintro d ids f args st ⟨a,ob,h1,g,l,m,n⟩;exact⟨a,ob,h1,g,l,m,hS.monoF _ _ _ _ _ (fun r o ks ⟨q,v⟩=>⟨q,Xj hk u _ _ v⟩) n⟩
 unfold wOp at h⊢;split at h
 .rcases h with⟨as,regs,f',as',h1,g,ids,l⟩ | ⟨j,xs,regs,ys,rest,h1,g,l,m,n,q⟩
  .exact .inl ⟨as,regs,f',as',h1,g,ids,i _ _ _ _ _ l⟩
  exact .inr ⟨j,xs,regs,ys,rest,h1,g,l,m,n,fun b=>hk _ (q b)⟩
 .obtain⟨as,regs,t,y,f',h1,g,l,ids,m⟩:=h;exact⟨as,regs,t,y,f',h1,g,l,ids,i _ _ _ _ _ m⟩
 .obtain⟨t,y,h1,g⟩:=h;exact⟨t,y,h1,u _ _ g⟩
 rcases h with⟨out,h1,g,l⟩ | ⟨c,x,h1,g,l⟩
 .exact .inl ⟨out,h1,g,hk _ l⟩
 exact .inr ⟨c,x,h1,g,hk _ l⟩
theorem GB (hS:H2 S P){all:List Oper}{Q Q' : K6}(a:∀e s,Q e s->Q' e s):∀(rest:List Oper) {st:St},Kk S P all rest Q st->Kk S P all rest Q' st
 |[],st,h=>a _ _ h
 |o::rest,st,h=>by
  simp only[Kk]at h⊢;refine hS.mono _ _ _ (fun t h=>?_) h;split at h
  .exact Mk hS (fun s=>GB hS a rest) a h
  obtain⟨b,h1,c⟩:=h;refine⟨b,h1,?_⟩;split
  .rename_i hb;rw[Pk hb]at c;exact Mk hS (fun s=>GB hS a rest) a c
  rename_i hb;rw[Pl hb]at c;exact GB hS a rest c
theorem QC (hS:H2 S P){all:List Oper}{o:Oper}{k k' : St->Prop}{Q Q' : K6}(hk:∀s,k s->k' s)(c:∀e s,Q e s->Q' e s){st:St}(h:OW S P all o k Q st):OW S P all o k' Q' st:=by
 unfold OW at h⊢;refine hS.mono _ _ _ (fun t h=>?_) h;split at h
 .exact Mk hS hk c h
 obtain⟨b,h1,a⟩:=h;refine⟨b,h1,?_⟩;split
 .rename_i hb;rw[Pk hb]at a;exact Mk hS hk c a
 rename_i hb;rw[Pl hb]at a;exact hk _ a
theorem Zj (hS:H2 S P){ops:List Oper}{Q:K6}{st:St}(hm:P.follows .mixedOrders=true)(m:Jh ops=true)(h:S.up st fun s=>An9 S P ops Q s):An9 S P ops Q st:=by
 refine⟨hm,m,fun D s=>S.up s fun s'=>∃Inv:(Nat->Bool)->St->Prop,Inv D s' /\
  (∀D i s o,Inv D s->ops[i]? = some o->D i=false->(∀e∈o.after.toList,Eo e=true->D e.on=true) ->
   OW S P ops o (Inv fun j=>if j=i then true else D j) Q s) /\
  ∀D s,Inv D s->(∀i,i<ops.length->D i=true)->S.up s (Q .normal),?_,?_,?_⟩
 .refine hS.mono _ _ _ (fun s hs=>?_) h;obtain⟨_,_,Inv,h1,b,c⟩:=hs;exact⟨Inv,h1,b,c⟩
 .intro D i s o f n g l
  have:S.up s fun s'=>OW S P ops o (fun t=>S.up t fun t'=>∃Inv:(Nat->Bool)->St->Prop,Inv (fun j=>if j=i then true else D j) t' /\
   (∀D i s o,Inv D s->ops[i]? = some o->D i=false->(∀e∈o.after.toList,Eo e=true->D e.on=true) ->
    OW S P ops o (Inv fun j=>if j=i then true else D j) Q s) /\
   ∀D s,Inv D s->(∀i,i<ops.length->D i=true)->S.up s (Q .normal)) Q s':=by
   refine hS.mono _ _ _ (fun s' a=>?_) f;obtain⟨Inv,h1,b,c⟩:=a;exact QC hS (fun t ht=>hS.refl _ _ ⟨Inv,ht,b,c⟩) (fun _ _ h=>h) (b D i s' o h1 n g l)
  unfold OW at this⊢;exact hS.trans _ _ this
 intro D s f d;refine hS.trans _ _ (hS.mono _ _ _ (fun s' a=>?_) f);obtain⟨Inv,h1,b,c⟩:=a;exact c D s' h1 d
theorem RY (hS:H2 S P){k k' : St->Prop}{Q Q' : K6}(hk:∀s,k s->k' s)(a:∀e s,Q e s->Q' e s)(e:Nc)(s:St)(h:thn S k Q e s):thn S k' Q' e s:=by
 cases e with
 |normal=>exact hS.mono _ _ _ hk h
 |_=>exact a _ _ h
theorem Ah3 (hS:H2 S P){g:Nat}{ts:List Nat}{next:St->Prop}{Q Q' : K6}(a:∀e s,Q e s->Q' e s)(e:Nc)(s:St)(h:Dt S g ts next Q e s):Dt S g ts next Q' e s:=by
 cases e with
 |normal=>exact h
 |panic x=>exact h
 |_=>exact hS.mono _ _ _ (fun t ⟨cs,h1,b,c,d⟩=>⟨cs,h1,b,c,a _ _ d⟩) h
theorem BH (hS:H2 S P):∀(c:Code) {Q Q' : K6},(∀e s,Q e s->Q' e s)->∀{st:St},awp S P c Q st->awp S P c Q' st
 |.skip,Q,Q',hq,st,h=>hq _ _ h
 |.label _,Q,Q',hq,st,h=>hq _ _ h
 |.region _ ops draw,Q,Q',hq,st,h=>by
  unfold awp at h⊢;split
  .rename_i hb;rw[Pk hb]at h;obtain⟨h1,j,Inv,n,q,u⟩:=h;exact⟨h1,j,Inv,n,fun D i s o a b c d=>QC hS (fun _ h=>h) hq (q D i s o a b c d),fun D s a b=>hS.mono _ _ _ (fun t=>hq _ t) (u D s a b)⟩
  rename_i hb;rw[Pl hb]at h;exact GB hS hq _ h
 |.seq a b,Q,Q',hq,st,h=>BH hS a (RY hS (fun s=>BH hS b hq) hq) h
 |.cond c t e,Q,Q',hq,st,h=>by
  obtain⟨b,h1,j⟩:=h;refine⟨b,h1,?_⟩;split
  .rename_i hb;rw[Pk hb]at j;exact BH hS t hq j
  rename_i hb;rw[Pl hb]at j;exact BH hS e hq j
 |.block id b,Q,Q',hq,st,h=>BH hS b (fun e s h=>by
  cases e with
  |exit i=>simp only[blk]at h⊢;split at h<;>simp_all
  |_=>exact hq _ _ h) h
 |.loop b,Q,Q',hq,st,h=>by
  obtain⟨X,s,J,m,h1,j⟩:=h;refine⟨X,s,J,m,h1,fun x hx=>BH hS b (fun e t h=>?_) (j x hx)⟩;cases e with
  |normal=>exact h
  |_=>exact hq _ _ h
 |.scope b,Q,Q',hq,st,h=>BH hS b (fun e s h=>by
  cases e with
  |goto l=>exact h
  |_=>exact hq _ _ h) h
 |.exit id,Q,Q',hq,st,h=>hq _ _ h
 |.goto l,Q,Q',hq,st,h=>hq _ _ h
 |.ret,Q,Q',hq,st,h=>hq _ _ h
 |.rangeFunc g ps asg body,Q,Q',hq,st,h=>by
  obtain⟨f,first,caps,as,bs,objs,ids,ts,gh,L,I,Fin,h1,j,n,q,u,h6,h7,h8,h9,w,y,z,a0,a1,a2,a3⟩:=h;refine⟨f,first,caps,as,bs,objs,ids,ts,gh,L,I,Fin,h1,j,n,q,u,h6,h7,h8,h9,w,y,z,a0,?_,?_,a3⟩
  .intro ys rest s a b c;refine BH hS asg (fun e t h=>?_) (a1 ys rest s a b c);cases e with
   |normal=>exact hS.mono _ _ _ (fun t h=>BH hS body (Ah3 hS hq) h) h
   |_=>exact h
  intro s r a b c d
  have:=a2 s r a b c d
  cases r with
  |ret v=>exact hq _ _ this
  |panic x=>exact hq _ _ this
 |.refuse _,Q,Q',hq,st,h=>h
theorem AF2 (hS:H2 S P){F:K6}(a:∀s,S.up s (F .normal)->F .normal s):∀(K:List It) (s:St),S.up s (kp S P K F .normal)->kp S P K F .normal s
 |[],s,h=>a s h
 |.code c::K,s,h=>hS.trans _ _ (hS.mono _ _ _ (fun t h=>h) h)
 |.blk id::K,s,h=>AF2 hS a K s h
 |.lp X s' J m n::K,s,h=>hS.trans _ _ h
 |.mid M::K,s,h=>hS.trans _ _ h
 |.scp::K,s,h=>AF2 hS a K s h
theorem Bf2 (hS:H2 S P){F:K6}(a:∀s,S.up s (F .normal)->F .normal s){K:List It}{M:St->Prop}(b:∀t,M t->G S P F (.pop .normal K t))(e:Nc)(s:St)(h:kp S P (.mid M::K) F e s):kp S P K F e s:=by
 cases e with
 |normal=>exact AF2 hS a K s (hS.mono _ _ _ b h)
 |_=>exact h
end
end Go.AM
namespace Go.AM
section
variable {S:U3}{P:Program}{F:K6}{K:List It}{st:St}
theorem Zk (hS:H2 S P){all rest:List Oper}{o:Oper}{t:TypeId}{m k:Operand}{ok:Bool}{key:PV}{regs:D8}{j:Nat}{es:List (PV×PV)}{kt e:TypeId}{x:PV}{b:Bool}{fd:Option PV}
 (i:BV all st.env o=some true) (f:o.op=.lookup t m k ok) (l:Em st.regs (aev st.env k)=some (key,regs)) (hm:aev st.env m=.mref j) (n:A2 regs j=some (.map es))
 (ht:tk P t=some (.map kt e)) (hk:Gw P kt key=true) (q:find (Ku P kt) key es=some fd) (hx:(match fd with|some x=>some (x,true)|none=>(Jg P e).map fun z=>(z,false))=some (x,b)) (hc:E5 (Kv P kt))
 (hn:G S P F (.ops all rest K (put { st with regs:=regs } o.dst (if ok then .tup [.p x,.bool b]else .p x)))):G S P F (.ops all (o::rest) K st):=by
 refine AM5 hS (out:=⟨Kv P kt,if ok then .tup [.p x,.bool b]else .p x,regs⟩) i ?_ (fun c a=>by rw[f]at a;cases a) (fun x d=>by rw[f]at d;cases d) hc hn;rw[f];simp only[aop,l,hm,Dr,ht,hk,n,q];cases fd with
 |some y=>simp only[Bm4,Bn4]at hx;obtain⟨rfl,rfl⟩:=hx;rfl
 |none=>
  simp only at hx⊢;cases g:Jg P e with
  |none=>simp[g]at hx
  |some z=>simp only[g,Bn5,Bm4,Bn4]at hx;obtain⟨rfl,rfl⟩:=hx;rfl
theorem Xk (hS:H2 S P){all rest:List Oper}{o:Oper}{t:TypeId}{m k x:Operand}{key y:PV}{regs:D8}{j:Nat}{es es' : List (PV×PV)}{kt e:TypeId}
 (g:BV all st.env o=some true) (d:o.op=.mapUpdate t m k x) (f:aev st.env k=.p key) (i:Em st.regs (aev st.env x)=some (y,regs)) (hm:aev st.env m=.mref j) (l:A2 regs j=some (.map es))
 (ht:tk P t=some (.map kt e)) (hk:Gw P kt (nP key)=true) (n:upd (Ku P kt) (nP key) y es=some es') (hc:E5 (Kv P kt))
 (hn:G S P F (.ops all rest K (put { st with regs:=ins j (.map es') regs } o.dst Rt))):G S P F (.ops all (o::rest) K st):=by
 refine AM5 hS (out:=⟨Kv P kt,Rt,ins j (.map es') regs⟩) g ?_ (fun c a=>by rw[d]at a;cases a) (fun x b=>by rw[d]at b;cases b) hc hn;rw[d];simp only[aop,i,hm,f,ht,hk,l,n]
end
end Go.AM
namespace Go.AM
variable {N:Nat}
abbrev Str:=List UInt8
structure Sl (α : Type) where
 n:Nat
 g:Nat -> α
instance {α : Type} [Inhabited α]:Inhabited (Sl α):=⟨⟨0,fun _=>default⟩⟩
namespace Sl
variable {α : Type}
def toList (s:Sl α):List α:=(List.range s.n).map s.g
abbrev nil [Inhabited α]:Sl α:=⟨0,fun _=>default⟩
abbrev rep (n:Nat)(a : α):Sl α:=⟨n,fun _=>a⟩
abbrev sub (s:Sl α)(a b:Nat):Sl α:=⟨b-a,fun i=>s.g (a+i)⟩
abbrev drop (s:Sl α)(a:Nat):Sl α:=⟨s.n-a,fun i=>s.g (a+i)⟩
abbrev take (s:Sl α)(b:Nat):Sl α:=⟨b,s.g⟩
abbrev push (s:Sl α)(a : α):Sl α:=⟨s.n+1,fun i=>if i<s.n then s.g i else a⟩
abbrev app (s t:Sl α):Sl α:=⟨s.n+t.n,fun i=>if i<s.n then s.g i else t.g (i-s.n)⟩
abbrev upd (s:Sl α)(k:Nat)(a : α):Sl α:=⟨s.n,fun i=>if i=k then a else s.g i⟩
abbrev of [Inhabited α](l:List α):Sl α:=⟨l.length,fun i=>l.getD i default⟩
end Sl
abbrev vSl {α : Type}(k:Nat)(c : α -> List PV)(s:Sl α):PV:=.sl false k s.n fun i=>c (s.g i)
abbrev pI (k:IntKind)(n:Int):PV:=.v (.int k n)
abbrev Aw (l:Str)(i:Int):Int:=(((l.getD i.toNat 0).toNat:Nat):Int)
abbrev pN (n:Int):AV:=.p (.v (.int .i64 n))
abbrev pU (n:Int):AV:=.p (.v (.int .u32 n))
abbrev pB (b:Bool):AV:=.p (.bb b)
abbrev M8:PV:=.v (.slice none 0 0)
section
variable {R:Type}
def Q7 {A:Type}(N:Nat)(body:(A->Option R)->A->Option R):A->Option R:=match N with
 |0=>fun _=>none
 |N+1=>fun a=>body (Q7 N body) a
variable {A B C D E F G H:Type}
def S0 (N:Nat)(body:(A->B->Option R)->A->B->Option R)(a:A)(b:B):Option R:=Q7 N (fun c x=>body (fun a b=>c (a,b)) x.1 x.2) (a,b)
def Am8 (N:Nat)(body:(A->B->C->Option R)->A->B->C->Option R)(a:A)(b:B)(c:C):Option R:=Q7 N (fun d x=>body (fun a b c=>d (a,b,c)) x.1 x.2.1 x.2.2) (a,b,c)
def Ar8 (N:Nat)(body:(A->B->C->D->Option R)->A->B->C->D->Option R)(a:A)(b:B)(c:C)(d:D):Option R:=Q7 N (fun f x=>body (fun a b c d=>f (a,b,c,d)) x.1 x.2.1 x.2.2.1 x.2.2.2) (a,b,c,d)
theorem T9 {body:(A->Option R)->A->Option R}{a:A}:Q7 (N+1) body a=body (Q7 N body) a:=rfl
theorem G0 {body:(A->B->Option R)->A->B->Option R}{a:A}{b:B}:S0 (N+1) body a b=body (S0 N body) a b:=rfl
theorem V6 {body:(A->B->C->D->Option R)->A->B->C->D->Option R}{a:A}{b:B}{c:C}{d:D}:Ar8 (N+1) body a b c d=body (Ar8 N body) a b c d:=rfl
def lt {K:Type}(k:K)(f:K->Option R):Option R:=f k
end
section
variable {R X Y:Type}{r:R}
theorem itT {b:Bool}{x y:Option R}(hb:b=true)(h:(if b then x else y)=some r):x=some r:=by rwa [Pk hb]at h
theorem itF {b:Bool}{x y:Option R}(hb:b=false)(h:(if b then x else y)=some r):y=some r:=by rwa [Pl (by simp[hb])]at h
theorem D6 {p:Prop}[Decidable p]{x:Option R}(h:(if p then x else none)=some r):p/\x=some r:=by
 split at h
 .exact⟨by assumption,h⟩
 cases h
theorem B9 {x:Option X}{f:X->Option R}(h:x.bind f=some r):∃a,x=some a/\f a=some r:=Bw7.1 h
theorem C4 {a b:R}(h:some a=some b):a=b:=Bn8 h
end
section
variable {S:U3}{P:Program}{F:K6}{K:List It}{st:St}
theorem A5 (hS:H2 S P){n:Nat}{rs:List ResultVar}{Q:Nd->List Obj->List Bool->Prop}(s:St)(h:S.up s (Cw S P n rs Q .normal)):Cw S P n rs Q .normal s:=hS.trans _ _ h
theorem Bf3 (hS:H2 S P){b:Code}{R A:Type}{body:(A->Option R)->A->Option R}{N:Nat}{a0:A}{r:R}(h:Q7 N body a0=some r)(s:A->St)(ids:List (Nat×Nat))(hle:Le ids st (s a0))
 (d:∀(X:Type) (s' : X->St) (J:X->Prop) (m:X->Nat) (n:Nat) (c:A->Option R) (a:A),(∀st ids a,Le ids st (s a)->c a=some r->G S P F (.pop .normal (.lp X s' J m n::K) st))->body c a=some r->G S P F (.code b (.lp X s' J m n::K) (s a))) :
 G S P F (.code (.loop b) K st):=by
 refine Ao3 hS (X:=Nat×A) (fun x=>s x.2) (fun x=>Q7 x.1 body x.2=some r) (fun x=>x.1) (N,a0) ids hle h ?_;rintro⟨n,a⟩ hx;cases n with
 |zero=>cases hx
 |succ n=>exact d _ _ _ _ _ (Q7 n body) a (fun st ids a hle h=>Ao4 hS (n,a) ids hle h (Nat.lt_succ_self n)) hx
theorem Ar9 (hS:H2 S P){all rest:List Oper}{o:Oper}(t:St)(ids:List (Nat×Nat))(hle:Le ids st t)(h:G S P F (.ops all (o::rest) K t)):G S P F (.ops all (o::rest) K st):=
 WO hS (hS.le ids _ _ _ hle h)
end
theorem pm:(∀b,(true||b)=true)/\(∀b,(b||true)=true)/\(∀b,(false||b)=b)/\(∀b,(b||false)=b)/\(∀b,(true&&b)=b)/\(∀b,(b&&true)=b)/\(∀b,(false&&b)=false)/\(∀b,(b&&false)=false)/\((!true)=false)/\((!false)=true)/\((false=true)=False)/\((true=true)=True):=by refine⟨?_,?_,?_,?_,?_,?_,?_,?_,?_,?_,?_,?_⟩<;>simp
section
variable {regs:D8}{ids:List (Nat×Nat)}
variable {env r:Env}{t:Nat}{a b:AV}{x y:PV}
theorem eP (b:get env t=a)(h:viewP regs a=some y)(h' : Nh regs ids env r):Nh regs ids env ((t,.p y)::r):=AM6 b (le_p h) h'
theorem eM {i j:Nat}(a:get env t=.mref i)(h:lk ids j=some i)(h' : Nh regs ids env r):Nh regs ids env ((t,.mref j)::r):=AM6 a (Ao5 h) h'
theorem EA {α : Type}{c : α -> List PV}{n:Nat}{v:Sl α}{f:Nat->List PV}{z cs:List PV}{x : α}(h:∀i,i<n->f i=c (v.g i))(hn:n=v.n)(hx:cs=c x):∀i,i<n+1->T2 n f (D3 z [(0,cs)]) i=c ((v.push x).g i):=by
 subst hn hx;intro i a;show (if i<v.n then f i else D3 z [(0,c x)] (i-v.n))=c (if i<v.n then v.g i else x);split
 .exact h i ‹_›
 obtain rfl:i=v.n:=by omega
 simp[D3]
theorem WC {α : Type}{c : α -> List PV}{n m:Nat}{v w:Sl α}{f g:Nat->List PV}(h:∀i,i<n->f i=c (v.g i))(hn:n=v.n)(h' : ∀i,i<m->g i=c (w.g i))(hm:m=w.n):∀i,i<n+m->T2 n f g i=c ((v.app w).g i):=by
 subst hn hm;intro i a;show (if i<v.n then f i else g (i-v.n))=c (if i<v.n then v.g i else w.g (i-v.n));split
 .exact h i ‹_›
 exact h' _ (by omega)
theorem Ak9 {α : Type}{c : α -> List PV}{n k:Nat}{v:Sl α}{f:Nat->List PV}{e:Nat->List PV}{x : α}(h:∀i,i<n->f i=c (v.g i))(hx:k<n->e k=c x):∀i,i<n->(fun l=>if l=k then e l else f l) i=c ((v.upd k x).g i):=by
 intro i a;show (if i=k then e i else f i)=c (if i=k then x else v.g i);split
 .subst_vars;exact hx a
 exact h i a
theorem same {n:Nat}{f:Nat->List PV}:∀i,i<n->f i=f i:=fun _ _=>rfl
end
end Go.AM
namespace Go.AM
abbrev cI (k:IntKind)(n:Int):List PV:=[.v (.int k n)]
abbrev cB (b:Bool):List PV:=[.bb b]
abbrev cS (s:Str):List PV:=[.str s]
abbrev cL {α : Type}(k:Nat)(c : α -> List PV)(s:Sl α):List PV:=[vSl k c s]
abbrev Xl (s:Sl Int):Str:=(List.range s.n).map fun i=>UInt8.ofNat (s.g i).toNat
section
variable {S:U3}{P:Program}{F:K6}{K:List It}{st:St}
end
section
variable {regs:D8}{ids:List (Nat×Nat)}
theorem le_yf {i j:Nat}(h:lk ids j=some i):leA regs ids (.yf i) (.yf j):=by unfold leA;exact⟨i,h,rfl⟩
theorem Bf4 {l m:List AV}(h:leL regs ids l m):leA regs ids (.tup l) (.tup m):=by unfold leA;exact⟨l,rfl,h⟩
theorem Bf5 {l m:List AV}(h:leL regs ids l m):leA regs ids (.agr l) (.agr m):=by unfold leA;exact⟨l,rfl,h⟩
end
end Go.AM
namespace Go.AM
def Ju {κ ν : Type}(kP : κ -> PV)(vP : ν -> PV)(es:List (κ × ν)):List (PV×PV):=es.map fun p=>(kP p.1,vP p.2)
def X1 {κ ν : Type}(eq : κ -> κ -> Bool)(k : κ):List (κ × ν)->Option ν
 |[]=>none
 |(a,v)::es=>if eq k a then some v else X1 eq k es
def HF {κ ν : Type}(eq : κ -> κ -> Bool)(k : κ)(v : ν):List (κ × ν)->List (κ × ν)
 |[]=>[(k,v)]
 |(a,x)::es=>if eq k a then (k,v)::es else (a,x)::HF eq k v es
theorem Xm {κ ν : Type}(kP : κ -> PV)(vP : ν -> PV)(es:List (κ × ν)):(Ju kP vP es).length=es.length:=by simp[Ju]
theorem BI {κ ν : Type}{kP : κ -> PV}{vP : ν -> PV}{cmp:PV->PV->Option Bool}{eq : κ -> κ -> Bool}(hc:∀a b,cmp (kP a) (kP b)=some (eq a b))(k : κ):∀es:List (κ × ν),find cmp (kP k) (Ju kP vP es)=some ((X1 eq k es).map vP)
 |[]=>rfl
 |(a,v)::es=>by
  show (match cmp (kP k) (kP a)with|some true=>some (some (vP v))|some false=>find cmp (kP k) (Ju kP vP es)|none=>none)=some ((X1 eq k ((a,v)::es)).map vP);rw[hc];simp only[X1];cases h:eq k a
  .simpa using BI hc k es
  rfl
theorem Hq {κ ν : Type}{kP : κ -> PV}{vP : ν -> PV}{cmp:PV->PV->Option Bool}{eq : κ -> κ -> Bool}(hc:∀a b,cmp (kP a) (kP b)=some (eq a b))(k : κ)(x : ν):∀es:List (κ × ν),upd cmp (kP k) (vP x) (Ju kP vP es)=some (Ju kP vP (HF eq k x es))
 |[]=>rfl
 |(a,v)::es=>by
  show (match cmp (kP k) (kP a)with|some true=>some ((kP k,vP x)::Ju kP vP es)|some false=>(upd cmp (kP k) (vP x) (Ju kP vP es)).map ((kP a,vP v) :: ·)|none=>none)=some (Ju kP vP (HF eq k x ((a,v)::es)));rw[hc];simp only[HF];cases h:eq k a
  .simp only[Hq hc k x es,Bn5,Po,Bn1];rfl
  rfl
abbrev eqS (a b:Str):Bool:=a==b
def AN3 {X Y:Type}(o:Option X)(a:Y)(f:X->Y):Y:=match o with
 |none=>a
 |some x=>f x
theorem Bl5 {X R:Type}{r:R}{o:Option X}{a:Option R}{f:X->Option R}(b:o=none)(h:AN3 o a f=some r):a=some r:=by subst b;exact h
theorem Bl6 {X R:Type}{r:R}{o:Option X}{x:X}{a:Option R}{f:X->Option R}(b:o=some x)(h:AN3 o a f=some r):f x=some r:=by subst b;exact h
theorem NF {X Y:Type}(a:Y)(f:X->Y):AN3 none a f=a:=rfl
theorem As0 {X Y:Type}(x:X)(a:Y)(f:X->Y):AN3 (some x) a f=f x:=rfl
section
variable {R T A B C D:Type}
def iter0 (L:List T)(body:Option R->T->Option R)(k:Option R):Option R:=match L with
 |[]=>k
 |t::L=>body (iter0 L body k) t
def Q5 (L:List T)(body:(A->Option R)->T->A->Option R)(k:A->Option R)(a:A):Option R:=match L with
 |[]=>k a
 |t::L=>body (Q5 L body k) t a
end
section
variable {S:U3}{P:Program}{F:K6}{K:List It}{st:St}
theorem AT7 (hS:H2 S P){g:Operand}{ps:Array Tmp}{asg body:Code}{f:FuncId}{first caps as bs:List AV}{objs:List Obj}{R T A:Type}{enc:T->List PV}{L:List T}{mb:(A->Option R)->T->A->Option R}{mk:A->Option R}{a0:A}{r:R}
 (ids ts:List Nat) (gh:Nat) (s:A->St) (idl:List (Nat×Nat)) (h:Q5 L mb mk a0=some r) (y:Gk S f as bs objs (L.map enc))
 (hp:En st.env g=some (f,first,caps)) (j:∃fn,P.funcs[f]? = some fn/\fn.body.isSome=true/\(fn.name == "runtime.NumGoroutine")=false) (l:L0 ids st.regs ids=some objs) (m:DP objs=true) (z:H5 ids=true) (n:CO ids first=some as) (o:CO ids caps=some bs) (q:objs.length=ids.length)
 (u:Nat.blt gh 1000=true) (v:A2 st.regs gh=none) (w:Nat.blt ids.length 1000=true) (x:H5 ts=true) (d:∀t:T,(enc t).length=ps.size)
 (hle:Le idl ⟨Z0 ts (ts.map (get st.env)),N8 ids (ids.map fun _=>false) st.regs⟩ (s a0)) (hk:∀a,(s a).env.map (·.1)=ts) (hn:∀a,A2 (s a).regs gh=none)
 (b:∀(t:T) (next:St->Prop) (c:A->Option R) (a:A),(∀(st st1:St) (cs:List AV) (idl:List (Nat×Nat)) (a:A),Le idl st st1->A2 st1.regs gh=some (.ghost cs)->cs.length=ts.length->A2 (del gh st1.regs) gh=none->(⟨Z0 ts cs,del gh st1.regs⟩:St)=s a->c a=some r->G S P (Dt S gh ts next (kp S P K F)) (.pop .normal [] st)) ->
  mb c t a=some r->G S P (BG S P body gh ts next (kp S P K F)) (.code asg [] ⟨Ji ps.toList (enc t) (s a).env,ins gh (.ghost ((s a).env.map (·.2))) (s a).regs⟩))
 (i:∀a,mk a=some r->G S P F (.pop .normal K (s a))):G S P F (.code (.rangeFunc g ps asg body) K st):=by
 refine Ar5 hS ids ts gh (L.map enc) s (fun rest a=>∃L',rest=L'.map enc/\Q5 L' mb mk a=some r) a0 idl hp j l m z n o q (by simpa[Bx7]using u) v (by simpa[Bx7]using w) x (fun ys hy=>?_) y hle ⟨L,rfl,h⟩ hk hn ?_ ?_
 .obtain⟨t,_,rfl⟩:=Bp0.1 hy;exact d t
 .rintro ys rest a ⟨L',hL,hx⟩;cases L' with
  |nil=>cases hL
  |cons t L'=>simp only[Bp8,Bt8]at hL;obtain⟨rfl,rfl⟩:=hL;refine b t _ (Q5 L' mb mk) a (fun st st1 cs idl a hle h1 h2 h3 h4 h5=>?_) hx;exact Xi hS st1 a idl hle h1 h2 h3 h4 ⟨L',rfl,h5⟩
 rintro a ⟨L',hL,hx⟩;cases L' with
 |nil=>exact i a hx
 |cons t L'=>cases hL
theorem AF3 (hS:H2 S P){g:Operand}{ps:Array Tmp}{asg body:Code}{f:FuncId}{first caps as bs:List AV}{objs:List Obj}{R T A:Type}{enc:T->List PV}{L:List T}{mb:(A->Option R)->T->A->Option R}{mk:A->Option R}{a0:A}{r0:R}
 (ids ts:List Nat) (gh:Nat) (s:A->R->St) (idl:List (Nat×Nat)) (h:Q5 L mb mk a0=some r0) (z:Gk S f as bs objs (L.map enc))
 (hp:En st.env g=some (f,first,caps)) (j:∃fn,P.funcs[f]? = some fn/\fn.body.isSome=true/\(fn.name == "runtime.NumGoroutine")=false) (l:L0 ids st.regs ids=some objs) (m:DP objs=true) (hd:H5 ids=true) (n:CO ids first=some as) (o:CO ids caps=some bs) (q:objs.length=ids.length)
 (u:Nat.blt gh 1000=true) (v:A2 st.regs gh=none) (w:Nat.blt ids.length 1000=true) (y:H5 ts=true) (d:∀t:T,(enc t).length=ps.size)
 (hle:Le idl ⟨Z0 ts (ts.map (get st.env)),N8 ids (ids.map fun _=>false) st.regs⟩ (s a0 r0)) (hk:∀a r,(s a r).env.map (·.1)=ts) (hn:∀a r,A2 (s a r).regs gh=none)
 (b:∀(t:T) (next:St->Prop) (c:A->Option R) (a:A) (r:R),(∀(st st1:St) (cs:List AV) (idl:List (Nat×Nat)) (a:A) (r:R),Le idl st st1->A2 st1.regs gh=some (.ghost cs)->cs.length=ts.length->A2 (del gh st1.regs) gh=none->(⟨Z0 ts cs,del gh st1.regs⟩:St)=s a r->c a=some r->G S P (Dt S gh ts next (kp S P K F)) (.pop .normal [] st)) ->
  mb c t a=some r->G S P (BG S P body gh ts next (kp S P K F)) (.code asg [] ⟨Ji ps.toList (enc t) (s a r).env,ins gh (.ghost ((s a r).env.map (·.2))) (s a r).regs⟩))
 (i:∀a r,mk a=some r->G S P F (.pop .normal K (s a r))):G S P F (.code (.rangeFunc g ps asg body) K st):=by
 refine Ar5 hS ids ts gh (L.map enc) (fun x:A×R=>s x.1 x.2) (fun rest x=>∃L',rest=L'.map enc/\Q5 L' mb mk x.1=some x.2) (a0,r0) idl hp j l m hd n o q (by simpa[Bx7]using u) v (by simpa[Bx7]using w) y (fun ys hy=>?_) z hle ⟨L,rfl,h⟩ (fun x=>hk x.1 x.2) (fun x=>hn x.1 x.2) ?_ ?_
 .obtain⟨t,_,rfl⟩:=Bp0.1 hy;exact d t
 .rintro ys rest ⟨a,r⟩ ⟨L',hL,hx⟩;cases L' with
  |nil=>cases hL
  |cons t L'=>simp only[Bp8,Bt8]at hL;obtain⟨rfl,rfl⟩:=hL;refine b t _ (Q5 L' mb mk) a r (fun st st1 cs idl a r hle h1 h2 h3 h4 h5=>?_) hx;exact Xi hS st1 (a,r) idl hle h1 h2 h3 h4 ⟨L',rfl,h5⟩
 rintro⟨a,r⟩ ⟨L',hL,hx⟩;cases L' with
 |nil=>exact i a r hx
 |cons t L'=>cases hL
end
end Go.AM
namespace Go.AM
section
variable {S:U3}{P:Program}{all:List Oper}{k:Env->D8->Prop}
theorem Xn {cls:List Cls}{o:Oper}{rest:List Oper}{env:Env}{regs regs1:D8}{t:TypeId}{m q x:Operand}{key y:PV}{j:Nat}{es es' : List (PV×PV)}{kt e:TypeId}
 (d:BF all env o=some true) (b:o.op=.mapUpdate t m q x) (a:aev env q=.p key) (f:Em regs (aev env x)=some (y,regs1)) (hm:aev env m=.mref j) (g:A2 regs1 j=some (.map es))
 (ht:tk P t=some (.map kt e)) (hk:Gw P kt (nP key)=true) (i:upd (Ku P kt) (nP key) y es=some es') (hc:E5 (Kv P kt))
 (hn:Kl S P all cls rest (ND o.dst Rt env) (ins j (.map es') regs1) k):Kl S P all (.w::cls) (o::rest) env regs k:=by
 refine AN2 (c:=Kv P kt) (v:=Rt) (regs':=ins j (.map es') regs1) d ?_ hc ?_ hn
 .rw[b];simp only[aop,f,hm,a,ht,hk,g,i]
 rw[b];rfl
theorem Zl {cl:Cls}{cls:List Cls}{o:Oper}{rest:List Oper}{env:Env}{regs regs1:D8}{t:TypeId}{m q:Operand}{ok:Bool}{key:PV}{j:Nat}{es:List (PV×PV)}{kt e:TypeId}{x:PV}{b:Bool}{fd:Option PV}
 (f:BF all env o=some true) (g:o.op=.lookup t m q ok) (i:Em regs (aev env q)=some (key,regs1)) (hm:aev env m=.mref j) (l:A2 regs1 j=some (.map es))
 (ht:tk P t=some (.map kt e)) (hk:Gw P kt key=true) (n:find (Ku P kt) key es=some fd) (hx:(match fd with|some x=>some (x,true)|none=>(Jg P e).map fun z=>(z,false))=some (x,b)) (hc:E5 (Kv P kt)) (a:Ah1 cl env (o.dst.getD 0) o.op=true)
 (hn:Kl S P all cls rest (ND o.dst (if ok then .tup [.p x,.bool b]else .p x) env) regs1 k):Kl S P all (cl::cls) (o::rest) env regs k:=by
 refine AN2 (c:=Kv P kt) (v:=if ok then .tup [.p x,.bool b]else .p x) (regs':=regs1) f ?_ hc a hn;rw[g];simp only[aop,i,hm,Dr,ht,hk,l,n];cases fd with
 |some y=>simp only[Bm4,Bn4]at hx;obtain⟨rfl,rfl⟩:=hx;rfl
 |none=>
  simp only at hx⊢;cases d:Jg P e with
  |none=>simp[d]at hx
  |some z=>simp only[d,Bn5,Bm4,Bn4]at hx;obtain⟨rfl,rfl⟩:=hx;rfl
end
end Go.AM
namespace Go.AM
section
variable (P:Program)
def stp (g:Cfg):Cfg:=(run P none 400 [] g).cfg
def cnd (g:Cfg):List Prop:=(run P none 400 [] g).conds
def IO (d:Nat)(g:Cfg):Cfg:=(run P (some d) 400 [] g).cfg
def Bf6 (d:Nat)(g:Cfg):List Prop:=(run P (some d) 400 [] g).conds
def Cfg.st:Cfg->St
 |.code _ _ s=>s
 |.ops _ _ _ s=>s
 |.pop _ _ s=>s
def Cfg.k:Cfg->List It
 |.code _ K _=>K
 |.ops _ _ K _=>K
 |.pop _ K _=>K
def mkO {R:Type _}(env:Env)(regs:D8)(κ : Env->D8->R):R:=fE env fun env=>fR regs fun regs=>κ env regs
theorem EB {R:Type _}(env:Env)(regs:D8)(κ : Env->D8->R):mkO env regs κ = κ env regs:=by simp only[mkO,fE_eq,AR0]
def AF4 {R:Type _}(d:Option Nat)(a:AV)(env:Env)(regs:D8)(κ : St->R):R:=match d with
 |some d=>mkO (ins d a env) regs fun env regs=>κ ⟨env,regs⟩
 |none=>mkO env regs fun env regs=>κ ⟨env,regs⟩
theorem IB {R:Type _}(d:Option Nat)(a:AV)(env:Env)(regs:D8)(κ : St->R):AF4 d a env regs κ = κ (put ⟨env,regs⟩ d a):=by cases d<;>simp only[AF4,EB,put]
def AF5:Cfg->Option Bool
 |.code (.cond c _ _) _ st=>match aev st.env c with
  |.p (.bb b)=>some b
  |_=>none
 |_=>none
def AT8:Cfg->Cfg
 |.code (.cond _ t _) K st=>.code t K st
 |g=>g
def AT9:Cfg->Cfg
 |.code (.cond _ _ e) K st=>.code e K st
 |g=>g
def Zm:Cfg->Option Bool
 |.ops all (o::_) _ st=>match o.guard with
  |some (j,_)=>match Bc5 all j with
   |some d=>match get st.env d with
    |.p (.bb b)=>some b
    |_=>none
   |none=>none
  |none=>none
 |_=>none
def NG (b:Bool):Cfg->Cfg
 |.ops all (o::rest) K st=>match o.guard with
  |some (j,_)=>match Bc5 all j with
   |some d=>AF4 (some d) (.p (.v (.bool b))) st.env st.regs fun st=>.ops all (o::rest) K st
   |none=>.ops all (o::rest) K st
  |none=>.ops all (o::rest) K st
 |g=>g
def Ah4 (ids:List Nat):Cfg->Option (FuncId×List AV×List Obj)
 |.ops all (o::_) _ st=>match BV all st.env o,o.op with
  |some true,.call c=>match c.callee with
   |.value f=>match ON st.regs (c.args.toList.map (aev st.env))with
    |some (as,regs)=>match TV st.env f as with
     |some (fn,as')=>match CO ids as',L0 ids regs ids with
      |some a,some ob=>if H5 ids&&DP ob then some (fn,a,ob)else none
      |_,_=>none
     |none=>none
    |none=>none
   |_=>none
  |_,_=>none
 |_=>none
def Ah5 (ids:List Nat)(ks:List Bool)(n:Nat):Cfg->Bool
 |.ops _ (o::_) _ st=>match o.op with
  |.call c=>match ON st.regs (c.args.toList.map (aev st.env))with
   |some (_,regs)=>BA regs ids ks (o.dst.getD 0) n
   |none=>false
  |_=>false
 |_=>false
def AF6 (ids:List Nat)(ks:List Bool)(r:AV)(objs' : List Obj):Cfg->Cfg
 |.ops all (o::rest) K st=>match o.op with
  |.call c=>match ON st.regs (c.args.toList.map (aev st.env))with
   |some (_,regs)=>AF4 o.dst (unA (J6 (o.dst.getD 0) ids ks objs'.length) r) st.env
    (TU (J6 (o.dst.getD 0) ids ks objs'.length) (J6 (o.dst.getD 0) ids ks objs'.length) objs' (N8 ids ks regs)) fun st=>.ops all rest K st
   |none=>.ops all (o::rest) K st
  |_=>.ops all (o::rest) K st
 |g=>g
structure LookI where
 kt:TypeId
 e:TypeId
 key:PV
 es:List (PV×PV)
def AU0:Cfg->Option LookI
 |.ops all (o::_) _ st=>match BV all st.env o,o.op with
  |some true,.lookup t m k _=>match Em st.regs (aev st.env k),aev st.env m with
   |some (key,regs),.mref j=>match A2 regs j,tk P t with
    |some (.map es),some (.map kt e)=>if Gw P kt key then some ⟨kt,e,key,es⟩else none
    |_,_=>none
   |_,_=>none
  |_,_=>none
 |_=>none
def AF7 (e:TypeId):Option PV->Option (PV×Bool)
 |some x=>some (x,true)
 |none=>(Jg P e).map fun z=>(z,false)
def AU1 (x:PV)(b:Bool):Cfg->Cfg
 |.ops all (o::rest) K st=>match o.op with
  |.lookup _ _ k ok=>match Em st.regs (aev st.env k)with
   |some (_,regs)=>AF4 o.dst (if ok then .tup [.p x,.bool b]else .p x) st.env regs fun st=>.ops all rest K st
   |none=>.ops all (o::rest) K st
  |_=>.ops all (o::rest) K st
 |g=>g
def updE:Cfg->Option (TypeId×PV×PV×List (PV×PV))
 |.ops all (o::_) _ st=>match BV all st.env o,o.op with
  |some true,.mapUpdate t m k x=>match aev st.env k,aev st.env m,Em st.regs (aev st.env x)with
   |.p key,.mref j,some (y,regs)=>match A2 regs j,tk P t with
    |some (.map es),some (.map kt _)=>if Gw P kt (nP key) then some (kt,nP key,y,es)else none
    |_,_=>none
   |_,_,_=>none
  |_,_=>none
 |_=>none
def updK (es' : List (PV×PV)):Cfg->Cfg
 |.ops all (o::rest) K st=>match o.op with
  |.mapUpdate _ m _ x=>match aev st.env m,Em st.regs (aev st.env x)with
   |.mref j,some (_,regs)=>AF4 o.dst Rt st.env (ins j (.map es') regs) fun st=>.ops all rest K st
   |_,_=>.ops all (o::rest) K st
  |_=>.ops all (o::rest) K st
 |g=>g
def HP:Cfg->Bool
 |.code (.loop _) _ _=>true
 |_=>false
def RZ:Cfg->Code
 |.code (.loop b) _ _=>b
 |_=>.skip
def popSt:Cfg->Option St
 |.pop .normal _ st=>some st
 |_=>none
def UF (M:It):Nat->List It->List It
 |0,K=>M::K
 |n+1,i::K=>i::UF M n K
 |_+1,[]=>[M]
def Bf7 (n:Nat)(M:St->Prop):Cfg->Cfg
 |.code c K st=>.code c (UF (.mid M) n K) st
 |.ops all rest K st=>.ops all rest (UF (.mid M) n K) st
 |.pop e K st=>.pop e (UF (.mid M) n K) st
def IC:Cfg->Bool
 |.ops _ (_::_) _ _=>true
 |_=>false
def opsS (st:St):Cfg->Cfg
 |.ops all rest K _=>.ops all rest K st
 |g=>g
def AU2:Cfg->Option St
 |.pop .ret [] st=>some st
 |.pop .normal [] st=>some st
 |_=>none
inductive Leaf where
 |eq (x y:PV)
 |fn (n m:Nat) (f g:Nat->List PV)
 |mp (x y:List (PV×PV))
 |yl (x y:List (List PV)) (b c:Bool)
 |nt (a b:Nat)
 |ob (n:Nat) (f g:Nat->Obj)
inductive LV where
 |eq (x:PV)
 |fn (n:Nat) (f:Nat->List PV)
 |mp (x:List (PV×PV))
 |yl (x:List (List PV)) (b:Bool)
 |nt (a:Nat)
 |ob (f:Nat->Obj)
def Leaf.src:Leaf->LV
 |.eq x _=>.eq x
 |.fn n _ f _=>.fn n f
 |.mp x _=>.mp x
 |.yl x _ b _=>.yl x b
 |.nt a _=>.nt a
 |.ob _ f _=>.ob f
def Leaf.tgt:Leaf->LV
 |.eq _ y=>.eq y
 |.fn _ m _ g=>.fn m g
 |.mp _ y=>.mp y
 |.yl _ y _ c=>.yl y c
 |.nt _ b=>.nt b
 |.ob _ _ g=>.ob g
def Leaf.ok:Leaf->Prop
 |.eq x y=>x=y
 |.fn n m f g=>n=m/\∀i,i<n->f i=g i
 |.mp x y=>x=y
 |.yl x y b c=>x=y/\b=c
 |.nt a b=>a=b
 |.ob n f g=>∀i,i<n->f i=g i
theorem Leaf.ok_of {l:Leaf}(h:l.src=l.tgt):l.ok:=by
 cases l with
 |eq x y=>simp only[Leaf.src,Leaf.tgt,LV.eq.injEq]at h;exact h
 |fn n m f g=>simp only[Leaf.src,Leaf.tgt,LV.fn.injEq]at h;obtain⟨rfl,rfl⟩:=h;exact⟨rfl,fun _ _=>rfl⟩
 |mp x y=>simp only[Leaf.src,Leaf.tgt,LV.mp.injEq]at h;exact h
 |yl x y b c=>simp only[Leaf.src,Leaf.tgt,LV.yl.injEq]at h;exact h
 |nt a b=>simp only[Leaf.src,Leaf.tgt,LV.nt.injEq]at h;exact h
 |ob n f g=>simp only[Leaf.src,Leaf.tgt,LV.ob.injEq]at h;subst h;exact fun _ _=>rfl
def AU3:PV->PV->Leaf
 |.v (.bool b),.bb c=>.eq (.bb b) (.bb c)
 |.v (.slice none 0 0),.sl false _ n f=>.fn 0 n f f
 |.sl nn k n f,.sl false l m g=>if k=l then .fn n m f g else .eq (.sl nn k n f) (.sl false l m g)
 |x,y=>.eq x y
mutual
def Jv (regs:D8)(ids:List (Nat×Nat))(a b:AV):Option (List Leaf):=
 match b with
 |.top=>some []
 |.p y=>match viewP regs a with
  |some x=>some [AU3 x y]
  |none=>none
 |.reg j off=>match a with | .reg i off'=>if lk ids j=some i/\off=off' then some []else none|_=>none
 |.vec j=>match a with
  |.vec i=>if lk ids j=some i then some []else none
  |.p (.v (.slice none 0 0))=>if lk ids j=none then some []else none
  |_=>none
 |.vecp j n=>match a with | .vecp i m=>if lk ids j=some i/\n=m then some []else none|_=>none
 |.elt j k n off=>match a with | .elt i k' n' off'=>if lk ids j=some i/\k=k' /\ n=n' /\ off=off' then some []else none|_=>none
 |.mref j=>match a with | .mref i=>if lk ids j=some i then some []else none|_=>none
 |.yf j=>match a with | .yf i=>if lk ids j=some i then some []else none|_=>none
 |.clo f x y=>match a with
  |.clo f' x' y'=>match Pa regs ids x' x,Pa regs ids y' y with|some l,some m=>some (.nt f' f::l++m)|_,_=>none
  |_=>none
 |.tup l=>match a with | .tup l'=>Pa regs ids l' l|_=>none
 |.agr l=>match a with | .agr l'=>Pa regs ids l' l|_=>none
def Pa (regs:D8)(ids:List (Nat×Nat))(a b:List AV):Option (List Leaf):=
 match b with
 |[]=>match a with | []=>some [] | _=>none
 |y::s=>match a with
  |x::r=>match Jv regs ids x y,Pa regs ids r s with|some l,some m=>some (l++m)|_,_=>none
  |[]=>none
end
def AF8 (regs:D8)(ids:List (Nat×Nat))(env:Env):Env->Option (List Leaf)
 |[]=>some []
 |(t,b)::r=>match Jv regs ids (get env t) b,AF8 regs ids env r with|some l,some m=>some (l++m)|_,_=>none
def Pb (regs:D8)(ids:List (Nat×Nat))(o p:Obj):Option (List Leaf):=
 match p with
 |.cells cs=>match o with | .cells cs'=>Pa regs ids cs' cs|_=>none
 |.vec e k n f vw=>match o with
  |.vec e' k' m g vw'=>if e=e' /\ k=k' /\ (vw' = true->vw=true)then some [.fn m n g f]else none
  |_=>none
 |.map es=>match o with | .map es'=>some [.mp es' es] | _=>none
 |.arr n f=>match o with | .arr m g=>some [.fn m n (fun i=>[g i]) (fun i=>[f i])] | _=>none
 |.ghost cs=>match o with | .ghost cs'=>Pa regs ids cs' cs|_=>none
 |.yld r b=>match o with | .yld r' b'=>some [.yl r' r b' b] | _=>none
 |.fam e n jr x=>match o with
  |.fam e' m jr' x'=>if e=e' /\ lk ids jr=some jr' then (match x,x' with
   |none,none=>some [.nt m n]
   |some (i,a),some (i',a')=>match nov a' a,Jv regs ids a' a with
    |true,some l=>some (.nt m n :: .nt i' i::l)
    |_,_=>none
   |_,_=>none)else none
  |_=>none
 |.rows n g=>match o with | .rows m g'=>some [.nt m n,.ob n g' g] | _=>none
 |.dead=>some []
def AF9 (regs:D8)(ids:List (Nat×Nat)):D8->Option (List Leaf)
 |[]=>some []
 |(j,p)::r=>match (match lk ids j with
  |some i=>match A2 regs i with
   |some o=>Pb regs ids o p
   |none=>none
  |none=>match p with
   |.vec _ _ n f _=>some [.fn 0 n f f]
   |_=>none:Option (List Leaf)),AF9 regs ids r with
  |some l,some m=>some (l++m)
  |_,_=>none
def leK (ids:List (Nat×Nat))(s t:St):Option (List Leaf):=
 if (wf t&&H5 (ids.map (·.2))&&Ae5 ids&&Qe ids t.regs&&Ll ids (AB3 s.env t.env++Jk ids s.regs t.regs) t.regs) then
  match AF8 s.regs ids s.env t.env,AF9 s.regs ids t.regs with
  |some l,some m=>some (l++m)
  |_,_=>none
 else none
theorem AG0 {x y:PV}(h:(AU3 x y).ok):leP x y:=by
 unfold AU3 at h;split at h
 .simp only[Leaf.ok,PV.bb.injEq]at h;subst h;exact .inr (.inr (.inr (.inl ⟨_,rfl,rfl⟩)))
 .obtain⟨rfl,_⟩:=h;exact .inr (.inr (.inl ⟨_,_,rfl,rfl⟩))
 .split at h
  .rename_i hk;subst hk;obtain⟨rfl,h⟩:=h;exact .inr (.inl ⟨_,_,_,_,_,rfl,rfl,h⟩)
  exact .inl h
 exact .inl h
theorem NH {l m:List Leaf}(h:∀x∈l++m,x.ok):(∀x∈l,x.ok)/\∀x∈m,x.ok:=
 ⟨fun x hx=>h x (Bp5 _ hx),fun x hx=>h x (Bn9 _ hx)⟩
mutual
theorem Sa {regs:D8}{ids:List (Nat×Nat)}{a:AV}(b:AV){L:List Leaf}(h:Jv regs ids a b=some L)(hL:∀x∈L,x.ok):leA regs ids a b:=by
 cases b with
 |top=>unfold leA;trivial
 |p y=>
  unfold Jv at h;split at h
  .rename_i x hx;cases h;unfold leA;exact⟨x,hx,AG0 (hL _ (by simp))⟩
  cases h
 |reg j off=>
  unfold Jv at h;split at h
  .split at h
   .rename_i c;obtain⟨h1,rfl⟩:=c;exact Bd7 h1
   cases h
  cases h
 |vec j=>
  unfold Jv at h;split at h
  .split at h
   .rename_i h1;exact Bd6 h1
   cases h
  .split at h
   .rename_i h1;exact AR5 h1
   cases h
  cases h
 |vecp j n=>
  unfold Jv at h;split at h
  .split at h
   .rename_i c;obtain⟨h1,rfl⟩:=c;unfold leA;exact⟨_,h1,rfl⟩
   cases h
  cases h
 |elt j k n off=>
  unfold Jv at h;split at h
  .split at h
   .rename_i c;obtain⟨h1,rfl,rfl,rfl⟩:=c;unfold leA;exact⟨_,h1,rfl⟩
   cases h
  cases h
 |mref j=>
  unfold Jv at h;split at h
  .split at h
   .rename_i h1;exact Ao5 h1
   cases h
  cases h
 |yf j=>
  unfold Jv at h;split at h
  .split at h
   .rename_i h1;exact le_yf h1
   cases h
  cases h
 |clo f x y=>
  unfold Jv at h;split at h
  .split at h
   .rename_i l m h1 g;cases h;have d:=hL _ (Bu5 ..);simp only[Leaf.ok]at d;subst d;obtain⟨i,o⟩:=NH fun x hx=>hL x (Bo0 _ hx);exact Bd8 (Fv x h1 i) (Fv y g o)
   cases h
  cases h
 |tup l=>
  unfold Jv at h;split at h
  .exact Bf4 (Fv l h hL)
  cases h
 |agr l=>
  unfold Jv at h;split at h
  .exact Bf5 (Fv l h hL)
  cases h
theorem Fv {regs:D8}{ids:List (Nat×Nat)}{a:List AV}(b:List AV){L:List Leaf}(h:Pa regs ids a b=some L)(hL:∀x∈L,x.ok):leL regs ids a b:=by
 cases b with
 |nil=>
  unfold Pa at h;split at h
  .exact AR6
  cases h
 |cons y s=>
  unfold Pa at h;split at h
  .split at h
   .rename_i l m h1 c;cases h;obtain⟨d,f⟩:=NH hL;exact AB8 (Sa y h1 d) (Fv s c f)
   cases h
  cases h
end
theorem Zn {regs:D8}{ids:List (Nat×Nat)}{env:Env}:∀(t:Env) {L:List Leaf},AF8 regs ids env t=some L->(∀x∈L,x.ok)->Nh regs ids env t
 |[],_,_,_=>trivial
 |(t,b)::r,L,h,hL=>by
  simp only[AF8]at h;split at h
  .rename_i l m h1 a;cases h;obtain⟨c,d⟩:=NH hL;exact⟨Sa b h1 c,Zn r a d⟩
  cases h
theorem AG1 {regs:D8}{ids:List (Nat×Nat)}{o p:Obj}{L:List Leaf}(h:Pb regs ids o p=some L)(hL:∀x∈L,x.ok):leO regs ids o p:=by
 cases p with
 |cells cs=>
  simp only[Pb]at h;split at h
  .exact AB9 (Fv cs h hL)
  cases h
 |vec e k n f vw=>
  simp only[Pb]at h;split at h
  .split at h
   .rename_i d;obtain⟨rfl,rfl,j⟩:=d;cases h;obtain⟨rfl,h1⟩:=hL _ (Bu6.2 rfl);exact⟨_,_,rfl,h1,j⟩
   cases h
  cases h
 |map es=>
  simp only[Pb]at h;split at h
  .cases h
   have:=hL _ (Bu6.2 rfl)
   simp only[Leaf.ok]at this;subst this;rfl
  cases h
 |arr n f=>
  simp only[Pb]at h;split at h
  .cases h;obtain⟨rfl,h1⟩:=hL _ (Bu6.2 rfl);exact⟨_,rfl,fun i l=>by simpa using h1 i l⟩
  cases h
 |ghost cs=>
  simp only[Pb]at h;split at h
  .exact⟨_,rfl,Fv cs h hL⟩
  cases h
 |yld r b=>
  simp only[Pb]at h;split at h
  .cases h;obtain⟨rfl,rfl⟩:=hL _ (Bu6.2 rfl);rfl
  cases h
 |fam e n jr x=>
  simp only[Pb]at h;split at h
  .split at h
   .rename_i m;obtain⟨rfl,c⟩:=m;split at h
    .cases h;have a:=hL _ (Bu5 ..);simp only[Leaf.ok]at a;subst a;exact⟨_,_,rfl,c,rfl⟩
    .split at h
     .rename_i hn hl;cases h;have a:=hL _ (Bu5 ..);have h1:=hL _ (Bo0 _ (Bu5 ..));simp only[Leaf.ok]at a h1;subst a h1;exact⟨_,_,rfl,c,_,rfl,hn,Sa _ hl fun x hx=>hL x (by simp[hx])⟩
     cases h
    cases h
   cases h
  cases h
 |rows n g=>
  simp only[Pb]at h;split at h
  .cases h;have a:=hL _ (Bu5 ..);simp only[Leaf.ok]at a;subst a;exact⟨_,rfl,hL (.ob _ _ _) (by simp)⟩
  cases h
 |dead=>trivial
theorem Zo {regs:D8}{ids:List (Nat×Nat)}:∀(t:D8) {L:List Leaf},AF9 regs ids t=some L->(∀x∈L,x.ok)->TX regs ids t
 |[],_,_,_=>trivial
 |(j,p)::r,L,h,hL=>by
  simp only[AF9]at h;split at h
  .rename_i l m h1 c;cases h;obtain⟨b,d⟩:=NH hL;refine⟨?_,Zo r c d⟩;split at h1
   .rename_i i a;split at h1
    .rename_i o f;exact .inl ⟨i,o,a,f,AG1 h1 b⟩
    cases h1
   rename_i a;split at h1
   .cases h1;obtain⟨rfl,_⟩:=b _ (Bu6.2 rfl);exact .inr ⟨a,_,_,_,_,rfl⟩
   cases h1
  cases h
theorem AN4 {ids:List (Nat×Nat)}{s t:St}{L:List Leaf}(h:leK ids s t=some L)(hL:∀x∈L,x.ok):Le ids s t:=by
 unfold leK at h;split at h
 .rename_i hw;split at h
  .rename_i l m h1 a;cases h;obtain⟨b,c⟩:=NH hL;exact le_mk hw (Zn _ h1 b) (Zo _ a c)
  cases h
 cases h
theorem kle {ids:List (Nat×Nat)}{s t:St}(h:(leK ids s t).map (·.map Leaf.src)=(leK ids s t).map (·.map Leaf.tgt):=by kernel_rfl)(h1:(leK ids s t).isSome=true:=by kernel_rfl):Le ids s t:=by
 obtain⟨L,hL⟩:=Bo5.1 h1;rw[hL]at h;simp only[Bn5,Bm4]at h;refine AN4 hL fun x hx=>?_;obtain⟨i,a,rfl⟩:=Bv9.1 hx
 have:=congrArg (·[i]?) h
 simp only[Bn0,Bm7 a,Bn5,Bm4]at this;exact Leaf.ok_of this
def Bf8 (is:List Nat)(f:Leaf->LV)(L:List Leaf):List (Option LV):=L.zipIdx.map fun q=>if is.contains q.2 then none else some (f q.1)
theorem kleR {ids:List (Nat×Nat)}{s t:St}(rs:List (Nat×Leaf))(d:∀q∈rs,q.2.ok)(h:(leK ids s t).map (Bf8 (rs.map (·.1)) Leaf.src)=(leK ids s t).map (Bf8 (rs.map (·.1)) Leaf.tgt):=by kernel_rfl)
 (a:(leK ids s t).map (fun L=>rs.map fun q=>L[q.1]?)=some (rs.map fun q=>some q.2):=by kernel_rfl):Le ids s t:=by
 cases hL:leK ids s t with
 |none=>rw[hL]at a;cases a
 |some L=>
  rw[hL]at h a;simp only[Bn5,Bm4]at h a;refine AN4 hL fun x hx=>?_;obtain⟨i,b,rfl⟩:=Bv9.1 hx;by_cases hm:(rs.map (·.1)).contains i=true
  .simp only[Br3,decide_eq_true_eq,Bp0]at hm;obtain⟨q,c,rfl⟩:=hm;obtain⟨k,hk,rfl⟩:=Bv9.1 c
   have:=congrArg (·[k]?) a
   simp only[Bn0,Bm7 hk,Bn5,Bm4,Bm7 b]at this;rw[this];exact d _ c
  have:=congrArg (·[i]?) h
  simp only[Bf8,Bn0,List.getElem?_zipIdx,Bm7 b,Bn5,Br1,hm,Bm4]at this;exact Leaf.ok_of (by simpa using this)
end
section
variable {P:Program}
variable {S:U3}{F:K6}{g:Cfg}{pr:Prop}
theorem EY (hS:H2 S P)(hc:pr)(h:G S P F (stp P g))(hp:pr=E5 (cnd P g):=by kernel_rfl):G S P F g:=
 (Ir (F:=F) hS 400 [] g (by subst hp;exact hc)).2 h
theorem Bf9 (hS:H2 S P)(hc:pr){b:Bool}(ht:b=true->G S P F (AT8 (stp P g)))(a:b=false->G S P F (AT9 (stp P g)))(hp:pr=E5 (cnd P g):=by kernel_rfl)(hb:AF5 (stp P g)=some b:=by kernel_rfl):G S P F g:=by
 refine EY hS hc ?_ hp;generalize stp P g=g' at hb ht a;unfold AF5 at hb;split at hb
 .split at hb
  .rename_i hc;cases hb;exact Bd4 hc ht a
  cases hb
 cases hb
theorem AU4 (hS:H2 S P)(hc:pr){b:Bool}(ht:b=true->G S P F (NG true (stp P g)))(a:b=false->G S P F (NG false (stp P g)))(hp:pr=E5 (cnd P g):=by kernel_rfl)(hb:Zm (stp P g)=some b:=by kernel_rfl):G S P F g:=by
 refine EY hS hc ?_ hp;generalize stp P g=g' at hb ht a;unfold Zm at hb;split at hb
 .split at hb
  .rename_i d;split at hb
   .rename_i f;split at hb
    .rename_i c;cases hb;simp only[NG,d,f,IB,put]at ht a;exact AR2 hS d f c ht a
    cases hb
   cases hb
  cases hb
 cases hb
theorem Bg0 (hS:H2 S P)(ids:List Nat)(hc:pr){fn:FuncId}{args:List AV}{objs objs' : List Obj}{r:AV}{ks:List Bool}(i:FunO S fn args objs r objs' ks)
 (hk:G S P F (AF6 ids ks r objs' (stp P g))) (hp:pr=E5 (cnd P g):=by kernel_rfl) (a:Ah4 ids (stp P g)=some (fn,args,objs):=by kernel_rfl) (hn:Ah5 ids ks objs'.length (stp P g)=true:=by kernel_rfl):G S P F g:=by
 refine EY hS hc ?_ hp;generalize stp P g=g' at a hn hk;unfold Ah4 at a;split at a
 .split at a
  .rename_i j f;split at a
   .rename_i c;split at a
    .rename_i ha;split at a
     .rename_i hw;split at a
      .rename_i l d;split at a
       .rename_i b;cases a;simp only[Bm8]at b;simp only[AF6,Ah5,f,ha,IB]at hk hn;exact AR3 hS ids j f c ha hw l d i b.1 b.2 hn hk
       cases a
      cases a
     cases a
    cases a
   cases a
  cases a
 cases a
theorem AG2 (hS:H2 S P)(hc:pr){kt e:TypeId}{key:PV}{es:List (PV×PV)}{x:PV}{b:Bool}{fd:Option PV}
 (j:find (Ku P kt) key es=some fd) (c:E5 (Kv P kt))
 (hk:G S P F (AU1 x b (stp P g))) (hp:pr=E5 (cnd P g):=by kernel_rfl) (a:AU0 P (stp P g)=some ⟨kt,e,key,es⟩:=by kernel_rfl) (hx:AF7 P e fd=some (x,b):=by kernel_rfl):G S P F g:=by
 refine EY hS hc ?_ hp;generalize stp P g=g' at a hk;unfold AU0 at a;split at a
 .split at a
  .rename_i l f;split at a
   .rename_i i hm;split at a
    .rename_i m ht;split at a
     .rename_i d;simp only[Bm4,LookI.mk.injEq]at a;obtain⟨rfl,rfl,rfl,rfl⟩:=a;simp only[AU1,f,i,IB]at hk;cases fd with
      |some y=>exact Zk (fd:=some y) hS l f i hm m ht d j hx c hk
      |none=>exact Zk (fd:=none) hS l f i hm m ht d j hx c hk
     cases a
    cases a
   cases a
  cases a
 cases a
theorem AG3 (hS:H2 S P)(hc:pr){kt:TypeId}{key y:PV}{es es' : List (PV×PV)}
 (j:upd (Ku P kt) key y es=some es') (b:E5 (Kv P kt)) (hk:G S P F (updK es' (stp P g))) (hp:pr=E5 (cnd P g):=by kernel_rfl) (a:updE P (stp P g)=some (kt,key,y,es):=by kernel_rfl):G S P F g:=by
 refine EY hS hc ?_ hp;generalize stp P g=g' at a hk;unfold updE at a;split at a
 .split at a
  .rename_i l d;split at a
   .rename_i h1 f i;split at a
    .rename_i m ht;split at a
     .rename_i c;simp only[Bm4,Bn4]at a;obtain⟨rfl,rfl,rfl,rfl⟩:=a;simp only[updK,d,f,i,IB]at hk;exact Xk hS l d h1 i f m ht c j b hk
     cases a
    cases a
   cases a
  cases a
 cases a
theorem Bg1 (hS:H2 S P)(hc:pr)(st:St){ids:List (Nat×Nat)}(hk:G S P F (opsS st (stp P g)))(hp:pr=E5 (cnd P g):=by kernel_rfl)(a:IC (stp P g)=true:=by kernel_rfl)(hle:Le ids (stp P g).st st:=by exact kle):G S P F g:=by
 refine EY hS hc ?_ hp;generalize stp P g=g' at a hle hk;unfold IC at a;split at a
 .exact Ar9 hS st ids hle hk
 cases a
end
section
variable {S:U3}{P:Program}{F:K6}{g:Cfg}{pr:Prop}
theorem Jw (hS:H2 S P){K1 K2:List It}(h:∀e s,kp S P K1 F e s->kp S P K2 F e s):∀(K:List It) (e:Nc) (s:St),kp S P (K++K1) F e s->kp S P (K++K2) F e s
 |[],e,s,hk=>h e s hk
 |.code c::K,e,s,hk=>by simp only[Bq9,kp]at hk⊢;exact RY hS (fun t=>BH hS c (Jw hS h K)) (Jw hS h K) e s hk
 |.blk id::K,e,s,hk=>by
  simp only[Bq9,kp]at hk⊢;cases e with
  |exit i=>
   simp only[blk]at hk⊢;split at hk
   .rename_i a;rw[Pk a];exact Jw hS h K _ _ hk
   rename_i a;rw[Pl a];exact Jw hS h K _ _ hk
  |_=>exact Jw hS h K _ _ hk
 |.lp X s' J m n::K,e,s,hk=>by
  simp only[Bq9,kp]at hk⊢;cases e with
  |normal=>exact hk
  |_=>exact Jw hS h K _ _ hk
 |.mid M::K,e,s,hk=>by simp only[Bq9,kp]at hk⊢;exact RY hS (fun t h=>h) (Jw hS h K) e s hk
 |.scp::K,e,s,hk=>by
  simp only[Bq9,kp]at hk⊢;cases e with
  |goto l=>exact hk
  |_=>exact Jw hS h K _ _ hk
theorem Zp (M:It):∀(n:Nat) (K:List It),n<=K.length->UF M n K=K.take n++M::K.drop n
 |0,K,_=>by simp[UF]
 |n+1,i::K,h=>by simp only[UF,Bw6,List.drop_succ_cons,Bq9,Zp M n K (by simpa using h)]
 |n+1,[],h=>by simp at h
theorem AN5 (hS:H2 S P)(a:∀s,S.up s (F .normal)->F .normal s)(n:Nat)(hn:n<=g.k.length){M:St->Prop}(b:∀t,M t->G S P F (.pop .normal (g.k.drop n) t))(h:G S P F (Bf7 n M g)):G S P F g:=by
 have hk:∀e s,kp S P (UF (.mid M) n g.k) F e s->kp S P g.k F e s:=by
  intro e s;rw[Zp _ _ _ hn]
  conv=>rhs;rw[<- Bx4 n g.k]
  exact Jw hS (Bf2 hS a b) _ e s
 cases g with
 |code c K st=>exact BH hS c hk h
 |ops all rest K st=>exact GB hS hk rest h
 |pop e K st=>exact hk e st h
theorem J_cut (hS:H2 S P)(hc:pr)(b:∀s,S.up s (F .normal)->F .normal s)(n:Nat)(s:St)
 (h1:∀(M:St->Prop),(∀(g' : Cfg) (ids:List (Nat×Nat)) (pr:Prop),pr->(hp:pr=E5 (cnd P g'):=by kernel_rfl)->(a:stp P g' = .pop .normal (.mid M::(stp P g).k.drop n) (stp P g').st:=by kernel_rfl)->(hle:Le ids (stp P g').st s:=by exact kle)->G S P F g')->G S P F (Bf7 n M (stp P g)))
 (c:G S P F (.pop .normal ((stp P g).k.drop n) s)) (hp:pr=E5 (cnd P g):=by kernel_rfl) (hn:Nat.ble n (stp P g).k.length=true:=by kernel_rfl):G S P F g:=by
 refine EY hS hc ?_ hp;refine AN5 hS b n (Bs7 hn) (M:=fun t=>t=s) (fun t ht=>by subst ht;exact c) (h1 _ fun g' ids pr hc hp a hle=>?_);refine EY hS hc ?_ hp;rw[a];exact hS.le ids _ _ _ hle rfl
theorem J_lt (hS:H2 S P)(hc:pr)(c:∀s,S.up s (F .normal)->F .normal s){R A:Type}{f:(A->Option R)->Option R}{k0:A->Option R}{r:R}(h:lt k0 f=some r)(n:Nat)(s:A->St)
 (h1:∀(M:St->Prop) (k:A->Option R),(∀(g' : Cfg) (ids:List (Nat×Nat)) (pr:Prop) (a:A),pr->k a=some r->(hp:pr=E5 (cnd P g'):=by kernel_rfl)->(b:stp P g' = .pop .normal (.mid M::(stp P g).k.drop n) (stp P g').st:=by kernel_rfl)->(hle:Le ids (stp P g').st (s a):=by exact kle)->G S P F g')->f k=some r->G S P F (Bf7 n M (stp P g)))
 (d:∀a,k0 a=some r->G S P F (.pop .normal ((stp P g).k.drop n) (s a))) (hp:pr=E5 (cnd P g):=by kernel_rfl) (hn:Nat.ble n (stp P g).k.length=true:=by kernel_rfl):G S P F g:=by
 refine EY hS hc ?_ hp;refine AN5 hS c n (Bs7 hn) (M:=fun t=>∃a,t=s a/\k0 a=some r) (fun t ⟨a,ht,hk⟩=>by subst ht;exact d a hk) (h1 _ k0 (fun g' ids pr a hc hk hp b hle=>?_) h);refine EY hS hc ?_ hp;rw[b];exact hS.le ids _ _ _ hle ⟨a,rfl,hk⟩
theorem Xo {g:Cfg}(h:HP g=true):g=.code (.loop (RZ g)) g.k g.st:=by
 unfold HP at h;split at h
 .rfl
 cases h
theorem Bg2 (hS:H2 S P)(hc:pr){R A:Type}{body:(A->Option R)->A->Option R}{N:Nat}{a0:A}{r:R}(h:Q7 N body a0=some r)(s:A->St){ids:List (Nat×Nat)}
 (i:∀(X:Type) (s' : X->St) (J:X->Prop) (m:X->Nat) (n:Nat) (b:A->Option R) (a:A),
  (∀(g' : Cfg) (ids:List (Nat×Nat)) (pr:Prop) (a:A),pr->b a=some r->(hp:pr=E5 (cnd P g'):=by kernel_rfl)->(f:stp P g' = .pop .normal (.lp X s' J m n::(stp P g).k) (stp P g').st:=by kernel_rfl)->(hle:Le ids (stp P g').st (s a):=by exact kle)->G S P F g') ->
  body b a=some r->G S P F (.code (RZ (stp P g)) (.lp X s' J m n::(stp P g).k) (s a))) (hp:pr=E5 (cnd P g):=by kernel_rfl) (hl:HP (stp P g)=true:=by kernel_rfl) (hle:Le ids (stp P g).st (s a0):=by exact kle):G S P F g:=by
 refine EY hS hc ?_ hp;rw[Xo hl];refine Bf3 hS h s ids hle fun X s' J m n b a hb c=>i X s' J m n b a (fun g' ids pr a hc d hp f hle=>?_) c;refine EY hS hc ?_ hp;rw[f];exact hb _ _ _ hle d
def Xp (P:Program)(st:St)(rs:List ResultVar)(outs:List Nat):Option (AV×List Obj):=match Gx P st rs with
 |some l=>match Tm outs (one l),L0 outs st.regs outs with
  |some a,some o=>if H5 outs then some (a,o)else none
  |_,_=>none
 |none=>none
theorem J_ret (hS:H2 S P)(hc:pr){n:Nat}{rs:List ResultVar}{Q:Nd->List Obj->List Bool->Prop}{a:AV}{objs:List Obj}(outs:List Nat)(c:Q (.ret a) objs (FU n outs))(hp:pr=E5 (cnd P g):=by kernel_rfl)(d:(AU2 (stp P g)).bind (fun st=>Xp P st rs outs)=some (a,objs):=by kernel_rfl) :G S P (Cw S P n rs Q) g:=by
 refine EY hS hc ?_ hp;generalize stp P g=g' at d;obtain⟨st,h1,b⟩:=Bw7.1 d;unfold Xp at b;split at b
 .rename_i l hl;split at b
  .rename_i f i;split at b
   .rename_i j;cases b;unfold AU2 at h1;split at h1
    .cases h1;exact hS.refl _ _ ⟨l,outs,a,objs,hl,j,f,i,c⟩
    .cases h1;exact hS.refl _ _ ⟨l,outs,a,objs,hl,j,f,i,c⟩
    cases h1
   cases b
  cases b
 cases b
theorem Bg3 (hS:H2 S P)(hc:pr){n:Nat}{rs:List ResultVar}{Q:Nd->List Obj->List Bool->Prop}{a:AV}{objs:List Obj}(st:St)(outs:List Nat){ids:List (Nat×Nat)}(f:Q (.ret a) objs (FU n outs))(hp:pr=E5 (cnd P g):=by kernel_rfl)(c:(AU2 (stp P g)).isSome=true:=by kernel_rfl)(hle:Le ids (stp P g).st st:=by exact kle)(d:Xp P st rs outs=some (a,objs):=by kernel_rfl) :G S P (Cw S P n rs Q) g:=by
 refine EY hS hc ?_ hp;generalize stp P g=g' at c hle;have b:=d;unfold Xp at b;split at b
 .rename_i l hl;split at b
  .rename_i d i;split at b
   .rename_i j;cases b;unfold AU2 at c;split at c
    .exact hS.le ids _ _ _ hle ⟨l,outs,a,objs,hl,j,d,i,f⟩
    .exact hS.le ids _ _ _ hle ⟨l,outs,a,objs,hl,j,d,i,f⟩
    cases c
   cases b
  cases b
 cases b
theorem AU5 (hS:H2 S P){f:FuncId}{fn:Func}{args:List AV}{objs objs' : List Obj}{ks:List Bool}{r:AV}(d:P.funcs[f]? = some fn)
 (h:G S P (Cw S P objs.length fn.results.toList fun res o k=>res=.ret r/\o=objs' /\ k=ks) (.code (fn.body.getD .skip) [] { env:=argEnv args,regs:=objRegs objs }))
 (hc:fn.body.isSome=true:=by kernel_rfl) (hn:Nat.ble args.length fn.ntmps=true:=by kernel_rfl) (g:Nat.blt objs.length 1000=true:=by kernel_rfl)
 (b:AO fn.ntmps (fn.body.getD .skip)=true:=by kernel_rfl) (c:(fn.name == "runtime.NumGoroutine")=false:=by kernel_rfl):FunO S f args objs r objs' ks:=by
 obtain⟨code,a⟩:=Bo5.1 hc;rw[a,Bn3]at b h;exact Ao6 hS d a (Bs7 hn) (by simpa[Bx7]using g) rfl b c h
theorem al0:∀q∈([]:List (Nat×Leaf)),q.2.ok:=fun _ h=>by cases h
theorem al1 {i:Nat}{l:Leaf}{rs:List (Nat×Leaf)}(h:l.ok)(t:∀q∈rs,q.2.ok):∀q∈(i,l)::rs,q.2.ok:=fun q a=>by
 rcases Bp9.1 a with rfl|a
 .exact h
 exact t q a
structure SC where
 all:List Oper
 cls:List Cls
 rest:List Oper
 env:Env
 regs:D8
 kn:List Nat
def SG (S:U3)(P:Program)(sc:SC)(k:Env->D8->Prop):Prop:=Kl S P sc.all sc.cls sc.rest sc.env sc.regs k
def Dh (P:Program)(sc:SC):SC:=match OO P sc.kn sc.all sc.cls sc.rest [] sc.env sc.regs with
 |⟨_,cls,rest,env,regs⟩=>⟨sc.all,cls,rest,env,regs,sc.kn⟩
def Wb (P:Program)(sc:SC):List Prop:=(OO P sc.kn sc.all sc.cls sc.rest [] sc.env sc.regs).conds
def DB:Cfg->Bool
 |.code (.region _ _ true) _ _=>true
 |_=>false
def GC:Cfg->SC
 |.code (.region _ ops true) _ st=>⟨ops.toList,ops.toList.map fun o=>Bl3 o.op,ops.toList,st.env,st.regs,[]⟩
 |_=>⟨[],[],[],[],[],[]⟩
theorem AU6 (hS:H2 S P)(hc:pr)
 (h:SG S P (GC (stp P g)) fun env regs=>G S P F (.pop .normal (stp P g).k ⟨env,regs⟩)) (hp:pr=E5 (cnd P g):=by kernel_rfl) (c:DB (stp P g)=true:=by kernel_rfl) (a:P.follows .mixedOrders=true:=by kernel_rfl) (b:NC (GC (stp P g)).all (GC (stp P g)).cls=true:=by kernel_rfl):G S P F g:=by
 refine EY hS hc ?_ hp;generalize stp P g=g' at c b h;unfold DB at c;split at c
 .exact AE8 hS a rfl b h
 cases c
section
variable {sc:SC}{k:Env->D8->Prop}
theorem AQ3 (hc:pr)(h:SG S P (Dh P sc) k)(hp:pr=E5 (Wb P sc):=by kernel_rfl):SG S P sc k:=by subst hp;unfold Dh at h;unfold Wb at hc;unfold SG at *;generalize a:OO P sc.kn sc.all sc.cls sc.rest [] sc.env sc.regs=r at h hc;obtain⟨c,cls,rest,env,regs⟩:=r;exact s_go a hc h
theorem C_end (hc:pr)(h:k (Dh P sc).env (Dh P sc).regs)(hp:pr=E5 (Wb P sc):=by kernel_rfl)(a:(Dh P sc).rest.isEmpty=true:=by kernel_rfl):SG S P sc k:=by
 refine AQ3 hc ?_ hp;generalize Dh P sc=s at a h;obtain⟨all,cls,rest,env,regs,kn⟩:=s;cases rest with
 |nil=>exact s_end h
 |cons=>simp at a
def AU7 {R:Type _}(d:Option Nat)(a:AV)(env:Env)(regs:D8)(κ : Env->D8->R):R:=match d with
 |some d=>mkO (ins d a env) regs κ
 |none=>mkO env regs κ
theorem KI {R:Type _}(d:Option Nat)(a:AV)(env:Env)(regs:D8)(κ : Env->D8->R):AU7 d a env regs κ = κ (ND d a env) regs:=by cases d<;>simp only[AU7,EB,ND]
def Rf (sc:SC):Option Bool:=match sc.rest with
 |o::_=>match o.guard with
  |some (j,_)=>match Bc5 sc.all j with
   |some d=>match get sc.env d with
    |.p (.bb b)=>if AA9 sc.env then some b else none
    |_=>none
   |none=>none
  |none=>none
 |[]=>none
def Zq (ids:List Nat)(sc:SC):Option (FuncId×List AV×List Obj):=match sc.rest with
 |o::_=>match BF sc.all sc.env o,o.op with
  |some true,.call c=>match c.callee with
   |.value f=>match ON sc.regs (c.args.toList.map (aev sc.env))with
    |some (as,regs)=>match TV sc.env f as with
     |some (fn,as')=>match CO ids as',L0 ids regs ids with
      |some a,some ob=>if H5 ids&&DP ob then some (fn,a,ob)else none
      |_,_=>none
     |none=>none
    |none=>none
   |_=>none
  |_,_=>none
 |[]=>none
def QD (ids:List Nat)(ks:List Bool)(n:Nat)(sc:SC):Bool:=match sc.cls,sc.rest with
 |.w::_,o::_=>match o.op with
  |.call c=>match ON sc.regs (c.args.toList.map (aev sc.env))with
   |some (_,regs)=>BA regs ids ks (o.dst.getD 0) n
   |none=>false
  |_=>false
 |.b js::_,o::_=>match o.op with
  |.call c=>((c.args.toList.map (aev sc.env)).all Ag9&&ids.isEmpty)&&(((J6 (o.dst.getD 0) ids ks n).all fun q=>js.contains q)&&BA sc.regs ids ks (o.dst.getD 0) n)
  |_=>false
 |_,_=>false
def Zr (ids:List Nat)(ks:List Bool)(r:AV)(objs' : List Obj)(sc:SC):SC:=match sc.rest with
 |o::rest=>match o.op with
  |.call c=>match ON sc.regs (c.args.toList.map (aev sc.env))with
   |some (_,regs)=>AU7 o.dst (unA (J6 (o.dst.getD 0) ids ks objs'.length) r) sc.env
    (TU (J6 (o.dst.getD 0) ids ks objs'.length) (J6 (o.dst.getD 0) ids ks objs'.length) objs' (N8 ids ks regs)) fun env regs=>⟨sc.all,sc.cls.tail,rest,env,regs,sc.kn⟩
   |none=>sc
  |_=>sc
 |[]=>sc
theorem Bg4 (ids:List Nat)(hc:pr){fn:FuncId}{args:List AV}{objs objs' : List Obj}{r:AV}{ks:List Bool}(u:FunO S fn args objs r objs' ks)
 (hk:SG S P (Zr ids ks r objs' (Dh P sc)) k) (hp:pr=E5 (Wb P sc):=by kernel_rfl) (a:Zq ids (Dh P sc)=some (fn,args,objs):=by kernel_rfl) (hn:QD ids ks objs'.length (Dh P sc)=true:=by kernel_rfl):SG S P sc k:=by
 refine AQ3 hc ?_ hp;generalize Dh P sc=s at a hn hk;obtain⟨all,cls,rest,env,regs,kn⟩:=s;cases rest with
 |nil=>simp[Zq]at a
 |cons o rest=>
  simp only[Zq]at a;split at a
  .rename_i c v g;split at a
   .rename_i i;split at a
    .rename_i ha;split at a
     .rename_i hw;split at a
      .rename_i x j;split at a
       .rename_i d;cases a;simp only[Bm8]at d;cases cls with
        |nil=>simp[QD]at hn
        |cons cl cls=>
         cases cl with
         |w=>simp only[QD,g,ha]at hn;simp only[Zr,g,ha,KI,By1]at hk;exact Ar4 ids (.inl rfl) v g i ha hw x j u d.1 d.2 hn hk
         |b js=>simp only[QD,g,Bm8,List.isEmpty_iff]at hn;obtain⟨⟨l,m⟩,n,t⟩:=hn;subst m;have f:=ha;rw[KF l]at f;simp only[Bm4,Bn4]at f;obtain⟨rfl,rfl⟩:=f;simp only[Zr,g,ha,KI,By1]at hk;refine Ar4 [] (.inr ⟨js,rfl,fun q y=>?_⟩) v g i ha hw x j u d.1 d.2 t hk;rw[Zg (fun h=>y (by simpa using Bo3.1 n q h))];rfl
         |_=>simp[QD]at hn
       cases a
      cases a
     cases a
    cases a
   cases a
  cases a
def Zs (sc:SC):Bool:=match sc.cls,sc.rest with
 |_::_,o::_=>match o.op with
  |.call c=>(c.args.toList.map (aev sc.env)).all Ag9
  |_=>false
 |_,_=>false
def Zt (sc:SC):Option (FuncId×List AV):=match sc.rest with
 |o::_=>match BF sc.all sc.env o,o.op with
  |some true,.call c=>match c.callee with
   |.value f=>match TV sc.env f (c.args.toList.map (aev sc.env))with
    |some (fn,as')=>match CO [] as' with
     |some a=>some (fn,a)
     |none=>none
    |none=>none
   |_=>none
  |_,_=>none
 |[]=>none
def As1 (r:AV)(sc:SC):SC:=match sc.rest with
 |o::rest=>AU7 o.dst (unA [] r) sc.env sc.regs fun env regs=>⟨sc.all,sc.cls.tail,rest,env,regs,sc.kn⟩
 |[]=>sc
theorem Bg5 (hc:pr){fn:FuncId}{args:List AV}{r:AV}(f:FunO S fn args [] r [] [])
 (hk:SG S P (As1 r (Dh P sc)) k) (hp:pr=E5 (Wb P sc):=by kernel_rfl) (a:Zt (Dh P sc)=some (fn,args):=by kernel_rfl) (hn:Zs (Dh P sc)=true:=by kernel_rfl):SG S P sc k:=by
 refine AQ3 hc ?_ hp;generalize Dh P sc=s at a hn hk;obtain⟨all,cls,rest,env,regs,kn⟩:=s;cases rest with
 |nil=>simp[Zt]at a
 |cons o rest=>
  cases cls with
  |nil=>simp[Zs]at hn
  |cons cl cls=>
   simp only[Zt]at a;split at a
   .rename_i c g d;split at a
    .rename_i b;split at a
     .rename_i hw;split at a
      .rename_i i;cases a;simp only[Zs,d]at hn;simp only[As1,KI,By1]at hk;exact Be9 g d b hn hw i f hk
      cases a
     cases a
    cases a
   cases a
def Fw (P:Program)(sc:SC):Option (List Prop×PV):=match sc.cls,sc.rest with
 |_::_,o::_=>match BF sc.all sc.env o with
  |some true=>TT P sc.env o.op
  |_=>none
 |_,_=>none
def Xq (x:PV)(sc:SC):SC:=match sc.rest with
 |o::rest=>AU7 o.dst (.p x) sc.env sc.regs fun env regs=>⟨sc.all,sc.cls.tail,rest,env,regs,sc.kn⟩
 |[]=>sc
theorem AU8 (hc:pr){x:PV}(hk:SG S P (Xq x (Dh P sc)) k)(hp:pr=E5 (Wb P sc):=by kernel_rfl)(a:(Fw P (Dh P sc)).map (·.2)=some x:=by kernel_rfl)(b:((Fw P (Dh P sc)).map fun q=>E5 q.1)=some (true=true):=by kernel_rfl):SG S P sc k:=by
 refine AQ3 hc ?_ hp;generalize Dh P sc=s at a b hk;obtain⟨all,cls,rest,env,regs,kn⟩:=s;cases rest with
 |nil=>cases cls<;>simp[Fw]at a
 |cons o rest=>
  cases cls with
  |nil=>simp[Fw]at a
  |cons cl cls=>
   cases d:BF all env o with
   |none=>simp[Fw,d]at a
   |some bb=>
    cases bb with
    |false=>simp[Fw,d]at a
    |true=>
     simp only[Fw,d]at a b;cases ha:TT P env o.op with
     |none=>rw[ha]at a;cases a
     |some q=>obtain⟨c,y⟩:=q;rw[ha]at a b;simp only[Bn5,Bm4]at a b;subst a;simp only[Xq,KI,By1]at hk;exact AE7 d ha (by rw[b];trivial) hk
def UG (P:Program)(sc:SC):Option LookI:=match sc.cls,sc.rest with
 |cl::_,o::_=>match BF sc.all sc.env o,o.op with
  |some true,.lookup t m q _=>match Em sc.regs (aev sc.env q),aev sc.env m with
   |some (key,regs),.mref j=>match A2 regs j,tk P t with
    |some (.map es),some (.map kt e)=>if (Gw P kt key&&Ah1 cl sc.env (o.dst.getD 0) o.op) then some ⟨kt,e,key,es⟩else none
    |_,_=>none
   |_,_=>none
  |_,_=>none
 |_,_=>none
def As2 (x:PV)(b:Bool)(sc:SC):SC:=match sc.rest with
 |o::rest=>match o.op with
  |.lookup _ _ q ok=>match Em sc.regs (aev sc.env q)with
   |some (_,regs)=>AU7 o.dst (if ok then .tup [.p x,.bool b]else .p x) sc.env regs fun env regs=>⟨sc.all,sc.cls.tail,rest,env,regs,sc.kn⟩
   |none=>sc
  |_=>sc
 |[]=>sc
theorem AG4 (hc:pr){kt e:TypeId}{key:PV}{es:List (PV×PV)}{x:PV}{b:Bool}{fd:Option PV}
 (j:find (Ku P kt) key es=some fd) (g:E5 (Kv P kt)) (hk:SG S P (As2 x b (Dh P sc)) k) (hp:pr=E5 (Wb P sc):=by kernel_rfl) (a:UG P (Dh P sc)=some ⟨kt,e,key,es⟩:=by kernel_rfl) (hx:AF7 P e fd=some (x,b):=by kernel_rfl):SG S P sc k:=by
 refine AQ3 hc ?_ hp;generalize Dh P sc=s at a hk;obtain⟨all,cls,rest,env,regs,kn⟩:=s;cases rest with
 |nil=>cases cls<;>simp[UG]at a
 |cons o rest=>
  cases cls with
  |nil=>simp[UG]at a
  |cons cl cls=>
   simp only[UG]at a;split at a
   .rename_i l f;split at a
    .rename_i i hm;split at a
     .rename_i m ht;split at a
      .rename_i c;simp only[Bm4,LookI.mk.injEq]at a;obtain⟨rfl,rfl,rfl,rfl⟩:=a;simp only[Bm8]at c;simp only[As2,f,i,KI,By1]at hk;have d:=c.2;simp only[f]at d;cases fd with
       |some y=>exact Zl (fd:=some y) l f i hm m ht c.1 j hx g (by rw[f];exact d) hk
       |none=>exact Zl (fd:=none) l f i hm m ht c.1 j hx g (by rw[f];exact d) hk
      cases a
     cases a
    cases a
   cases a
def Xr (P:Program)(sc:SC):Option (TypeId×PV×PV×List (PV×PV)):=match sc.cls,sc.rest with
 |.w::_,o::_=>match BF sc.all sc.env o,o.op with
  |some true,.mapUpdate t m q x=>match aev sc.env q,aev sc.env m,Em sc.regs (aev sc.env x)with
   |.p key,.mref j,some (y,regs)=>match A2 regs j,tk P t with
    |some (.map es),some (.map kt _)=>if Gw P kt (nP key) then some (kt,nP key,y,es)else none
    |_,_=>none
   |_,_,_=>none
  |_,_=>none
 |_,_=>none
def AU9 (es' : List (PV×PV))(sc:SC):SC:=match sc.rest with
 |o::rest=>match o.op with
  |.mapUpdate _ m _ x=>match aev sc.env m,Em sc.regs (aev sc.env x)with
   |.mref j,some (_,regs)=>AU7 o.dst Rt sc.env (ins j (.map es') regs) fun env regs=>⟨sc.all,sc.cls.tail,rest,env,regs,sc.kn⟩
   |_,_=>sc
  |_=>sc
 |[]=>sc
theorem AG5 (hc:pr){kt:TypeId}{key y:PV}{es es' : List (PV×PV)}
 (i:upd (Ku P kt) key y es=some es') (b:E5 (Kv P kt)) (hk:SG S P (AU9 es' (Dh P sc)) k) (hp:pr=E5 (Wb P sc):=by kernel_rfl) (a:Xr P (Dh P sc)=some (kt,key,y,es):=by kernel_rfl):SG S P sc k:=by
 refine AQ3 hc ?_ hp;generalize Dh P sc=s at a hk;obtain⟨all,cls,rest,env,regs,kn⟩:=s;cases rest with
 |nil=>cases cls with
  |nil=>simp[Xr]at a
  |cons cl cls=>cases cl<;>simp[Xr]at a
 |cons o rest=>
  cases cls with
  |nil=>simp[Xr]at a
  |cons cl cls=>
   cases cl with
   |w=>
    simp only[Xr]at a;split at a
    .rename_i j d;split at a
     .rename_i h1 f g;split at a
      .rename_i l ht;split at a
       .rename_i c;simp only[Bm4,Bn4]at a;obtain⟨rfl,rfl,rfl,rfl⟩:=a;simp only[AU9,d,f,g,KI,By1]at hk;exact Xn j d h1 g f l ht c i b hk
       cases a
      cases a
     cases a
    cases a
   |_=>simp[Xr]at a
end
end
structure KG (S:U3) (P:Program) (F:K6) (g:Cfg):Prop where
 out:G S P F g
structure DG (S:U3) (P:Program) (sc:SC) (k:Env->D8->Prop):Prop where
 out:SG S P sc k
structure KLe (ids:List (Nat×Nat)) (s t:St):Prop where
 out:Le ids s t
section
variable {S:U3}{P:Program}{F:K6}{g:Cfg}{pr:Prop}
theorem kl {ids:List (Nat×Nat)}{s t:St}(h:(leK ids s t).map (·.map Leaf.src)=(leK ids s t).map (·.map Leaf.tgt):=by kernel_rfl)(h1:(leK ids s t).isSome=true:=by kernel_rfl):KLe ids s t:=⟨kle h h1⟩
theorem klR {ids:List (Nat×Nat)}{s t:St}(rs:List (Nat×Leaf))(a:∀q∈rs,q.2.ok)(h:(leK ids s t).map (Bf8 (rs.map (·.1)) Leaf.src)=(leK ids s t).map (Bf8 (rs.map (·.1)) Leaf.tgt):=by kernel_rfl)
 (b:(leK ids s t).map (fun L=>rs.map fun q=>L[q.1]?)=some (rs.map fun q=>some q.2):=by kernel_rfl):KLe ids s t:=⟨kleR rs a h b⟩
theorem D4 (hS:H2 S P)(hc:pr){b:Bool}(ht:b=true->KG S P F (AT8 (stp P g)))(a:b=false->KG S P F (AT9 (stp P g)))(hp:pr=E5 (cnd P g):=by kernel_rfl)(hb:AF5 (stp P g)=some b:=by kernel_rfl):KG S P F g:=
 ⟨Bf9 hS hc (fun h=>(ht h).out) (fun h=>(a h).out) hp hb⟩
theorem Ek (hS:H2 S P)(hc:pr){b:Bool}(ht:b=true->KG S P F (NG true (stp P g)))(a:b=false->KG S P F (NG false (stp P g)))(hp:pr=E5 (cnd P g):=by kernel_rfl)(hb:Zm (stp P g)=some b:=by kernel_rfl):KG S P F g:=
 ⟨AU4 hS hc (fun h=>(ht h).out) (fun h=>(a h).out) hp hb⟩
theorem C6 (hS:H2 S P)(ids:List Nat)(hc:pr){fn:FuncId}{args:List AV}{objs objs' : List Obj}{r:AV}{ks:List Bool}(a:FunO S fn args objs r objs' ks)(hk:KG S P F (AF6 ids ks r objs' (stp P g)))
 (hp:pr=E5 (cnd P g):=by kernel_rfl) (b:Ah4 ids (stp P g)=some (fn,args,objs):=by kernel_rfl) (hn:Ah5 ids ks objs'.length (stp P g)=true:=by kernel_rfl):KG S P F g:=⟨Bg0 hS ids hc a hk.out hp b hn⟩
theorem Hr (hS:H2 S P)(hc:pr){kt e:TypeId}{key:PV}{es:List (PV×PV)}{x:PV}{b:Bool}{fd:Option PV}(c:find (Ku P kt) key es=some fd)(a:E5 (Kv P kt))(hk:KG S P F (AU1 x b (stp P g)))
 (hp:pr=E5 (cnd P g):=by kernel_rfl) (d:AU0 P (stp P g)=some ⟨kt,e,key,es⟩:=by kernel_rfl) (hx:AF7 P e fd=some (x,b):=by kernel_rfl):KG S P F g:=⟨AG2 hS hc c a hk.out hp d hx⟩
theorem Ml (hS:H2 S P)(hc:pr){kt:TypeId}{key y:PV}{es es' : List (PV×PV)}(b:upd (Ku P kt) key y es=some es')(a:E5 (Kv P kt))(hk:KG S P F (updK es' (stp P g)))
 (hp:pr=E5 (cnd P g):=by kernel_rfl) (c:updE P (stp P g)=some (kt,key,y,es):=by kernel_rfl):KG S P F g:=⟨AG3 hS hc b a hk.out hp c⟩
theorem Bz (hS:H2 S P)(hc:pr)(st:St){ids:List (Nat×Nat)}(hk:KG S P F (opsS st (stp P g)))(hp:pr=E5 (cnd P g):=by kernel_rfl)(a:IC (stp P g)=true:=by kernel_rfl)(hle:KLe ids (stp P g).st st:=by exact kl):KG S P F g:=
 ⟨Bg1 hS hc st hk.out hp a hle.out⟩
theorem Wx (hS:H2 S P)(hc:pr)(b:∀s,S.up s (F .normal)->F .normal s)(n:Nat)(s:St)
 (h1:∀(M:St->Prop),(∀(g' : Cfg) (ids:List (Nat×Nat)) (pr:Prop),pr->(hp:pr=E5 (cnd P g'):=by kernel_rfl)->(a:stp P g' = .pop .normal (.mid M::(stp P g).k.drop n) (stp P g').st:=by kernel_rfl)->(hle:KLe ids (stp P g').st s:=by exact kl)->KG S P F g')->KG S P F (Bf7 n M (stp P g)))
 (c:KG S P F (.pop .normal ((stp P g).k.drop n) s)) (hp:pr=E5 (cnd P g):=by kernel_rfl) (hn:Nat.ble n (stp P g).k.length=true:=by kernel_rfl):KG S P F g:=
 ⟨J_cut hS hc b n s (fun M hb=>(h1 M fun g' ids pr hc hp a hle=>⟨hb g' ids pr hc hp a hle.out⟩).out) c.out hp hn⟩
theorem EC (hS:H2 S P)(hc:pr)(c:∀s,S.up s (F .normal)->F .normal s){R A:Type}{f:(A->Option R)->Option R}{k0:A->Option R}{r:R}(h:lt k0 f=some r)(n:Nat)(s:A->St)
 (h1:∀(M:St->Prop) (k:A->Option R),(∀(g' : Cfg) (ids:List (Nat×Nat)) (pr:Prop) (a:A),pr->k a=some r->(hp:pr=E5 (cnd P g'):=by kernel_rfl)->(b:stp P g' = .pop .normal (.mid M::(stp P g).k.drop n) (stp P g').st:=by kernel_rfl)->(hle:KLe ids (stp P g').st (s a):=by exact kl)->KG S P F g')->f k=some r->KG S P F (Bf7 n M (stp P g)))
 (d:∀a,k0 a=some r->KG S P F (.pop .normal ((stp P g).k.drop n) (s a))) (hp:pr=E5 (cnd P g):=by kernel_rfl) (hn:Nat.ble n (stp P g).k.length=true:=by kernel_rfl):KG S P F g:=
 ⟨J_lt hS hc c h n s (fun M k hb i=>(h1 M k (fun g' ids pr a hc hk hp b hle=>⟨hb g' ids pr a hc hk hp b hle.out⟩) i).out) (fun a hk=>(d a hk).out) hp hn⟩
theorem H0 (hS:H2 S P)(hc:pr){R A:Type}{body:(A->Option R)->A->Option R}{N:Nat}{a0:A}{r:R}(h:Q7 N body a0=some r)(s:A->St){ids:List (Nat×Nat)}
 (i:∀(X:Type) (s' : X->St) (J:X->Prop) (m:X->Nat) (n:Nat) (b:A->Option R) (a:A),
  (∀(g' : Cfg) (ids:List (Nat×Nat)) (pr:Prop) (a:A),pr->b a=some r->(hp:pr=E5 (cnd P g'):=by kernel_rfl)->(f:stp P g' = .pop .normal (.lp X s' J m n::(stp P g).k) (stp P g').st:=by kernel_rfl)->(hle:KLe ids (stp P g').st (s a):=by exact kl)->KG S P F g') ->
  body b a=some r->KG S P F (.code (RZ (stp P g)) (.lp X s' J m n::(stp P g).k) (s a))) (hp:pr=E5 (cnd P g):=by kernel_rfl) (hl:HP (stp P g)=true:=by kernel_rfl) (hle:KLe ids (stp P g).st (s a0):=by exact kl):KG S P F g:=
 ⟨Bg2 hS hc h s (fun X s' J m n b a hb c=>(i X s' J m n b a (fun g' ids pr a hc d hp f hle=>⟨hb g' ids pr a hc d hp f hle.out⟩) c).out) hp hl hle.out⟩
theorem G9 (hS:H2 S P)(hc:pr){R A B:Type}{body:(A->B->Option R)->A->B->Option R}{N:Nat}{a0:A}{b0:B}{r:R}(h:S0 N body a0 b0=some r)(s:A->B->St){ids:List (Nat×Nat)}
 (d:∀(X:Type) (s' : X->St) (J:X->Prop) (m:X->Nat) (n:Nat) (c:A->B->Option R) (a:A) (b:B),
  (∀(g' : Cfg) (ids:List (Nat×Nat)) (pr:Prop) (a:A) (b:B),pr->c a b=some r->(hp:pr=E5 (cnd P g'):=by kernel_rfl)->(o:stp P g' = .pop .normal (.lp X s' J m n::(stp P g).k) (stp P g').st:=by kernel_rfl)->(hle:KLe ids (stp P g').st (s a b):=by exact kl)->KG S P F g') ->
  body c a b=some r->KG S P F (.code (RZ (stp P g)) (.lp X s' J m n::(stp P g).k) (s a b))) (hp:pr=E5 (cnd P g):=by kernel_rfl) (hl:HP (stp P g)=true:=by kernel_rfl) (hle:KLe ids (stp P g).st (s a0 b0):=by exact kl):KG S P F g:=
 H0 hS hc h (fun x=>s x.1 x.2) (fun X s' J m n c a hb=>d X s' J m n (fun a b=>c (a,b)) a.1 a.2 fun g' ids pr a b h1 f i j l=>hb g' ids pr (a,b) h1 f i j l) hp hl hle
theorem IU (hS:H2 S P)(hc:pr){R A B C:Type}{body:(A->B->C->Option R)->A->B->C->Option R}{N:Nat}{a0:A}{b0:B}{c0:C}{r:R}(h:Am8 N body a0 b0 c0=some r)(s:A->B->C->St){ids:List (Nat×Nat)}
 (f:∀(X:Type) (s' : X->St) (J:X->Prop) (m:X->Nat) (n:Nat) (d:A->B->C->Option R) (a:A) (b:B) (c:C),
  (∀(g' : Cfg) (ids:List (Nat×Nat)) (pr:Prop) (a:A) (b:B) (c:C),pr->d a b c=some r->(hp:pr=E5 (cnd P g'):=by kernel_rfl)->(q:stp P g' = .pop .normal (.lp X s' J m n::(stp P g).k) (stp P g').st:=by kernel_rfl)->(hle:KLe ids (stp P g').st (s a b c):=by exact kl)->KG S P F g') ->
  body d a b c=some r->KG S P F (.code (RZ (stp P g)) (.lp X s' J m n::(stp P g).k) (s a b c))) (hp:pr=E5 (cnd P g):=by kernel_rfl) (hl:HP (stp P g)=true:=by kernel_rfl) (hle:KLe ids (stp P g).st (s a0 b0 c0):=by exact kl):KG S P F g:=
 H0 hS hc h (fun x=>s x.1 x.2.1 x.2.2) (fun X s' J m n d a hb=>f X s' J m n (fun a b c=>d (a,b,c)) a.1 a.2.1 a.2.2 fun g' ids pr a b c h1 i j l o=>hb g' ids pr (a,b,c) h1 i j l o) hp hl hle
theorem YE (hS:H2 S P)(hc:pr){R A B C D:Type}{body:(A->B->C->D->Option R)->A->B->C->D->Option R}{N:Nat}{a0:A}{b0:B}{c0:C}{d0:D}{r:R}(h:Ar8 N body a0 b0 c0 d0=some r)(s:A->B->C->D->St){ids:List (Nat×Nat)}
 (i:∀(X:Type) (s' : X->St) (J:X->Prop) (m:X->Nat) (n:Nat) (f:A->B->C->D->Option R) (a:A) (b:B) (c:C) (d:D),
  (∀(g' : Cfg) (ids:List (Nat×Nat)) (pr:Prop) (a:A) (b:B) (c:C) (d:D),pr->f a b c d=some r->(hp:pr=E5 (cnd P g'):=by kernel_rfl)->(t:stp P g' = .pop .normal (.lp X s' J m n::(stp P g).k) (stp P g').st:=by kernel_rfl)->(hle:KLe ids (stp P g').st (s a b c d):=by exact kl)->KG S P F g') ->
  body f a b c d=some r->KG S P F (.code (RZ (stp P g)) (.lp X s' J m n::(stp P g).k) (s a b c d))) (hp:pr=E5 (cnd P g):=by kernel_rfl) (hl:HP (stp P g)=true:=by kernel_rfl) (hle:KLe ids (stp P g).st (s a0 b0 c0 d0):=by exact kl):KG S P F g:=
 H0 hS hc h (fun x=>s x.1 x.2.1 x.2.2.1 x.2.2.2) (fun X s' J m n f a hb=>i X s' J m n (fun a b c d=>f (a,b,c,d)) a.1 a.2.1 a.2.2.1 a.2.2.2 fun g' ids pr a b c d h1 j l o q=>hb g' ids pr (a,b,c,d) h1 j l o q) hp hl hle
theorem Am4 (hS:H2 S P)(hc:pr){n:Nat}{rs:List ResultVar}{Q:Nd->List Obj->List Bool->Prop}{a:AV}{objs:List Obj}(outs:List Nat)(b:Q (.ret a) objs (FU n outs))(hp:pr=E5 (cnd P g):=by kernel_rfl)
 (c:(AU2 (stp P g)).bind (fun st=>Xp P st rs outs)=some (a,objs):=by kernel_rfl):KG S P (Cw S P n rs Q) g:=⟨J_ret hS hc outs b hp c⟩
theorem A9 (hS:H2 S P)(hc:pr){n:Nat}{rs:List ResultVar}{Q:Nd->List Obj->List Bool->Prop}{a:AV}{objs:List Obj}(st:St)(outs:List Nat){ids:List (Nat×Nat)}(b:Q (.ret a) objs (FU n outs))(hp:pr=E5 (cnd P g):=by kernel_rfl)
 (c:(AU2 (stp P g)).isSome=true:=by kernel_rfl) (hle:KLe ids (stp P g).st st:=by exact kl) (d:Xp P st rs outs=some (a,objs):=by kernel_rfl):KG S P (Cw S P n rs Q) g:=⟨Bg3 hS hc st outs b hp c hle.out d⟩
theorem A3 (hS:H2 S P){f:FuncId}{fn:Func}{args:List AV}{objs objs' : List Obj}{ks:List Bool}{r:AV}(c:P.funcs[f]? = some fn)
 (h:KG S P (Cw S P objs.length fn.results.toList fun res o k=>res=.ret r/\o=objs' /\ k=ks) (.code (fn.body.getD .skip) [] { env:=argEnv args,regs:=objRegs objs }))
 (hc:fn.body.isSome=true:=by kernel_rfl) (hn:Nat.ble args.length fn.ntmps=true:=by kernel_rfl) (d:Nat.blt objs.length 1000=true:=by kernel_rfl)
 (a:AO fn.ntmps (fn.body.getD .skip)=true:=by kernel_rfl) (b:(fn.name == "runtime.NumGoroutine")=false:=by kernel_rfl):FunO S f args objs r objs' ks:=AU5 hS c h.out hc hn d a b
theorem Ep (hS:H2 S P)(hc:pr)(h:DG S P (GC (stp P g)) fun env regs=>KG S P F (.pop .normal (stp P g).k ⟨env,regs⟩))(hp:pr=E5 (cnd P g):=by kernel_rfl)(c:DB (stp P g)=true:=by kernel_rfl)(a:P.follows .mixedOrders=true:=by kernel_rfl)
 (b:NC (GC (stp P g)).all (GC (stp P g)).cls=true:=by kernel_rfl):KG S P F g:=by
 have e:(fun env regs=>KG S P F (.pop .normal (stp P g).k ⟨env,regs⟩))=fun env regs=>G S P F (.pop .normal (stp P g).k ⟨env,regs⟩):=by funext env regs;exact propext ⟨fun h=>h.out,fun h=>⟨h⟩⟩
 rw[e]at h;exact⟨AU6 hS hc h.out hp c a b⟩
section
variable {sc:SC}{k:Env->D8->Prop}
theorem H3 (hc:pr)(h:k (Dh P sc).env (Dh P sc).regs)(hp:pr=E5 (Wb P sc):=by kernel_rfl)(a:(Dh P sc).rest.isEmpty=true:=by kernel_rfl):DG S P sc k:=⟨C_end hc h hp a⟩
theorem Gq (ids:List Nat)(hc:pr){fn:FuncId}{args:List AV}{objs objs' : List Obj}{r:AV}{ks:List Bool}(a:FunO S fn args objs r objs' ks)(hk:DG S P (Zr ids ks r objs' (Dh P sc)) k)
 (hp:pr=E5 (Wb P sc):=by kernel_rfl) (b:Zq ids (Dh P sc)=some (fn,args,objs):=by kernel_rfl) (hn:QD ids ks objs'.length (Dh P sc)=true:=by kernel_rfl):DG S P sc k:=⟨Bg4 ids hc a hk.out hp b hn⟩
theorem K7 (hc:pr){fn:FuncId}{args:List AV}{r:AV}(a:FunO S fn args [] r [] [])(hk:DG S P (As1 r (Dh P sc)) k)(hp:pr=E5 (Wb P sc):=by kernel_rfl)(b:Zt (Dh P sc)=some (fn,args):=by kernel_rfl)(hn:Zs (Dh P sc)=true:=by kernel_rfl):DG S P sc k:=
 ⟨Bg5 hc a hk.out hp b hn⟩
theorem Y8 (hc:pr){x:PV}(hk:DG S P (Xq x (Dh P sc)) k)(hp:pr=E5 (Wb P sc):=by kernel_rfl)(b:(Fw P (Dh P sc)).map (·.2)=some x:=by kernel_rfl)(a:((Fw P (Dh P sc)).map fun q=>E5 q.1)=some (true=true):=by kernel_rfl):DG S P sc k:=⟨AU8 hc hk.out hp b a⟩
theorem Zu (hc:pr){kt e:TypeId}{key:PV}{es:List (PV×PV)}{x:PV}{b:Bool}{fd:Option PV}(c:find (Ku P kt) key es=some fd)(a:E5 (Kv P kt))(hk:DG S P (As2 x b (Dh P sc)) k)
 (hp:pr=E5 (Wb P sc):=by kernel_rfl) (d:UG P (Dh P sc)=some ⟨kt,e,key,es⟩:=by kernel_rfl) (hx:AF7 P e fd=some (x,b):=by kernel_rfl):DG S P sc k:=⟨AG4 hc c a hk.out hp d hx⟩
theorem AG6 (hc:pr){kt:TypeId}{key y:PV}{es es' : List (PV×PV)}(b:upd (Ku P kt) key y es=some es')(a:E5 (Kv P kt))(hk:DG S P (AU9 es' (Dh P sc)) k)
 (hp:pr=E5 (Wb P sc):=by kernel_rfl) (c:Xr P (Dh P sc)=some (kt,key,y,es):=by kernel_rfl):DG S P sc k:=⟨AG5 hc b a hk.out hp c⟩
end
end
end Go.AM
namespace Go.AM
section
variable {S:U3}{P:Program}{F:K6}{g:Cfg}{pr:Prop}
def yldE:Cfg->Option (List PV×List (List PV))
 |.ops all (o::_) _ st=>match BV all st.env o,o.op with
  |some true,.call c=>match c.callee with
   |.value f=>match aev st.env f,EM st.regs (c.args.toList.map (aev st.env))with
    |.yf j,some (xs,regs)=>match A2 regs j with
     |some (.yld (ys::rest) true)=>if Fq j regs=true/\xs.length=ys.length then some (xs,ys::rest)else none
     |_=>none
    |_,_=>none
   |_=>none
  |_,_=>none
 |_=>none
def Bg6 (b:Bool)(rest:List (List PV)):Cfg->Cfg
 |.ops all (o::ops) K st=>match o.op with
  |.call c=>match c.callee with
   |.value f=>match aev st.env f,EM st.regs (c.args.toList.map (aev st.env))with
    |.yf j,some (_,regs)=>AF4 o.dst (.p (.bb b)) st.env (ins j (.yld rest b) regs) fun st=>.ops all ops K st
    |_,_=>.ops all (o::ops) K st
   |_=>.ops all (o::ops) K st
  |_=>.ops all (o::ops) K st
 |g=>g
theorem UH:∀l:List PV,AQ8 l l
 |[]=>trivial
 |x::l=>⟨.inl rfl,UH l⟩
theorem AV0 (hS:H2 S P)(hc:pr){ys:List PV}{rest:List (List PV)}(ht:G S P F (Bg6 true rest (stp P g)))(d:G S P F (Bg6 false [] (stp P g)))(hp:pr=E5 (cnd P g))(a:yldE (stp P g)=some (ys,ys::rest)):G S P F g:=by
 refine EY hS hc ?_ hp;generalize stp P g=g' at a ht d;unfold yldE at a;split at a
 .split at a
  .rename_i l i;split at a
   .rename_i c;split at a
    .rename_i hy j;split at a
     .rename_i m;split at a
      .rename_i f;simp only[Bm4,Bn4,Bt8]at a;obtain⟨rfl,rfl,rfl⟩:=a;simp only[Bg6,i,c,hy,j,IB]at ht d;refine AT4 hS l i c hy j m f.1 (UH _) fun b=>?_;cases b
       .exact d
       exact ht
      cases a
     cases a
    cases a
   cases a
  cases a
 cases a
theorem Er (hS:H2 S P)(hc:pr){ys:List PV}{rest:List (List PV)}(ht:KG S P F (Bg6 true rest (stp P g)))(a:KG S P F (Bg6 false [] (stp P g)))(hp:pr=E5 (cnd P g):=by kernel_rfl)(b:yldE (stp P g)=some (ys,ys::rest):=by kernel_rfl):KG S P F g:=
 ⟨AV0 hS hc ht.out a.out hp b⟩
def Az {T:Type}(x:T)(o:Option (List T)):Option (List T):=o.map (x :: ·)
theorem Pc {T:Type}{x:T}{o:Option (List T)}{L:List T}(h:Az x o=some L):∃L',L=x::L' /\ o=some L':=by simp only[Az,Bo9]at h;obtain⟨l,h1,a⟩:=h;exact⟨l,a.symm,h1⟩
theorem GD (hS:H2 S P)(hc:pr){R A:Type}{body:(A->Option R)->A->Option R}{N:Nat}{a0:A}{r0:R}(h:Q7 N body a0=some r0)(s:A->R->St){ids:List (Nat×Nat)}
 (f:∀(X:Type) (s' : X->St) (J:X->Prop) (m:X->Nat) (n:Nat) (b:A->Option R) (a:A) (r:R),
  (∀(g' : Cfg) (ids:List (Nat×Nat)) (pr:Prop) (a:A) (r:R),pr->b a=some r->(hp:pr=E5 (cnd P g'):=by kernel_rfl)->(d:stp P g' = .pop .normal (.lp X s' J m n::(stp P g).k) (stp P g').st:=by kernel_rfl)->(hle:KLe ids (stp P g').st (s a r):=by exact kl)->KG S P F g') ->
  body b a=some r->KG S P F (.code (RZ (stp P g)) (.lp X s' J m n::(stp P g).k) (s a r))) (hp:pr=E5 (cnd P g):=by kernel_rfl) (hl:HP (stp P g)=true:=by kernel_rfl) (hle:KLe ids (stp P g).st (s a0 r0):=by exact kl):KG S P F g:=by
 refine⟨EY hS hc ?_ hp⟩;rw[Xo hl];refine Ao3 hS (X:=Nat×A×R) (fun x=>s x.2.1 x.2.2) (fun x=>Q7 x.1 body x.2.1=some x.2.2) (fun x=>x.1) (N,a0,r0) ids hle.out h ?_;rintro⟨n,a,r⟩ hx;cases n with
 |zero=>cases hx
 |succ n=>exact (f _ _ _ _ _ (Q7 n body) a r (fun g' ids pr a r hc c hp d hle=>⟨EY hS hc (by rw[d];exact Ao4 hS (n,a,r) ids hle.out c (Nat.lt_succ_self n)) hp⟩) hx).out
theorem Xs (hS:H2 S P)(hc:pr){R A B:Type}{body:(A->B->Option R)->A->B->Option R}{N:Nat}{a0:A}{b0:B}{r0:R}(h:S0 N body a0 b0=some r0)(s:A->B->R->St){ids:List (Nat×Nat)}
 (d:∀(X:Type) (s' : X->St) (J:X->Prop) (m:X->Nat) (n:Nat) (c:A->B->Option R) (a:A) (b:B) (r:R),
  (∀(g' : Cfg) (ids:List (Nat×Nat)) (pr:Prop) (a:A) (b:B) (r:R),pr->c a b=some r->(hp:pr=E5 (cnd P g'):=by kernel_rfl)->(o:stp P g' = .pop .normal (.lp X s' J m n::(stp P g).k) (stp P g').st:=by kernel_rfl)->(hle:KLe ids (stp P g').st (s a b r):=by exact kl)->KG S P F g') ->
  body c a b=some r->KG S P F (.code (RZ (stp P g)) (.lp X s' J m n::(stp P g).k) (s a b r))) (hp:pr=E5 (cnd P g):=by kernel_rfl) (hl:HP (stp P g)=true:=by kernel_rfl) (hle:KLe ids (stp P g).st (s a0 b0 r0):=by exact kl):KG S P F g:=
 GD hS hc h (fun x r=>s x.1 x.2 r) (fun X s' J m n c a r hb=>d X s' J m n (fun a b=>c (a,b)) a.1 a.2 r fun g' ids pr a b r h1 f i j l=>hb g' ids pr (a,b) r h1 f i j l) hp hl hle
theorem Hs (hS:H2 S P){f:FuncId}{fn:Func}{first caps:List AV}{objs:List Obj}{L:List (List PV)}(i:P.funcs[f]? = some fn)
 (h:KG S P (Cw S P (objs++[Obj.yld L true]).length fn.results.toList fun r objs' ks=>∃b,objs'[objs.length]? = some (.yld [] b)/\ks[objs.length]? = some true/\∃a,r=.ret a) (.code (fn.body.getD .skip) [] { env:=argEnv (first ++ .yf objs.length::caps),regs:=objRegs (objs++[Obj.yld L true]) }))
 (hc:fn.body.isSome=true:=by kernel_rfl) (hn:Nat.ble (first ++ .yf objs.length::caps).length fn.ntmps=true:=by kernel_rfl) (j:Nat.blt (objs++[Obj.yld L true]).length 1000=true:=by kernel_rfl)
 (d:AO fn.ntmps (fn.body.getD .skip)=true:=by kernel_rfl) (g:(fn.name == "runtime.NumGoroutine")=false:=by kernel_rfl):Gk S f first caps objs L:=by
 obtain⟨code,c⟩:=Bo5.1 hc;rw[c,Bn3]at d h;exact KH hS i c (Bs7 hn) (by simpa[Bx7]using j) rfl d g h.out
def UI (P:Program)(ids:List Nat):Cfg->Option (FuncId×List AV×List AV×List Obj)
 |.code (.rangeFunc op _ _ _) _ st=>match En st.env op with
  |some (f,first,caps)=>match P.funcs[f]?,L0 ids st.regs ids,CO ids first,CO ids caps with
   |some fn,some objs,some as,some bs=>if (fn.body.isSome && !(fn.name == "runtime.NumGoroutine")&&DP objs&&H5 ids&&(objs.length==ids.length)&&Nat.blt ids.length 1000) then some (f,as,bs,objs)else none
   |_,_,_,_=>none
  |none=>none
 |_=>none
def HQ:Cfg->Array Tmp
 |.code (.rangeFunc _ ps _ _) _ _=>ps
 |_=>#[]
def UJ:Cfg->Code
 |.code (.rangeFunc _ _ a _) _ _=>a
 |_=>.skip
def UK:Cfg->Code
 |.code (.rangeFunc _ _ _ b) _ _=>b
 |_=>.skip
def UL (ids ts:List Nat)(g:Cfg):St:=⟨Z0 ts (ts.map (get g.st.env)),N8 ids (ids.map fun _=>false) g.st.regs⟩
def rst (gh:Nat)(t:St):St:=⟨[],ins gh (.ghost (t.env.map (·.2))) t.regs⟩
def UM (gh:Nat)(ps:Array Tmp)(ys:List PV)(t:St):St:=⟨Ji ps.toList ys t.env,ins gh (.ghost (t.env.map (·.2))) t.regs⟩
def exitE:Cfg->Nc
 |.pop e _ _=>e
 |_=>.normal
def AN6:Cfg->Bool
 |.pop .ret [] _=>true
 |.pop (.exit _) [] _=>true
 |_=>false
theorem As3 (regs:D8)(d:Nat)(x:Obj):A2 (ins d x regs) d=some x:=by
 induction regs with
 |nil=>simp[ins,A2]
 |cons p r ih=>
  obtain⟨i,b⟩:=p;simp only[ins];split
  .simp[A2]
  split
  .simp[A2]
  rename_i h1 a;simp only[A2,a,Po,ih]
theorem GE (gh:Nat)(t:St):A2 (rst gh t).regs gh=some (.ghost (t.env.map fun p=>p.2)):=by unfold rst;exact As3 _ _ _
def NI (ids:List Nat):Cfg->Option (FuncId×List AV×List AV×List Obj)
 |.code (.rangeFunc op _ _ _) _ st=>match En st.env op with
  |some (f,first,caps)=>match L0 ids st.regs ids,CO ids first,CO ids caps with
   |some objs,some as,some bs=>if (DP objs&&H5 ids&&(objs.length==ids.length)&&Nat.blt ids.length 1000) then some (f,as,bs,objs)else none
   |_,_,_=>none
  |none=>none
 |_=>none
theorem Ht {ids:List Nat}{g:Cfg}{q:FuncId×List AV×List AV×List Obj}(h:UI P ids g=some q):NI ids g=some q/\∃fn,P.funcs[q.1]? = some fn/\fn.body.isSome=true/\(fn.name == "runtime.NumGoroutine")=false:=by
 unfold UI at h;split at h
 .split at h
  .rename_i a;split at h
   .rename_i fn objs' as' bs' h1 c d f;split at h
    .rename_i b;cases h;simp only[Bm8,Bp6,beq_iff_eq]at b;obtain⟨⟨⟨⟨⟨e1,e2⟩,e3⟩,e4⟩,e5⟩,e6⟩:=b;refine⟨?_,fn,h1,e1,by simpa using e2⟩;simp only[NI,a,c,d,f,e3,e4,e5,e6,beq_self_eq_true,BA9,Pn]
    cases h
   cases h
  cases h
 cases h
theorem Sb (hS:H2 S P)(hc:pr){f:FuncId}{as bs:List AV}{objs:List Obj}{R T A:Type}{enc:T->List PV}{L:List T}{mb:(A->Option R)->T->A->Option R}{mk:A->Option R}{a0:A}{r:R}(o:∃fn,P.funcs[f]? = some fn/\fn.body.isSome=true/\(fn.name == "runtime.NumGoroutine")=false)
 (ids ts:List Nat) (gh:Nat) (s:A->St) {idl:List (Nat×Nat)}(h:Q5 L mb mk a0=some r) (x:Gk S f as bs objs (L.map enc))
 (i:∀t:T,(enc t).length=(HQ (stp P g)).size) (hk:∀a,(s a).env.map (·.1)=ts) (hn:∀a,A2 (s a).regs gh=none) (m:∀a,(⟨Z0 ts ((s a).env.map (·.2)),del gh (ins gh (.ghost ((s a).env.map (·.2))) (s a).regs)⟩:St)=s a)
 (c:∀(t:T) (next:St->Prop) (d:A->Option R) (a:A),
  (∀(g' : Cfg) (ids:List (Nat×Nat)) (pr:Prop) (a:A),pr->d a=some r->(hp:pr=E5 (cnd P g'):=by kernel_rfl)->(b:stp P g' = .pop .normal [] (stp P g').st:=by kernel_rfl)->(hle:KLe ids (stp P g').st (rst gh (s a)):=by exact kl)->KG S P (Dt S gh ts next (kp S P (stp P g).k F)) g') ->
  mb d t a=some r->KG S P (BG S P (UK (stp P g)) gh ts next (kp S P (stp P g).k F)) (.code (UJ (stp P g)) [] (UM gh (HQ (stp P g)) (enc t) (s a))))
 (j:∀a,mk a=some r->KG S P F (.pop .normal (stp P g).k (s a)))
 (hp:pr=E5 (cnd P g):=by kernel_rfl) (b:NI ids (stp P g)=some (f,as,bs,objs):=by kernel_rfl) (q:Nat.blt gh 1000=true:=by kernel_rfl) (n:A2 (stp P g).st.regs gh=none:=by kernel_rfl) (u:H5 ts=true:=by kernel_rfl)
 (hle:KLe idl (UL ids ts (stp P g)) (s a0):=by exact kl):KG S P F g:=by
 refine⟨EY hS hc ?_ hp⟩;generalize stp P g=g1 at i c j b n hle;unfold NI at b;split at b
 .rename_i op ps asg body K st;split at b
  .rename_i f' first caps v
   split at b
   .rename_i objs' as' bs' y z h4;split at b
    .rename_i w;simp only[Bm4,Bn4]at b;obtain⟨rfl,rfl,rfl,rfl⟩:=b;simp only[Bm8,Bp6,beq_iff_eq]at w;obtain⟨⟨⟨e3,e4⟩,e5⟩,e6⟩:=w;refine AT7 hS ids ts gh s idl h x v o y e3 e4 z h4 e5 q n e6 u i hle.out hk hn (fun t next d a hb hm=>?_) (fun a hm=>(j a hm).out);refine (c t next d a (fun g' ids' pr a hc l hp b hle=>⟨EY hS hc ?_ hp⟩) hm).out;rw[b];have hl:((s a).env.map (·.2)).length=ts.length:=by rw[<- hk a];simp
     refine hb _ (rst gh (s a)) ((s a).env.map fun p=>p.2) ids' a hle.out (GE gh (s a)) hl ?_ (m a) l
     have:=congrArg St.regs (m a)
     simp only at this;show A2 (del gh (ins gh _ _)) gh=none;rw[this];exact hn a
    cases b
   cases b
  cases b
 cases b
theorem Fx (hS:H2 S P)(hc:pr){f:FuncId}{as bs:List AV}{objs:List Obj}{R T A:Type}{enc:T->List PV}{L:List T}{mb:(A->Option R)->T->A->Option R}{mk:A->Option R}{a0:A}{r:R}
 (ids ts:List Nat) (gh:Nat) (s:A->St) {idl:List (Nat×Nat)}(h:Q5 L mb mk a0=some r) (q:Gk S f as bs objs (L.map enc))
 (d:∀t:T,(enc t).length=(HQ (stp P g)).size) (hk:∀a,(s a).env.map (·.1)=ts) (hn:∀a,A2 (s a).regs gh=none) (j:∀a,(⟨Z0 ts ((s a).env.map (·.2)),del gh (ins gh (.ghost ((s a).env.map (·.2))) (s a).regs)⟩:St)=s a)
 (b:∀(t:T) (next:St->Prop) (c:A->Option R) (a:A),
  (∀(g' : Cfg) (ids:List (Nat×Nat)) (pr:Prop) (a:A),pr->c a=some r->(hp:pr=E5 (cnd P g'):=by kernel_rfl)->(l:stp P g' = .pop .normal [] (stp P g').st:=by kernel_rfl)->(hle:KLe ids (stp P g').st (rst gh (s a)):=by exact kl)->KG S P (Dt S gh ts next (kp S P (stp P g).k F)) g') ->
  mb c t a=some r->KG S P (BG S P (UK (stp P g)) gh ts next (kp S P (stp P g).k F)) (.code (UJ (stp P g)) [] (UM gh (HQ (stp P g)) (enc t) (s a))))
 (i:∀a,mk a=some r->KG S P F (.pop .normal (stp P g).k (s a)))
 (hp:pr=E5 (cnd P g):=by kernel_rfl) (l:UI P ids (stp P g)=some (f,as,bs,objs):=by kernel_rfl) (m:Nat.blt gh 1000=true:=by kernel_rfl) (n:A2 (stp P g).st.regs gh=none:=by kernel_rfl) (o:H5 ts=true:=by kernel_rfl)
 (hle:KLe idl (UL ids ts (stp P g)) (s a0):=by exact kl):KG S P F g:=
 Sb hS hc (Ht l).2 ids ts gh s h q d hk hn j b i hp (Ht l).1 m n o hle
theorem As4 (hS:H2 S P)(hc:pr){f:FuncId}{as bs:List AV}{objs:List Obj}{R T A:Type}{enc:T->List PV}{L:List T}{mb:(A->Option R)->T->A->Option R}{mk:A->Option R}{a0:A}{r0:R}(o:∃fn,P.funcs[f]? = some fn/\fn.body.isSome=true/\(fn.name == "runtime.NumGoroutine")=false)
 (ids ts:List Nat) (gh:Nat) (s:A->R->St) {idl:List (Nat×Nat)}(h:Q5 L mb mk a0=some r0) (x:Gk S f as bs objs (L.map enc))
 (i:∀t:T,(enc t).length=(HQ (stp P g)).size) (hk:∀a r,(s a r).env.map (·.1)=ts) (hn:∀a r,A2 (s a r).regs gh=none) (m:∀a r,(⟨Z0 ts ((s a r).env.map (·.2)),del gh (ins gh (.ghost ((s a r).env.map (·.2))) (s a r).regs)⟩:St)=s a r)
 (c:∀(t:T) (next:St->Prop) (d:A->Option R) (a:A) (r:R),
  (∀(g' : Cfg) (ids:List (Nat×Nat)) (pr:Prop) (a:A) (r:R),pr->d a=some r->(hp:pr=E5 (cnd P g'):=by kernel_rfl)->(b:stp P g' = .pop .normal [] (stp P g').st:=by kernel_rfl)->(hle:KLe ids (stp P g').st (rst gh (s a r)):=by exact kl)->KG S P (Dt S gh ts next (kp S P (stp P g).k F)) g') ->
  mb d t a=some r->KG S P (BG S P (UK (stp P g)) gh ts next (kp S P (stp P g).k F)) (.code (UJ (stp P g)) [] (UM gh (HQ (stp P g)) (enc t) (s a r))))
 (j:∀a r,mk a=some r->KG S P F (.pop .normal (stp P g).k (s a r)))
 (hp:pr=E5 (cnd P g):=by kernel_rfl) (b:NI ids (stp P g)=some (f,as,bs,objs):=by kernel_rfl) (q:Nat.blt gh 1000=true:=by kernel_rfl) (n:A2 (stp P g).st.regs gh=none:=by kernel_rfl) (u:H5 ts=true:=by kernel_rfl)
 (hle:KLe idl (UL ids ts (stp P g)) (s a0 r0):=by exact kl):KG S P F g:=by
 refine⟨EY hS hc ?_ hp⟩;generalize stp P g=g1 at i c j b n hle;unfold NI at b;split at b
 .rename_i op ps asg body K st;split at b
  .rename_i f' first caps v
   split at b
   .rename_i objs' as' bs' y z h4;split at b
    .rename_i w;simp only[Bm4,Bn4]at b;obtain⟨rfl,rfl,rfl,rfl⟩:=b;simp only[Bm8,Bp6,beq_iff_eq]at w;obtain⟨⟨⟨e3,e4⟩,e5⟩,e6⟩:=w;refine AF3 hS ids ts gh s idl h x v o y e3 e4 z h4 e5 q n e6 u i hle.out hk hn (fun t next d a r hb hm=>?_) (fun a r hm=>(j a r hm).out);refine (c t next d a r (fun g' ids' pr a r hc l hp b hle=>⟨EY hS hc ?_ hp⟩) hm).out;rw[b];have hl:((s a r).env.map (·.2)).length=ts.length:=by rw[<- hk a r];simp
     refine hb _ (rst gh (s a r)) ((s a r).env.map fun p=>p.2) ids' a r hle.out (GE gh (s a r)) hl ?_ (m a r) l
     have:=congrArg St.regs (m a r)
     simp only at this;show A2 (del gh (ins gh _ _)) gh=none;rw[this];exact hn a r
    cases b
   cases b
  cases b
 cases b
theorem AG7 (hS:H2 S P)(hc:pr){f:FuncId}{as bs:List AV}{objs:List Obj}{R T A:Type}{enc:T->List PV}{L:List T}{mb:(A->Option R)->T->A->Option R}{mk:A->Option R}{a0:A}{r0:R}
 (ids ts:List Nat) (gh:Nat) (s:A->R->St) {idl:List (Nat×Nat)}(h:Q5 L mb mk a0=some r0) (q:Gk S f as bs objs (L.map enc))
 (d:∀t:T,(enc t).length=(HQ (stp P g)).size) (hk:∀a r,(s a r).env.map (·.1)=ts) (hn:∀a r,A2 (s a r).regs gh=none) (j:∀a r,(⟨Z0 ts ((s a r).env.map (·.2)),del gh (ins gh (.ghost ((s a r).env.map (·.2))) (s a r).regs)⟩:St)=s a r)
 (b:∀(t:T) (next:St->Prop) (c:A->Option R) (a:A) (r:R),
  (∀(g' : Cfg) (ids:List (Nat×Nat)) (pr:Prop) (a:A) (r:R),pr->c a=some r->(hp:pr=E5 (cnd P g'):=by kernel_rfl)->(l:stp P g' = .pop .normal [] (stp P g').st:=by kernel_rfl)->(hle:KLe ids (stp P g').st (rst gh (s a r)):=by exact kl)->KG S P (Dt S gh ts next (kp S P (stp P g).k F)) g') ->
  mb c t a=some r->KG S P (BG S P (UK (stp P g)) gh ts next (kp S P (stp P g).k F)) (.code (UJ (stp P g)) [] (UM gh (HQ (stp P g)) (enc t) (s a r))))
 (i:∀a r,mk a=some r->KG S P F (.pop .normal (stp P g).k (s a r)))
 (hp:pr=E5 (cnd P g):=by kernel_rfl) (l:UI P ids (stp P g)=some (f,as,bs,objs):=by kernel_rfl) (m:Nat.blt gh 1000=true:=by kernel_rfl) (n:A2 (stp P g).st.regs gh=none:=by kernel_rfl) (o:H5 ts=true:=by kernel_rfl)
 (hle:KLe idl (UL ids ts (stp P g)) (s a0 r0):=by exact kl):KG S P F g:=
 As4 hS hc (Ht l).2 ids ts gh s h q d hk hn j b i hp (Ht l).1 m n o hle
def Bl7 (t:Nat)(a:AV):Cfg->Cfg
 |.ops all rest K st=>mkO (ins t a st.env) st.regs fun env regs=>.ops all rest K ⟨env,regs⟩
 |g=>g
theorem K_nil (hS:H2 S P)(hc:pr)(t:Nat){k n:Nat}{f:Nat->List PV}(b:n=0->KG S P F (Bl7 t (.p (.v (.slice none 0 0))) (stp P g)))(h1:KG S P F (Bl7 t (.p (.sl true k n f)) (stp P g)))
 (hp:pr=E5 (cnd P g):=by kernel_rfl) (a:IC (stp P g)=true:=by kernel_rfl) (c:get (stp P g).st.env t=.p (.sl false k n f):=by kernel_rfl):KG S P F g:=by
 refine⟨EY hS hc ?_ hp⟩;generalize stp P g=g1 at b h1 a c;unfold IC at a;split at a
 .refine Bd5 hS t c (fun h=>?_) ?_
  .have:=(b h).out
   simpa only[Bl7,EB]using this
  have:=h1.out
  simpa only[Bl7,EB]using this
 cases a
def frzC (j:Nat)(ps:List PV):Cfg->Cfg
 |.code c K st=>mkO (AA7 j ps st.env) (ins j .dead st.regs) fun env regs=>.code c K ⟨env,regs⟩
 |g=>g
theorem AB0 (hS:H2 S P)(hc:pr)(j:Nat)(ps:List PV)(hk:KG S P F (frzC j ps (stp P g)))(hp:pr=E5 (cnd P g):=by kernel_rfl)(c:DB (stp P g)=true:=by kernel_rfl)(b:P.follows .mixedOrders=true:=by kernel_rfl)
 (a:Jh (GC (stp P g)).all=true:=by kernel_rfl) (f:A2 (stp P g).st.regs j=some (.cells (ps.map .p)):=by kernel_rfl):KG S P F g:=by
 refine⟨EY hS hc ?_ hp⟩;generalize stp P g=g1 at hk c a f;unfold DB at c;split at c
 .rename_i id ops K st;have hk:=hk.out;simp only[frzC,EB]at hk;show awp S P (.region id ops true) (kp S P K F) st;simp only[awp,Pn];have d : An9 S P ops.toList (kp S P K F) ⟨AA7 j ps st.env,ins j .dead st.regs⟩:=by
   have:awp S P (.region id ops true) (kp S P K F) ⟨AA7 j ps st.env,ins j .dead st.regs⟩:=hk
   simpa only[awp,Pn]using this
  exact Zj hS b a (hS.frz st j ps _ f d)
 cases c
def clsN (js:List Nat):Nat->List Oper->List Cls
 |_,[]=>[]
 |i,o::r=>(if js.contains i then .n else if js.contains (i+1000)then .w else Bl3 o.op)::clsN js (i+1) r
def Sc (js:List Nat):Cfg->SC
 |.code (.region _ ops true) _ st=>⟨ops.toList,clsN js 0 ops.toList,ops.toList,st.env,st.regs,[]⟩
 |_=>⟨[],[],[],[],[],[]⟩
theorem E3 (hS:H2 S P)(hc:pr)(js:List Nat)(h:DG S P (Sc js (stp P g)) fun env regs=>KG S P F (.pop .normal (stp P g).k ⟨env,regs⟩))(hp:pr=E5 (cnd P g):=by kernel_rfl)(c:DB (stp P g)=true:=by kernel_rfl)(a:P.follows .mixedOrders=true:=by kernel_rfl)
 (b:NC (Sc js (stp P g)).all (Sc js (stp P g)).cls=true:=by kernel_rfl):KG S P F g:=by
 have e:(fun env regs=>KG S P F (.pop .normal (stp P g).k ⟨env,regs⟩))=fun env regs=>G S P F (.pop .normal (stp P g).k ⟨env,regs⟩):=by funext env regs;exact propext ⟨fun h=>h.out,fun h=>⟨h⟩⟩
 rw[e]at h;refine⟨EY hS hc ?_ hp⟩;have h:=h.out;generalize stp P g=g' at c b h;unfold DB at c;split at c
 .exact Ar1 hS _ a b h
 cases c
def clsL (ls:List (Nat×Cls)):Nat->List Oper->List Cls
 |_,[]=>[]
 |i,o::r=>(match ls.find? (fun q=>q.1==i)with|some q=>q.2|none=>Bl3 o.op)::clsL ls (i+1) r
def Sd (ls:List (Nat×Cls)):Cfg->SC
 |.code (.region _ ops true) _ st=>⟨ops.toList,clsL ls 0 ops.toList,ops.toList,st.env,st.regs,[]⟩
 |_=>⟨[],[],[],[],[],[]⟩
theorem T4 (hS:H2 S P)(hc:pr)(ls:List (Nat×Cls))(h:DG S P (Sd ls (stp P g)) fun env regs=>KG S P F (.pop .normal (stp P g).k ⟨env,regs⟩))(hp:pr=E5 (cnd P g):=by kernel_rfl)(c:DB (stp P g)=true:=by kernel_rfl)(a:P.follows .mixedOrders=true:=by kernel_rfl)
 (b:NC (Sd ls (stp P g)).all (Sd ls (stp P g)).cls=true:=by kernel_rfl):KG S P F g:=by
 have e:(fun env regs=>KG S P F (.pop .normal (stp P g).k ⟨env,regs⟩))=fun env regs=>G S P F (.pop .normal (stp P g).k ⟨env,regs⟩):=by funext env regs;exact propext ⟨fun h=>h.out,fun h=>⟨h⟩⟩
 rw[e]at h;refine⟨EY hS hc ?_ hp⟩;have h:=h.out;generalize stp P g=g' at c b h;unfold DB at c;split at c
 .exact Ar1 hS _ a b h
 cases c
theorem Jx (hS:H2 S P)(hc:pr){body:Code}{gh:Nat}{ts:List Nat}{next:St->Prop}{Q:K6}(h:KG S P (Dt S gh ts next Q) (.code body [] (stp P g).st))(hp:pr=E5 (cnd P g):=by kernel_rfl)(a:stp P g=.pop .normal [] (stp P g).st:=by kernel_rfl):KG S P (BG S P body gh ts next Q) g:=by refine⟨EY hS hc ?_ hp⟩;rw[a];exact G_asg hS h.out
theorem Se (hS:H2 S P)(hc:pr){K:List It}{gh:Nat}{ts:List Nat}{next:St->Prop}(t:St){ids:List (Nat×Nat)}(hk:KG S P F (.pop (exitE (stp P g)) K t))(hp:pr=E5 (cnd P g):=by kernel_rfl)(a:AN6 (stp P g)=true:=by kernel_rfl)
 (hle:KLe ids (stp P g).st (rst gh t):=by exact kl) (h1:t.env.map (·.1)=ts:=by kernel_rfl) (d:A2 t.regs gh=none:=by kernel_rfl) (b:(⟨Z0 ts (t.env.map (·.2)),del gh (ins gh (.ghost (t.env.map (·.2))) t.regs)⟩:St)=t:=by kernel_rfl):KG S P (Dt S gh ts next (kp S P K F)) g:=by
 refine⟨EY hS hc ?_ hp⟩;generalize stp P g=g1 at hk a hle;have hl:(t.env.map (·.2)).length=ts.length:=by rw[<- h1];simp
 have c:A2 (del gh (ins gh (.ghost (t.env.map (·.2))) t.regs)) gh=none:=by
  have:=congrArg St.regs b
  simp only at this;rw[this];exact d
 unfold AN6 at a;split at a
 .exact Zh hS Pq (rst gh t) ids hle.out (GE gh t) hl c (by rw[show (⟨Z0 ts (t.env.map (·.2)),del gh (rst gh t).regs⟩:St)=t from b];exact hk.out)
 .exact Zh hS Pq (rst gh t) ids hle.out (GE gh t) hl c (by rw[show (⟨Z0 ts (t.env.map (·.2)),del gh (rst gh t).regs⟩:St)=t from b];exact hk.out)
 cases a
theorem Sf (hS:H2 S P){gh:Nat}{ts:List Nat}{next:St->Prop}{Q:K6}(s:St)(h:S.up s (Dt S gh ts next Q .normal)):Dt S gh ts next Q .normal s:=hS.trans _ _ h
end
end Go.AM
namespace Go.AM
section
variable {S:U3}{P:Program}{F:K6}{g:Cfg}{pr:Prop}
def Bg7 (j:Nat)(ps:List PV):Cfg->Cfg
 |.ops all rest K st=>mkO (AA7 j ps st.env) (ins j .dead st.regs) fun env regs=>.ops all rest K ⟨env,regs⟩
 |g=>g
def AN7 (ids:List Nat):Cfg->Option (FuncId×List AV×List Obj)
 |.ops all (o::_) _ st=>match BV all st.env o,o.op with
  |some true,.call c=>match c.callee with
   |.value f=>match TV st.env f (c.args.toList.map (aev st.env))with
    |some (fn,as')=>match CO ids as',L0 ids st.regs ids with
     |some a,some ob=>if H5 ids&&DP ob then some (fn,a,ob)else none
     |_,_=>none
    |none=>none
   |_=>none
  |_,_=>none
 |_=>none
def AN8 (ids:List Nat)(ks:List Bool)(n:Nat):Cfg->Bool
 |.ops _ (o::_) _ st=>BA st.regs ids ks (o.dst.getD 0) n
 |_=>false
def AN9 (ids:List Nat)(ks:List Bool)(r:AV)(objs' : List Obj):Cfg->Cfg
 |.ops all (o::rest) K st=>AF4 o.dst (unA (J6 (o.dst.getD 0) ids ks objs'.length) r) st.env
  (TU (J6 (o.dst.getD 0) ids ks objs'.length) (J6 (o.dst.getD 0) ids ks objs'.length) objs' (N8 ids ks st.regs)) fun st=>.ops all rest K st
 |g=>g
theorem AV1 (hS:H2 S P)(ids:List Nat)(hc:pr){fn:FuncId}{args:List AV}{objs objs' : List Obj}{r:AV}{ks:List Bool}(f:FunO S fn args objs r objs' ks)(hk:KG S P F (AN9 ids ks r objs' (stp P g)))
 (hp:pr=E5 (cnd P g):=by kernel_rfl) (a:AN7 ids (stp P g)=some (fn,args,objs):=by kernel_rfl) (hn:AN8 ids ks objs'.length (stp P g)=true:=by kernel_rfl):KG S P F g:=by
 refine⟨EY hS hc ?_ hp⟩;have hk:=hk.out;generalize stp P g=g' at a hn hk;unfold AN7 at a;split at a
 .split at a
  .rename_i i j;split at a
   .rename_i c;split at a
    .rename_i hw;split at a
     .rename_i l d;split at a
      .rename_i b;cases a;simp only[Bm8]at b;simp only[AN9,AN8,IB]at hk hn;exact AR4 hS ids i j c hw l d f b.1 b.2 hn hk
      cases a
     cases a
    cases a
   cases a
  cases a
 cases a
def unrT:List (St->Prop)->Nat->St->Prop
 |[],_,_=>False
 |a::_,0,t=>a t
 |_::l,i+1,t=>unrT l i t
theorem AG8 (hS:H2 S P)(hc:pr)(n:Nat)(T:Nat->St->Prop)(s0:St){ids:List (Nat×Nat)}(j:T 0 s0)
 (l:∀(X:Type) (s' : X->St) (J:X->Prop) (m:X->Nat) (i k:Nat) (t:St),i<=n->T i t ->
  (∀(g' : Cfg) (ids:List (Nat×Nat)) (pr:Prop) (t' : St),pr->Nat.ble (i+1) n=true->T (i+1) t' -> (hp:pr=E5 (cnd P g'):=by kernel_rfl)->(q:stp P g' = .pop .normal (.lp X s' J m k::(stp P g).k) (stp P g').st:=by kernel_rfl)->(hle:KLe ids (stp P g').st t':=by exact kl)->KG S P F g') ->
  KG S P F (.code (RZ (stp P g)) (.lp X s' J m k::(stp P g).k) t)) (hp:pr=E5 (cnd P g):=by kernel_rfl) (hl:HP (stp P g)=true:=by kernel_rfl) (hle:KLe ids (stp P g).st s0:=by exact kl):KG S P F g:=by
 refine⟨EY hS hc ?_ hp⟩;rw[Xo hl];refine Ao3 hS (X:=Nat×St) (fun x=>x.2) (fun x=>x.1<=n/\T x.1 x.2) (fun x=>n-x.1) (0,s0) ids hle.out ⟨Bu8 _,j⟩ ?_;rintro⟨i,t⟩ ⟨o,ht⟩;refine (l (Nat×St) (fun x=>x.2) (fun x=>x.1<=n/\T x.1 x.2) (fun x=>n-x.1) i (n-i) t o ht fun g' ids' pr' t' b hn c d f a=>⟨EY hS b ?_ d⟩).out;rw[f];have hn:i+1<=n:=Bs7 hn;exact hS.le ids' _ _ _ a.out ⟨(i+1,t'),rfl,⟨hn,c⟩,by show n-(i+1)<n-i;omega⟩
end
section
variable {S:U3}{P:Program}{F:K6}{g:Cfg}{pr:Prop}
theorem P0 (hS:H2 S P)(hc:pr)(d:Nat)(st:St){ids:List (Nat×Nat)}(hk:KG S P F (opsS st (IO P d g)))(hp:pr=E5 (Bf6 P d g):=by kernel_rfl)(a:IC (IO P d g)=true:=by kernel_rfl)(hle:KLe ids (IO P d g).st st:=by exact kl):KG S P F g:=by
 refine⟨(Ir (u:=some d) (F:=F) hS 400 [] g (by subst hp;exact hc)).2 ?_⟩;have hk:=hk.out;have hle:=hle.out;show G S P F (IO P d g);generalize IO P d g=g' at a hle hk;unfold IC at a;split at a
 .exact Ar9 hS st ids hle hk
 cases a
end
end Go.AM
namespace Go.AM
section
variable {S:U3}{P:Program}{F:K6}{g:Cfg}{pr:Prop}
def Bg8 (S:U3)(P:Program)(pv:PV)(m:String)(as:List AV)(r:AV):Prop:=∃t y fn,pv=.iface t y/\TW P t m=some fn/\AB7 S fn (.p (nP y)::as) r
def invE:Cfg->Option (PV×String×List AV)
 |.ops all (o::_) _ st=>match BV all st.env o,o.op with
  |some true,.call c=>match c.callee with
   |.invoke rv m=>match ON st.regs (c.args.toList.map (aev st.env)),aev st.env rv with
    |some (as,_),.p pv=>match CO [] as with
     |some as'=>some (pv,m,as')
     |none=>none
    |_,_=>none
   |_=>none
  |_,_=>none
 |_=>none
def invK (r:AV):Cfg->Cfg
 |.ops all (o::rest) K st=>match o.op with
  |.call c=>match ON st.regs (c.args.toList.map (aev st.env))with
   |some (_,regs)=>AF4 o.dst (unA [] r) st.env regs fun st=>.ops all rest K st
   |none=>.ops all (o::rest) K st
  |_=>.ops all (o::rest) K st
 |g=>g
theorem Mm (hS:H2 S P)(hc:pr){pv:PV}{m:String}{as:List AV}{r:AV}(b:Bg8 S P pv m as r)(hk:KG S P F (invK r (stp P g)))
 (hp:pr=E5 (cnd P g):=by kernel_rfl) (a:invE (stp P g)=some (pv,m,as):=by kernel_rfl):KG S P F g:=by
 obtain⟨t,y,fn,rfl,hm,b⟩:=b;refine⟨EY hS hc ?_ hp⟩;have hk:=hk.out;generalize stp P g=g' at a hk;unfold invE at a;split at a
 .split at a
  .rename_i i f;split at a
   .rename_i c;split at a
    .rename_i ha d;split at a
     .rename_i j;cases a;simp only[invK,f,ha,IB]at hk;refine AE9 hS i f c ha d hm (args:=.p (nP y)::_) ?_ b hk;simp only[CO,Tm,j]
     cases a
    cases a
   cases a
  cases a
 cases a
theorem G4 (hS:H2 S P)(hc:pr)(d j:Nat)(ps:List PV)(hk:KG S P F (Bg7 j ps (IO P d g)))(hp:pr=E5 (Bf6 P d g):=by kernel_rfl)(a:IC (IO P d g)=true:=by kernel_rfl)
 (b:A2 (IO P d g).st.regs j=some (.cells (ps.map .p)):=by kernel_rfl):KG S P F g:=by
 refine⟨(Ir (u:=some d) (F:=F) hS 400 [] g (by subst hp;exact hc)).2 ?_⟩;have hk:=hk.out;show G S P F (IO P d g);generalize IO P d g=g' at a b hk;unfold IC at a;split at a
 .simp only[Bg7,EB]at hk;exact WO hS (hS.frz _ j ps _ b hk)
 cases a
def AG9 (j j' : Nat):AV->AV
 |.vecp i m=>if i=j then .vec j' else .vecp i m
 |a=>a
def AH0 (j j' : Nat):List AV->List AV
 |[]=>[]
 |a::r=>AG9 j j' a::AH0 j j' r
def AH1 (j j' : Nat):Env->Env
 |[]=>[]
 |(t,a)::r=>(t,AG9 j j' a)::AH1 j j' r
def Ah6 (j j' : Nat):D8->D8
 |[]=>[]
 |(t,.cells cs)::r=>(t,.cells (AH0 j j' cs))::Ah6 j j' r
 |(t,o)::r=>(t,o)::Ah6 j j' r
def msA (j:Nat)(r:List Nat):AV->List Nat
 |.vecp i m=>if i=j then m::r else r
 |_=>r
def msL (j:Nat):List AV->List Nat
 |[]=>[]
 |a::r=>msA j (msL j r) a
def msE (j:Nat):Env->List Nat
 |[]=>[]
 |(_,a)::r=>msA j (msE j r) a
def msR (j:Nat):D8->List Nat
 |[]=>[]
 |(_,.cells cs)::r=>msL j cs++msR j r
 |_::r=>msR j r
theorem As5 {j:Nat}{r:List Nat}{a:AV}:∀x∈r,x∈msA j r a:=by
 intro x hx;unfold msA;split
 .split
  .exact Bo0 _ hx
  exact hx
 exact hx
theorem Zv {j n j' : Nat}{r:List Nat}{a:AV}(h:∀m∈msA j r a,m=n):AB4 j n j' a=AG9 j j' a:=by
 cases a with
 |vecp i m=>
  simp only[AB4,AG9];by_cases e:i=j
  .have:m=n:=h m (by simp[msA,e])
   simp[e,this]
  simp[e]
 |_=>rfl
theorem Zw {j n j' : Nat}:∀{l:List AV},(∀m∈msL j l,m=n)->AM3 j n j' l=AH0 j j' l
 |[],_=>rfl
 |a::r,h=>by simp only[AM3,AH0,Zv (r:=msL j r) h,Zw fun m hm=>h m (As5 m hm)]
theorem Zx {j n j' : Nat}:∀{l:Env},(∀m∈msE j l,m=n)->AM2 j n j' l=AH1 j j' l
 |[],_=>rfl
 |(t,a)::r,h=>by simp only[AM2,AH1,Zv (r:=msE j r) h,Zx fun m hm=>h m (As5 m hm)]
theorem Sg {j n j' : Nat}:∀{l:D8},(∀m∈msR j l,m=n)->YL j n j' l=Ah6 j j' l
 |[],_=>rfl
 |(t,o)::r,h=>by
  cases o with
  |cells cs=>simp only[YL,Ah6,Bb2,Zw fun m hm=>h m (Bp5 _ hm),Sg fun m hm=>h m (Bn9 _ hm)]
  |_=>simp only[YL,Ah6,Bb2,Sg (l:=r) h]
def truC (j j' : Nat)(e:TypeId)(k n:Nat)(f:Nat->List PV):Cfg->Cfg
 |.ops all rest K st=>mkO (AH1 j j' st.env) (ins j' (.vec e k n f false) (ins j .dead (Ah6 j j' st.regs))) fun env regs=>.ops all rest K ⟨env,regs⟩
 |g=>g
theorem Bg9 (hS:H2 S P)(hc:pr)(d j n j' : Nat){e:TypeId}{k N:Nat}{f:Nat->List PV}(hn:n<=N)(hk:KG S P F (truC j j' e k n f (IO P d g)))(hp:pr=E5 (Bf6 P d g):=by kernel_rfl)(b:IC (IO P d g)=true:=by kernel_rfl)
 (c:A2 (IO P d g).st.regs j=some (.vec e k N f false):=by kernel_rfl) (i:A2 (IO P d g).st.regs j' = none:=by kernel_rfl) (h1:Nat.ble 1000 j' = true:=by kernel_rfl)
 (hm:(msE j (IO P d g).st.env++msR j (IO P d g).st.regs)=List.replicate (msE j (IO P d g).st.env++msR j (IO P d g).st.regs).length n:=by kernel_rfl):KG S P F g:=by
 refine⟨(Ir (u:=some d) (F:=F) hS 400 [] g (by subst hp;exact hc)).2 ?_⟩;have hk:=hk.out;show G S P F (IO P d g);generalize IO P d g=g' at b c i hk hm;unfold IC at b;split at b
 .rename_i st;have a:∀m∈msE j st.env++msR j st.regs,m=n:=fun m h=>by rw[show msE j st.env++msR j st.regs=_ from hm]at h;exact (List.mem_replicate.1 h).2
  simp only[truC,EB]at hk;refine WO hS (hS.trunc _ j j' n N k e f _ c hn i (Bs7 h1) ?_);rw[Zx fun m h=>a m (Bp5 _ h),Sg fun m h=>a m (Bn9 _ h)];exact hk
 cases b
end
abbrev cA {α : Type}(n:Nat)(c : α -> PV)(f:Nat -> α):List PV:=CK n (fun i=>c (f i))
theorem G2 (n:Nat)(f:Nat->PV):(CK n f).length=n:=by simp[CK]
theorem F2 (n:Nat)(f:Nat->PV):∀i,i<n->[(CK n f).getD i default]=[f i]:=by intro i a;simp[CK,Bm3,a]
theorem Cj {n:Nat}{z:PV}{ps:List PV}(h:ps=List.replicate n z):∀i,i<n->[ps.getD i default]=[z]:=by intro i a;subst h;simp[Bm3,a]
theorem Ah7 {n:Nat}{f g:Nat->PV}(h:∀i,i<n->[f i]=[g i]):CK n f=CK n g:=by unfold CK;exact Bp7 fun i a=>by have:=h i (Bp3.1 a);injection this
abbrev NJ {α : Type}(f:Nat -> α)(k:Nat)(x : α):Nat -> α:=fun i=>if i=k then x else f i
theorem AV2 {α : Type}{c : α -> PV}{n k:Nat}{v:Nat -> α}{f:Nat->PV}{e:PV}{x : α}(h:∀i,i<n->[f i]=[c (v i)])(hx:e=c x):∀i,i<n->[if i=k then e else f i]=[c (if i=k then x else v i)]:=by
 intro i a;by_cases h1:i=k
 .rw[Pk h1,Pk h1,hx]
 rw[Pl h1,Pl h1];exact h i a
theorem app1H {α : Type}{c : α -> List PV}{n:Nat}{v:Sl α}{f g:Nat->List PV}{z : α}(h:∀i,i<n->f i=c (v.g i))(hn:n=v.n):∀i,i<n+1->i≠v.n->T2 n f g i=c ((v.push z).g i):=by
 subst hn;intro i b a;have hl:i<v.n:=by omega
 show (if i<v.n then f i else g (i-v.n))=c (if i<v.n then v.g i else z);rw[Pk hl,Pk hl];exact h i hl
theorem setH {α : Type}{c : α -> List PV}{n k:Nat}{v:Sl α}{f e:Nat->List PV}{x : α}(h:∀i,i<n->i≠k->f i=c (v.g i))(hx:k<n->e k=c x):∀i,i<n->(fun l=>if l=k then e l else f l) i=c ((v.upd k x).g i):=by
 intro i a;show (if i=k then e i else f i)=c (if i=k then x else v.g i);split
 .subst_vars;exact hx a
 exact h i a ‹_›
end Go.AM
namespace Go.AM
section
variable {S:U3}{P:Program}{F:K6}{g:Cfg}{R X:Type}{A B:Option R}{r:R}{b:Bool}
theorem kI (hS:H2 S P)(h:(if b then A else B)=some r)(ht:A=some r->KG S P F (AT8 (stp P g)))(a:B=some r->KG S P F (AT9 (stp P g)))
 (hp:True=E5 (cnd P g):=by kernel_rfl) (hb:AF5 (stp P g)=some b:=by kernel_rfl):KG S P F g:=
 D4 hS Pq (fun c=>ht (itT c h)) (fun c=>a (itF c h)) hp hb
theorem kG (hS:H2 S P)(h:(if b then A else B)=some r)(ht:A=some r->KG S P F (NG true (stp P g)))(a:B=some r->KG S P F (NG false (stp P g)))
 (hp:True=E5 (cnd P g):=by kernel_rfl) (hb:Zm (stp P g)=some b:=by kernel_rfl):KG S P F g:=
 Ek hS Pq (fun c=>ht (itT c h)) (fun c=>a (itF c h)) hp hb
theorem kR (hS:H2 S P){n:Nat}{rs:List ResultVar}{Q:Nd->List Obj->List Bool->Prop}{a:AV}{objs:List Obj}(b:Q (.ret a) objs (FU n []):=by exact⟨rfl,rfl,rfl⟩)
 (hp:True=E5 (cnd P g):=by kernel_rfl) (c:(AU2 (stp P g)).bind (fun st=>Xp P st rs [])=some (a,objs):=by kernel_rfl):KG S P (Cw S P n rs Q) g:=
 Am4 hS Pq [] b hp c
theorem kC (hS:H2 S P){x:Option X}{f:X->Option R}(h:x.bind f=some r){fn:FuncId}{args:List AV}{objs:List Obj}{objs' : X->List Obj}{rr:X->AV}{ks:List Bool}
 (a:∀{y},x=some y->FunO S fn args objs (rr y) (objs' y) ks) (hk:∀y,f y=some r->KG S P F (AF6 [] ks (rr y) (objs' y) (stp P g)))
 (hp:True=E5 (cnd P g):=by kernel_rfl) (b:Ah4 [] (stp P g)=some (fn,args,objs):=by kernel_rfl) (hn:∀y,Ah5 [] ks (objs' y).length (stp P g)=true:=by intro y;kernel_rfl):KG S P F g:=by
 obtain⟨y,e,h⟩:=B9 h;exact C6 hS [] Pq (a e) (hk y h) hp b (hn y)
end
end Go.AM
namespace Go.AM
inductive BT where
 |l (b:Bool)
 |n (b:Bool) (t f:BT)
def BT.ev:BT->Bool
 |.l b=>b
 |.n b t f=>if b then t.ev else f.ev
inductive BE where
 |a (b:Bool)
 |n (x y:BE)
 |o (x y:BE)
def BE.den:BE->Bool
 |.a b=>b
 |.n x y=>x.den&&y.den
 |.o x y=>x.den||y.den
def BE.tr:BE->BT->BT->BT
 |.a b,t,f=>.n b t f
 |.n x y,t,f=>x.tr (y.tr t f) f
 |.o x y,t,f=>x.tr t (y.tr t f)
def BE.top:BE->BT
 |.a b=>.l b
 |.n x y=>x.tr y.top (.l false)
 |.o x y=>x.tr (.l true) y.top
theorem BE.tr_ev:∀(e:BE) (t f:BT),(e.tr t f).ev=if e.den then t.ev else f.ev
 |.a b,t,f=>rfl
 |.n x y,t,f=>by simp only[tr,den,x.tr_ev,y.tr_ev];by_cases h:x.den=true<;>simp[h]
 |.o x y,t,f=>by simp only[tr,den,x.tr_ev,y.tr_ev];by_cases h:x.den=true<;>simp[h]
theorem BE.top_ev:∀e:BE,e.top.ev=e.den
 |.a b=>rfl
 |.n x y=>by simp only[top,den,x.tr_ev,y.top_ev,BT.ev];by_cases h:x.den=true<;>simp[h]
 |.o x y=>by simp only[top,den,x.tr_ev,y.top_ev,BT.ev];by_cases h:x.den=true<;>simp[h]
def keeps:Op->Bool
 |.move _ | .assign _ | .pick .. | .load .. | .nilCheck _ | .binOp .. | .unOp .. | .convert .. | .fieldAddr .. | .field .. | .indexAddr .. | .index .. | .extract ..=>true
 |.call { callee:=.builtin .len,.. } | .call { callee:=.builtin .min,.. } | .call { callee:=.builtin .max,.. }=>true
 |_=>false
theorem Ah8 {P:Program}{env:Env}{regs:D8}{d:Nat}{o:Op}{out:Out}(hk:keeps o=true)(h:aop P env regs d o=some out):out.regs=regs:=by unfold keeps at hk;split at hk<;>first|(cases hk;done)|(simp only[aop]at h;(repeat' split at h)<;>first|(cases h;rfl)|cases h)
theorem QE {o:Op}(hk:keeps o=true):AM4 o=true:=by unfold keeps at hk;split at hk<;>first|cases hk;done|rfl
def AH2:List Prop->List Prop
 |[]=>[]
 |c=>[E5 c]
def bgo (P:Program)(regs:D8)(o:Oper)(last:Bool)(rec:List Prop->Env->Option (BT×List Prop))(c:List Prop)(env:Env)(runs:Bool):Option (BT×List Prop):=match runs with
 |true=>match keeps o.op,o.dst with
  |true,some d=>match aop P env regs d o.op with
   |some ⟨p,v,_⟩=>match last with
    |true=>match Nf v with
     |some b=>some (.l b,AH2 (p++c))
     |none=>none
    |false=>fA v fun v=>Ao1 d v env fun env=>rec (p++c) env
   |none=>none
  |_,_=>none
 |false=>match last,o.dst with
  |false,some d=>Ao1 d BB env fun env=>rec c env
  |_,_=>none
def bev (P:Program)(all:List Oper)(regs:D8):List Oper->List Prop->Env->Option (BT×List Prop)
 |[],_,_=>none
 |o::rest,c,env=>
  match o.guard with
  |none=>bgo P regs o rest.isEmpty (fun c env=>bev P all regs rest c env) c env true
  |some (j,want)=>match get env (Gi all j)with
   |.p (.v (.bool b))=>bgo P regs o rest.isEmpty (fun c env=>bev P all regs rest c env) c env (b==want)
   |.p (.v (.tuple _))=>bgo P regs o rest.isEmpty (fun c env=>bev P all regs rest c env) c env false
   |.p (.bb b)=>match Ao1 (Gi all j) (.p (.v (.bool true))) env fun env=>bgo P regs o rest.isEmpty (fun c env=>bev P all regs rest c env) [] env want,
    Ao1 (Gi all j) (.p (.v (.bool false))) env fun env=>bgo P regs o rest.isEmpty (fun c env=>bev P all regs rest c env) [] env !want with
    |some (t,ct),some (f,cf)=>some (.n b t f,AH2 c++(ct.map (fun p=>b=true->p)++cf.map (fun p=>b=false->p)))
    |_,_=>none
   |_=>none
def Al3 (l:List Oper):List Nat:=l.filterMap (·.dst)
def AV3 (ks:List Nat)(env:Env):Env:=env.filter fun q=>!ks.contains q.1
theorem Zy (ks:List Nat)(env:Env)(x:Nat):get (AV3 ks env) x=if x∈ks then .top else get env x:=by
 induction env with
 |nil=>simp[AV3,get]
 |cons q r ih=>
  obtain⟨i,a⟩:=q;simp only[AV3,BE1];by_cases b:i∈ks
  .rw[Pl (by simpa using b)]
   have:=ih
   simp only[AV3]at this;rw[this];by_cases hx:x∈ks
   .simp[hx]
   have:i≠x:=fun e=>hx (e ▸ b)
   simp[hx,get,this]
  rw[Pk (by simpa using b)];simp only[get]
  have:=ih
  simp only[AV3]at this;rw[this];by_cases hx:i=x
  .subst hx;simp[b]
  simp[hx]
def Xt:List Oper->Option Nat
 |[]=>none
 |[o]=>o.dst
 |_::r=>Xt r
section
variable {S:U3}{P:Program}
theorem QF {c:List Prop}(h:∀p∈AH2 c,p):E5 c:=by
 cases c with
 |nil=>trivial
 |cons p r=>exact h _ (by simp[AH2])
theorem Bh0 (hS:H2 S P){all:List Oper}{regs:D8}{Q:K6}{post:List Oper}{envF:Env}{V:Bool}{d:Nat}(hQ:∀s,S.up s (Kk S P all post Q)->Kk S P all post Q s)(hV:get envF d=.p (.bb V))
 (hw:Kk S P all post Q ⟨envF,regs⟩) :
 ∀(L:List Oper) (c:List Prop) (env:Env) (T:BT) (C:List Prop),bev P all regs L c env=some (T,C)->(∀p∈C,p)->T.ev=V->Xt L=some d ->
  (∀x,x≠d->RA (get envF x) (get env x) \/ (x∈Al3 L/\get envF x=.top))->(∀x∈Al3 L,x≠d->get envF x=.top)->E5 c/\Kk S P all (L++post) Q ⟨env,regs⟩:=by
 intro L
 induction L with
 |nil=>intro c env T C h;cases h
 |cons o rest ih=>
  intro c env T C h w i hd hl ht;simp only[bev,Iq]at h;have key:∀(c:List Prop) (env:Env) (runs:Bool) (T:BT) (C:List Prop),bgo P regs o rest.isEmpty (fun c env=>bev P all regs rest c env) c env runs=some (T,C)->(∀p∈C,p)->T.ev=V ->
   (∀x,x≠d->RA (get envF x) (get env x) \/ (x∈Al3 (o::rest)/\get envF x=.top)) ->
   E5 c/\(if runs then wOp S P o (Kk S P all (rest++post) Q) Q ⟨env,regs⟩else Kk S P all (rest++post) Q (put ⟨env,regs⟩ o.dst BB)):=by
   intro c env runs T C h w i hl;have l:rest.isEmpty=false->Xt rest=some d:=by
    intro hr;cases rest with
    |nil=>cases hr
    |cons a r=>simpa[Xt]using hd
   have a0:∀{d'},o.dst=some d' -> Al3 (o::rest)=d' :: Al3 rest:=fun g=>by simp[Al3,g]
   have m:∀d' (v:AV),o.dst=some d' -> ∀x,x≠d->RA (get envF x) (get (ins d' v env) x) \/ (x∈Al3 rest/\get envF x=.top):=by
    intro d' v g x hx;rw[CX];by_cases n:d' = x
    .subst n;exact .inl (.inl (ht _ (by rw[a0 g];exact Bu5 ..) hx))
    rw[Pl n];rcases hl x hx with h|⟨h1,h2⟩
    .exact .inl h
    exact .inl (.inl h2)
   cases runs with
   |true=>
    simp only[bgo,Ae7,Iq,Pn]at h⊢;split at h
    .rename_i d' hk g;split at h
     .rename_i p v regs' ha;have hr:regs' = regs:=Ah8 hk ha;subst hr;have ha' : aop P env regs' (o.dst.getD 0) o.op=some ⟨p,v,regs'⟩:=by rw[g];exact ha
      split at h
      .rename_i u;split at h
       .rename_i b hb;cases h;have a1:=QF w;obtain⟨hc,hp⟩:=(Ds _ _).1 a1;refine⟨hc,Mi (QE hk) ha' hp ?_⟩;obtain rfl:rest=[]:=List.isEmpty_iff.1 u;simp only[Xt]at hd;have e:d' = d:=by rw[g]at hd;exact Bn8 hd
        subst e;refine hQ _ (hS.less _ ⟨envF,regs'⟩ _ (fun x=>?_) (fun _=>by rw[g];rfl) (by simpa using hw));rw[g];show RA (get envF x) (get (ins d' v env) x);rw[CX];by_cases hx:d' = x
        .subst hx;rw[Pk rfl,hV];have i:b=V:=i;subst i;unfold Nf at hb;split at hb
         .cases hb;exact .inr (.inr ⟨_,rfl,rfl⟩)
         .cases hb;exact .inr (.inl rfl)
         cases hb
        rw[Pl hx];rcases hl x (fun e=>hx e.symm)with h|⟨_,h⟩
        .exact h
        exact .inl h
       cases h
      rename_i u;have hn:∀x,x≠d->RA (get envF x) (get (ins d' v env) x) \/ (x∈Al3 rest/\get envF x=.top):=m d' v g;obtain⟨a1,a2⟩:=ih _ _ _ _ h w i (l (by simpa using u)) hn (fun x hx=>ht x (by rw[a0 g];exact Bo0 _ hx));obtain⟨hc,hp⟩:=(Ds _ _).1 a1;exact⟨hc,Mi (QE hk) ha' hp (by rw[g];exact a2)⟩
     cases h
    cases h
   |false=>
    simp only[bgo,Iq,Bn1,Po]at h⊢;split at h
    .rename_i d' u g;have hn:∀x,x≠d->RA (get envF x) (get (ins d' BB env) x) \/ (x∈Al3 rest/\get envF x=.top):=m d' _ g;obtain⟨hc,a2⟩:=ih _ _ _ _ h w i (l (by simpa using u)) hn (fun x hx=>ht x (by rw[a0 g];exact Bo0 _ hx));exact⟨hc,by rw[g];exact a2⟩
    cases h
  simp only[Bq9,Kk];cases hg:o.guard with
  |none=>simp only[hg]at h;obtain⟨hc,hk⟩:=key _ _ _ _ _ h w i hl;exact⟨hc,hS.refl _ _ (by simpa[hg]using hk)⟩
  |some q=>
   obtain⟨j,want⟩:=q;simp only[hg]at h;split at h
   .rename_i b hb;obtain⟨hc,hk⟩:=key _ _ _ _ _ h w i hl;refine⟨hc,hS.refl _ _ ⟨some b,by rw[hb];rfl,?_⟩⟩;have e:(some b=some want)↔(b==want)=true:=by simp
    by_cases z:(b==want)=true
    .rw[Pk (e.2 z)];simpa[z]using hk
    rw[Pl (fun x=>z (e.1 x))];simpa[z]using hk
   .rename_i tt hb;obtain⟨hc,hk⟩:=key _ _ _ _ _ h w i hl;refine⟨hc,hS.refl _ _ ⟨none,by rw[hb];rfl,?_⟩⟩;rw[Pl (by simp)];simpa using hk
   .rename_i b hb;split at h
    .rename_i t ct f cf h1 h2;cases h;have hc:E5 c:=QF fun p hp=>w p (Bp5 _ hp);refine⟨hc,hS.bool _ _ b _ hb ?_⟩;have hl2:∀x,x≠d->RA (get envF x) (get (ins (Gi all j) (.p (.v (.bool b))) env) x) \/ (x∈Al3 (o::rest)/\get envF x=.top):=by
      intro x hx;rw[CX];by_cases n:Gi all j=x
      .subst n;rw[Pk rfl];rcases hl _ hx with h|h
       .rw[hb]at h;rcases h with h|h|⟨y,h1,h2⟩
        .exact .inl (.inl h)
        .exact .inl (.inr (.inr ⟨b,h,rfl⟩))
        cases h2
       exact .inr h
      rw[Pl n];exact hl x hx
     cases b with
     |true=>
      obtain⟨_,hk⟩:=key _ _ _ _ _ h1 (fun p hp=>w (true=true->p) (Bn9 _ (Bp5 _ (Bp0.2 ⟨p,hp,rfl⟩))) rfl) i hl2;refine⟨some true,by show yv (get (ins _ _ _) _)=_;rw[CX,Pk rfl];rfl,?_⟩;cases want with
      |true=>simpa using hk
      |false=>simpa using hk
     |false=>
      obtain⟨_,hk⟩:=key _ _ _ _ _ h2 (fun p hp=>w (false=false->p) (Bn9 _ (Bn9 _ (Bp0.2 ⟨p,hp,rfl⟩))) rfl) i hl2;refine⟨some false,by show yv (get (ins _ _ _) _)=_;rw[CX,Pk rfl];rfl,?_⟩;cases want with
      |true=>simpa using hk
      |false=>simpa using hk
    cases h
   cases h
end
def AV4 (P:Program)(m:Nat):Cfg->Option (BT×List Prop)
 |.ops all rest K st=>bev P all st.regs (rest.take m) [] st.env
 |_=>none
def Bh1 (m:Nat)(b:Bool):Cfg->Cfg
 |.ops all rest K st=>match Xt (rest.take m)with
  |some d=>mkO (ins d (.p (.bb b)) (AV3 (Al3 (rest.take m)) st.env)) st.regs fun env regs=>.ops all (rest.drop m) K ⟨env,regs⟩
  |none=>.ops all rest K st
 |g=>g
def Bh2 (m:Nat):Cfg->Bool
 |.ops all rest K st=>(Xt (rest.take m)).isSome
 |_=>false
def Bh3:List Prop->Prop
 |[]=>True
 |p::r=>r.foldl And p
theorem AH3 {l:List Prop}(h:Bh3 l):∀p∈l,p:=by
 have:∀(r:List Prop) (p:Prop),r.foldl And p->p/\∀q∈r,q:=by
  intro r
  induction r with
  |nil=>intro p h;exact⟨h,fun q b=>by cases b⟩
  |cons a r ih=>intro p h;obtain⟨⟨h1,c⟩,d⟩:=ih _ h;exact⟨h1,fun q b=>by rcases Bp9.1 b with rfl|b;exact c;exact d q b⟩
 cases l with
 |nil=>intro p hp;cases hp
 |cons a r=>obtain⟨h1,c⟩:=this _ _ h;exact fun q b=>by rcases Bp9.1 b with rfl|b;exact h1;exact c q b
section
variable {S:U3}{P:Program}{F:K6}{g:Cfg}{pr pc:Prop}
theorem kB (hS:H2 S P)(n:∀s,S.up s (F .normal)->F .normal s)(hc:pr)(c:pc)(m:Nat)(E:BE)(hk:KG S P F (Bh1 m E.den (stp P g)))
 (hp:pr=E5 (cnd P g):=by kernel_rfl) (a:(AV4 P m (stp P g)).map (·.1)=some E.top:=by kernel_rfl) (b:(AV4 P m (stp P g)).map (fun x=>Bh3 x.2)=some pc:=by kernel_rfl) (f:Bh2 m (stp P g)=true:=by kernel_rfl):KG S P F g:=by
 refine⟨EY hS hc ?_ hp⟩;have hk:=hk.out;generalize stp P g=g' at hk a b f;unfold AV4 at a b;split at a
 .rename_i all rest K st;simp only[Bh2,Bo5]at f;obtain⟨d,j⟩:=f;simp only[Bh1,j,EB]at hk;cases hb:bev P all st.regs (rest.take m) [] st.env with
  |none=>rw[hb]at a;cases a
  |some q=>
   obtain⟨T,C⟩:=q;simp only[hb]at a b;simp only[Bn5,Bm4]at a b;subst a
   have:=(Bh0 hS (Q:=kp S P K F) (post:=rest.drop m) (envF:=ins d (.p (.bb E.den)) (AV3 (Al3 (rest.take m)) st.env)) (V:=E.den) (d:=d) ?_ (by rw[CX,Pk rfl]) hk (rest.take m) [] st.env E.top C hb
    (AH3 (b ▸ c)) E.top_ev j (fun x hx=>?_) (fun x hx i=>?_)).2
   .rwa [Bx4]at this
   .intro s h;cases l:rest.drop m with
    |nil=>rw[l]at h;exact AF2 hS n K s h
    |cons o r=>rw[l]at h;exact hS.trans _ _ h
   .rw[CX,Pl (fun e=>hx e.symm),Zy];split
    .exact .inl (.inl rfl)
    exact .inl (.inr (.inl rfl))
   rw[CX,Pl (fun e=>i e.symm),Zy,Pk hx]
 cases a
end
end Go.AM
namespace Go.AM
def famC (op:Rx):Cfg->List Prop
 |.ops _ _ _ st=>match T6 op st with
  |some (c,_)=>c
  |none=>[False]
 |_=>[False]
def famG (op:Rx):Cfg->Cfg
 |.ops all rest K st=>match T6 op st with
  |some (_,st)=>mkO st.env st.regs fun env regs=>.ops all rest K ⟨env,regs⟩
  |none=>.ops all rest K st
 |g=>g
section
variable {S:U3}{P:Program}{F:K6}{g:Cfg}{pr pc:Prop}
theorem HR (hS:H2 S P)(hc:pr)(d:Nat)(op:Rx)(b:pc)(hk:KG S P F (famG op (IO P d g)))(hp:pr=E5 (Bf6 P d g):=by kernel_rfl)(f:IC (IO P d g)=true:=by kernel_rfl)
 (a:pc=E5 (famC op (IO P d g)):=by kernel_rfl):KG S P F g:=by
 refine⟨(Ir (u:=some d) (F:=F) hS 400 [] g (by subst hp;exact hc)).2 ?_⟩;have hk:=hk.out;show G S P F (IO P d g);generalize IO P d g=g' at f a hk;unfold IC at f;split at f
 .rename_i all o rest K st;simp only[famC]at a;simp only[famG]at hk;cases i:T6 op st with
  |none=>rw[i]at a;subst a;exact b.elim
  |some q=>obtain⟨c,st'⟩:=q;simp only[i,EB]at hk a;subst a;exact WO hS (hS.fam op _ _ c _ i b hk)
 cases f
end
def Bh4 (j k n:Nat)(e:TypeId)(g:Nat->List PV)(vw:Bool):Cfg->Cfg
 |.ops all rest K st=>mkO st.env (ins j (.vec e k n g vw) st.regs) fun env regs=>.ops all rest K ⟨env,regs⟩
 |g=>g
theorem AV5 {S:U3}{P:Program}{F:K6}{g:Cfg}{pr:Prop}(hS:H2 S P)(hc:pr)(d j:Nat){k n:Nat}{e:TypeId}{vw:Bool}(f q:Nat->List PV)(c:∀i,i<n->leC (f i) (q i))(hk:KG S P F (Bh4 j k n e q vw (IO P d g)))
 (hp:pr=E5 (Bf6 P d g):=by kernel_rfl) (a:IC (IO P d g)=true:=by kernel_rfl) (b:A2 (IO P d g).st.regs j=some (.vec e k n f vw):=by kernel_rfl):KG S P F g:=by
 refine⟨(Ir (u:=some d) (F:=F) hS 400 [] g (by subst hp;exact hc)).2 ?_⟩;have hk:=hk.out;show G S P F (IO P d g);generalize IO P d g=g1 at hk a b;unfold IC at a;split at a
 .simp only[Bh4,EB]at hk;exact WO hS (hS.vecq _ j n k e f q vw _ b c hk)
 cases a
theorem leCn {k:Nat}{g:Nat->List PV}:leC [.v (.slice none 0 0)] [.sl false k 0 g]:=⟨rfl,fun j=>by
 cases j with
 |zero=>exact .inr (.inr (.inl ⟨_,_,rfl,rfl⟩))
 |succ j=>exact .inl rfl⟩
theorem leCr (l:List PV):leC l l:=⟨rfl,fun _=>.inl rfl⟩
end Go.AM
namespace Go.AM
def Bh5 (op:Rx):Cfg->List Prop
 |.code _ _ st=>match T6 op st with
  |some (c,_)=>c
  |none=>[False]
 |_=>[False]
def Bh6 (op:Rx):Cfg->Cfg
 |.code c K st=>match T6 op st with
  |some (_,st)=>mkO st.env st.regs fun env regs=>.code c K ⟨env,regs⟩
  |none=>.code c K st
 |g=>g
def Zz {S:U3}{P:Program}{F:K6}{g:Cfg}{pr pc:Prop}(hS:H2 S P)(hc:pr)(op:Rx)(d:pc)(hk:KG S P F (Bh6 op (stp P g)))(hp:pr=E5 (cnd P g):=by kernel_rfl)(i:DB (stp P g)=true:=by kernel_rfl)(f:P.follows .mixedOrders=true:=by kernel_rfl)
 (b:Jh (GC (stp P g)).all=true:=by kernel_rfl) (a:pc=E5 (Bh5 op (stp P g)):=by kernel_rfl):KG S P F g:=by
 refine⟨EY hS hc ?_ hp⟩;generalize stp P g=g1 at hk i b a;unfold DB at i;split at i
 .rename_i id ops K st;have hk:=hk.out;simp only[Bh6]at hk;simp only[Bh5]at a;cases j:T6 op st with
  |none=>rw[j]at a;subst a;exact d.elim
  |some q=>
   obtain⟨c,st'⟩:=q;simp only[j,EB]at hk a;subst a;show awp S P (.region id ops true) (kp S P K F) st;simp only[awp,Pn];have l : An9 S P ops.toList (kp S P K F) st':=by
    have:awp S P (.region id ops true) (kp S P K F) st':=hk
    simpa only[awp,Pn]using this
   exact Zj hS f b (hS.fam op _ _ c _ j d l)
 cases i
end Go.AM
namespace Go.AM
def UN {P:Program}{f:FuncId}{vw:Bool}{args:List PV}{e:TypeId}{k n:Nat}{g:Nat->List PV}(t:∀as w,(callFunc f as).run P w=.ok (.enter f as) w)(hk:∀i,i<n->(g i).length=k)
 (h:∀(w:World) (Pi:Nat->Nat->Prop) (vs:Array Value),(∀b off,Pi b off->b<w.heap.size)->vs.size=args.length->(∀i,i<args.length->RepP w Pi (vs.getD i undef) (args.getD i default)) ->
  Calls P f vs w fun x w'=>∃v,x=.returned v/\RowKit.Below w.heap.size w w' /\ ((v=.slice none 0 0/\n=0) \/ ∃b cap c,v=.slice (some ⟨b,0,none⟩) n cap/\w.heap.size<=b/\w'.heap[b]? = some (.cells c e (0,0))/\n<=cap/\c.size=cap*k/\cap<=maxLen /\
   ∀i j,i<n->j<k->RepP w Pi (c.getD (i*k+j) undef) ((g i).getD j default)/\(c.getD (i*k+j) undef).oneCell' = true)):FunO (HC P) f (args.map .p) [] (.vec 0) [.vec e k n g vw] []:=by
 intro 𝒢 C w vs rho hG hs hsz;have y:∀j,A2 (objRegs []) j=none:=fun j=>by simp[objRegs,objRegs.go,A2]
 have h0:=h w (Prv C.X (A2 (objRegs [])) rho) vs (fun b off hp=>by
  rcases hp with hp|⟨j,o,a,_⟩
  .exact hs.hp.bound b off hp
  .simp[y]at a) (by simpa using hsz) (fun i s=>by
  have:=hs.env i
  rw[Bq]at this;have e:(args.map AV.p).getD i .top=.p (args.getD i default):=by simp[s]
  rw[e]at this;exact this.toP)
 refine⟨_,_,t _ _,callsIn_wide.2 (h0.mono ?_)⟩;rintro x w' ⟨v,rfl,hb,hv⟩;have hR:∀j o,A2 (objRegs [Obj.vec e k n g vw]) j=some o->j=0/\o=.vec e k n g vw:=fun j o a=>by
  simp only[objRegs,objRegs.go,A2]at a;split at a
  .rename_i hj0;cases a;exact⟨hj0.symm,rfl⟩
  cases a
 have z:A2 (objRegs [Obj.vec e k n g vw]) 0=some (.vec e k n g vw):=rfl
 let rho' : Nat->Value:=fun j=>if j=0 then v else rho j
 have hr0:rho' 0=v:=rfl;have l:∀b,F9 v (.vec e k n g vw) b->w.heap.size<=b/\b<w'.heap.size:=by
  intro b a0;rcases hv with⟨rfl,_⟩ | ⟨b',cap,c,rfl,h1,h2,_⟩
  .cases a0
  cases a0;exact⟨h1,(Bn2.1 h2).1⟩
 have a1:∀b o,Prv C.X (A2 (objRegs [Obj.vec e k n g vw])) rho' b o->C.X b o \/ w.heap.size<=b:=by
  rintro b o (hX|⟨j,o',a,d,_⟩)
  .exact .inl hX
  obtain⟨rfl,rfl⟩:=hR j o' a;exact .inr (l b d).1
 have m:Keeps w (Prv C.X (A2 (objRegs [])) rho) w' (Prv C.X (A2 (objRegs [Obj.vec e k n g vw])) rho'):=fun b o u hp hc=>by
  have q:=Bu9 w ⟨b,o,none⟩ hc;refine⟨by rw[<- hc];exact Br2 (hb.block b q),fun hpp=>?_⟩;rcases a1 b o hpp with hX|hge
  .exact hp (.inl hX)
  have:b<w.heap.size:=q
  omega
 refine⟨C,.ret (.vec 0),[.vec e k n g vw],[],rho',hG,⟨rfl,rfl,rfl⟩,?_,⟨v,rfl,?_⟩,fun i s=>by simp at s⟩
 .refine⟨⟨fun j o a=>?_,fun i j oi oj b s a _ _=>by rw[(hR i oi s).1,(hR j oj a).1],fun j o b off a d hX=>?_,fun b off hp=>Bo7 (hs.hp.bound b off hp) hb.size⟩,hs.ext.trans ⟨hb.os,hb.output⟩,Bq1 hs.size hb.size,fun b q hE=>?_,hs.keep.trans m,fun b d=>?_,fun j r b a=>by cases (hR j _ a).2⟩
  .obtain⟨rfl,rfl⟩:=hR j o a;rw[hr0];rcases hv with hn|⟨b,cap,c,rfl,h1,h2,h3,h4,h5,h6⟩
   .exact .inl hn
   exact .inr ⟨b,cap,c,rfl,h2,h3,h4,h5,hk,fun i j s a=>⟨(h6 i j s a).1.keeps m,(h6 i j s a).2⟩⟩
  .obtain⟨rfl,rfl⟩:=hR j o a;have h1:=(l b d).1;have h2:=hs.hp.bound b off hX;omega
  .rw[hb.block b (Bo7 q hs.size)];exact hs.same b q hE
  obtain⟨j,o,a,d⟩:=d;obtain⟨rfl,rfl⟩:=hR j o a;exact .inr (Bq1 hs.size (l b d).1)
 rcases hv with⟨rfl,_⟩ | ⟨b,cap,c,rfl,_⟩
 .exact .vec 0 none 0 0 (by simp[Lv,z]) rfl
 exact .vec 0 _ n cap (by simp[Lv,z]) rfl
end Go.AM
namespace Go.AM
open Go.RowKit Go.ChangeShapes
end Go.AM
namespace Go.AM
section
variable {S:U3}{P:Program}{F:K6}{K:List It}{st:St}{g:Cfg}{pr:Prop}
def AV6 (p:Option PV)(r:Nd):Prop:=match p with
 |none=>∃a,r=.ret a
 |some x=>r=.panic x
def NK (S:U3)(f:FuncId)(first caps:List AV)(objs:List Obj)(L:List (List PV))(p:Option PV):Prop:= S.F f (first ++ .yf objs.length::caps) (objs++[.yld L true]) fun r objs' ks=>∃b,objs'[objs.length]? = some (.yld [] b)/\ks[objs.length]? = some true/\(b=true->AV6 p r)/\(b=false->∃a,r=.ret a)
def endP:Option PV->Nc
 |none=>.normal
 |some x=>.panic x
theorem AH4 (hS:H2 S P){g:Operand}{ps:Array Tmp}{asg body:Code}{f:FuncId}{first caps as bs:List AV}{objs:List Obj}(ids ts:List Nat)(gh:Nat)(L:List (List PV)){p:Option PV}{X:Type}(s:X->St)(J:List (List PV)->X->Prop)(x0:X)(idl:List (Nat×Nat))
 (hp:En st.env g=some (f,first,caps)) (n:∃fn,P.funcs[f]? = some fn/\fn.body.isSome=true/\(fn.name == "runtime.NumGoroutine")=false) (q:L0 ids st.regs ids=some objs) (t:DP objs=true) (hd:H5 ids=true) (u:CO ids first=some as) (v:CO ids caps=some bs) (w:objs.length=ids.length)
 (z:gh<1000) (a0:A2 st.regs gh=none) (a1:ids.length<1000) (a2:H5 ts=true) (d:∀ys∈L,ys.length=ps.size)
 (hF:NK S f as bs objs L p) (hle:Le idl ⟨Z0 ts (ts.map (get st.env)),N8 ids (ids.map fun _=>false) st.regs⟩ (s x0)) (h0:J L x0) (hk:∀x,(s x).env.map (·.1)=ts) (hn:∀x,A2 (s x).regs gh=none)
 (c:∀ys rest x,J (ys::rest) x->G S P (BG S P body gh ts (AF0 s J rest) (kp S P K F)) (.code asg [] ⟨Ji ps.toList ys (s x).env,ins gh (.ghost ((s x).env.map (·.2))) (s x).regs⟩))
 (i:∀x,J [] x->G S P F (.pop (endP p) K (s x))):G S P F (.code (.rangeFunc g ps asg body) K st):=by
 have j:∀{l:List Nat},H5 l=true->l.Nodup:=by
  intro l
  induction l with
  |nil=>intro _;exact Bv6
  |cons a r ih=>intro h;simp only[H5,Bm8,Bp6,Br3,decide_eq_false_iff_not]at h;exact Bs3.2 ⟨h.1,ih h.2⟩
 refine⟨f,first,caps,as,bs,objs,ids,ts,gh,L,AF0 s J,fun b r=>b=true->AV6 p r,hp,n,t,hd,u,v,q,z,a0,a1,j a2,d,hS.le idl _ _ _ hle ⟨hk x0,hn x0,x0,rfl,h0⟩,?_,?_,?_⟩
 .rintro ys rest _ _ _ ⟨x,rfl,hJ⟩;have h:=c ys rest x hJ;have e:BG S P body gh ts (AF0 s J rest) (kp S P K F)=fun e s'=>match e with
   |.normal=>S.up s' fun s'=>awp S P body (Dt S gh ts (AF0 s J rest) (kp S P K F)) s'
   |_=>False:=by funext e s';cases e<;>rfl
  rw[e]at h;exact h
 .rintro _ r _ _ ⟨x,rfl,hJ⟩ hf;have h1:=hf rfl;have m:=i x hJ;cases p with
  |none=>obtain⟨a,rfl⟩:=h1;exact m
  |some y=>cases h1;exact m
 rw[<- w];refine hS.monoF _ _ _ _ _ ?_ hF;rintro r o ks ⟨b,h1,m,h3,h4⟩;exact⟨b,h1,m,h3,h4⟩
theorem AH5 (hS:H2 S P){g:Operand}{ps:Array Tmp}{asg body:Code}{f:FuncId}{first caps as bs:List AV}{objs:List Obj}{R T A:Type}{enc:T->List PV}{L:List T}{p:Option PV}{mb:(A->Option R)->T->A->Option R}{mk:A->Option R}{a0:A}{r:R}
 (ids ts:List Nat) (gh:Nat) (s:A->St) (idl:List (Nat×Nat)) (h:Q5 L mb mk a0=some r) (y:NK S f as bs objs (L.map enc) p)
 (hp:En st.env g=some (f,first,caps)) (j:∃fn,P.funcs[f]? = some fn/\fn.body.isSome=true/\(fn.name == "runtime.NumGoroutine")=false) (l:L0 ids st.regs ids=some objs) (m:DP objs=true) (z:H5 ids=true) (n:CO ids first=some as) (o:CO ids caps=some bs) (q:objs.length=ids.length)
 (u:Nat.blt gh 1000=true) (v:A2 st.regs gh=none) (w:Nat.blt ids.length 1000=true) (x:H5 ts=true) (d:∀t:T,(enc t).length=ps.size)
 (hle:Le idl ⟨Z0 ts (ts.map (get st.env)),N8 ids (ids.map fun _=>false) st.regs⟩ (s a0)) (hk:∀a,(s a).env.map (·.1)=ts) (hn:∀a,A2 (s a).regs gh=none)
 (b:∀(t:T) (next:St->Prop) (c:A->Option R) (a:A),(∀(st st1:St) (cs:List AV) (idl:List (Nat×Nat)) (a:A),Le idl st st1->A2 st1.regs gh=some (.ghost cs)->cs.length=ts.length->A2 (del gh st1.regs) gh=none->(⟨Z0 ts cs,del gh st1.regs⟩:St)=s a->c a=some r->G S P (Dt S gh ts next (kp S P K F)) (.pop .normal [] st)) ->
  mb c t a=some r->G S P (BG S P body gh ts next (kp S P K F)) (.code asg [] ⟨Ji ps.toList (enc t) (s a).env,ins gh (.ghost ((s a).env.map (·.2))) (s a).regs⟩))
 (i:∀a,mk a=some r->G S P F (.pop (endP p) K (s a))):G S P F (.code (.rangeFunc g ps asg body) K st):=by
 refine AH4 hS ids ts gh (L.map enc) s (fun rest a=>∃L',rest=L'.map enc/\Q5 L' mb mk a=some r) a0 idl hp j l m z n o q (by simpa[Bx7]using u) v (by simpa[Bx7]using w) x (fun ys hy=>?_) y hle ⟨L,rfl,h⟩ hk hn ?_ ?_
 .obtain⟨t,_,rfl⟩:=Bp0.1 hy;exact d t
 .rintro ys rest a ⟨L',hL,hx⟩;cases L' with
  |nil=>cases hL
  |cons t L'=>simp only[Bp8,Bt8]at hL;obtain⟨rfl,rfl⟩:=hL;refine b t _ (Q5 L' mb mk) a (fun st st1 cs idl a hle h1 h2 h3 h4 h5=>?_) hx;exact Xi hS st1 a idl hle h1 h2 h3 h4 ⟨L',rfl,h5⟩
 rintro a ⟨L',hL,hx⟩;cases L' with
 |nil=>exact i a hx
 |cons t L'=>cases hL
theorem ZA (hS:H2 S P)(hc:pr){f:FuncId}{as bs:List AV}{objs:List Obj}{R T A:Type}{enc:T->List PV}{L:List T}{p:Option PV}{mb:(A->Option R)->T->A->Option R}{mk:A->Option R}{a0:A}{r:R}
 (ids ts:List Nat) (gh:Nat) (s:A->St) {idl:List (Nat×Nat)}(h:Q5 L mb mk a0=some r) (x:NK S f as bs objs (L.map enc) p)
 (i:∀t:T,(enc t).length=(HQ (stp P g)).size) (hk:∀a,(s a).env.map (·.1)=ts) (hn:∀a,A2 (s a).regs gh=none) (m:∀a,(⟨Z0 ts ((s a).env.map (·.2)),del gh (ins gh (.ghost ((s a).env.map (·.2))) (s a).regs)⟩:St)=s a)
 (c:∀(t:T) (next:St->Prop) (d:A->Option R) (a:A),
  (∀(g' : Cfg) (ids:List (Nat×Nat)) (pr:Prop) (a:A),pr->d a=some r->(hp:pr=E5 (cnd P g'):=by kernel_rfl)->(b:stp P g' = .pop .normal [] (stp P g').st:=by kernel_rfl)->(hle:KLe ids (stp P g').st (rst gh (s a)):=by exact kl)->KG S P (Dt S gh ts next (kp S P (stp P g).k F)) g') ->
  mb d t a=some r->KG S P (BG S P (UK (stp P g)) gh ts next (kp S P (stp P g).k F)) (.code (UJ (stp P g)) [] (UM gh (HQ (stp P g)) (enc t) (s a))))
 (j:∀a,mk a=some r->KG S P F (.pop (endP p) (stp P g).k (s a)))
 (hp:pr=E5 (cnd P g):=by kernel_rfl) (b:UI P ids (stp P g)=some (f,as,bs,objs):=by kernel_rfl) (o:Nat.blt gh 1000=true:=by kernel_rfl) (n:A2 (stp P g).st.regs gh=none:=by kernel_rfl) (q:H5 ts=true:=by kernel_rfl)
 (hle:KLe idl (UL ids ts (stp P g)) (s a0):=by exact kl):KG S P F g:=by
 refine⟨EY hS hc ?_ hp⟩;have u:=(Ht b).2;replace b:=(Ht b).1;generalize stp P g=g1 at i c j b n hle;unfold NI at b;split at b
 .rename_i op ps asg body K st;split at b
  .rename_i f' first caps v
   split at b
   .rename_i objs' as' bs' y z h4;split at b
    .rename_i w;simp only[Bm4,Bn4]at b;obtain⟨rfl,rfl,rfl,rfl⟩:=b;simp only[Bm8,Bp6,beq_iff_eq]at w;obtain⟨⟨⟨e3,e4⟩,e5⟩,e6⟩:=w;refine AH5 hS ids ts gh s idl h x v u y e3 e4 z h4 e5 o n e6 q i hle.out hk hn (fun t next d a hb hm=>?_) (fun a hm=>(j a hm).out);refine (c t next d a (fun g' ids' pr a hc l hp b hle=>⟨EY hS hc ?_ hp⟩) hm).out;rw[b];have hl:((s a).env.map (·.2)).length=ts.length:=by rw[<- hk a];simp
     refine hb _ (rst gh (s a)) ((s a).env.map fun p=>p.2) ids' a hle.out (GE gh (s a)) hl ?_ (m a) l
     have:=congrArg St.regs (m a)
     simp only at this;show A2 (del gh (ins gh _ _)) gh=none;rw[this];exact hn a
    cases b
   cases b
  cases b
 cases b
theorem As6 (hS:H2 S P){f:FuncId}{fn:Func}{first caps:List AV}{objs:List Obj}{L:List (List PV)}{p:Option PV}(i:P.funcs[f]? = some fn)
 (h:KG S P (Cw S P (objs++[Obj.yld L true]).length fn.results.toList fun r objs' ks=>∃b,objs'[objs.length]? = some (.yld [] b)/\ks[objs.length]? = some true/\(b=true->AV6 p r)/\(b=false->∃a,r=.ret a)) (.code (fn.body.getD .skip) [] { env:=argEnv (first ++ .yf objs.length::caps),regs:=objRegs (objs++[Obj.yld L true]) }))
 (hc:fn.body.isSome=true:=by kernel_rfl) (hn:Nat.ble (first ++ .yf objs.length::caps).length fn.ntmps=true:=by kernel_rfl) (j:Nat.blt (objs++[Obj.yld L true]).length 1000=true:=by kernel_rfl)
 (d:AO fn.ntmps (fn.body.getD .skip)=true:=by kernel_rfl) (g:(fn.name == "runtime.NumGoroutine")=false:=by kernel_rfl):NK S f first caps objs L p:=by
 obtain⟨code,c⟩:=Bo5.1 hc;rw[c,Bn3]at d h;exact KH hS i c (Bs7 hn) (by simpa[Bx7]using j) rfl d g h.out
theorem AH6 (hS:H2 S P){f:FuncId}{fn:Func}{args:List AV}{objs:List Obj}{Q:Nd->List Obj->List Bool->Prop}(d:P.funcs[f]? = some fn)
 (h:KG S P (Cw S P objs.length fn.results.toList Q) (.code (fn.body.getD .skip) [] { env:=argEnv args,regs:=objRegs objs }))
 (hc:fn.body.isSome=true:=by kernel_rfl) (hn:Nat.ble args.length fn.ntmps=true:=by kernel_rfl) (g:Nat.blt objs.length 1000=true:=by kernel_rfl)
 (b:AO fn.ntmps (fn.body.getD .skip)=true:=by kernel_rfl) (c:(fn.name == "runtime.NumGoroutine")=false:=by kernel_rfl):S.F f args objs Q:=by
 obtain⟨code,a⟩:=Bo5.1 hc;rw[a,Bn3]at b h;exact KH hS d a (Bs7 hn) (by simpa[Bx7]using g) rfl b c h.out
def panE:Cfg->Option PV
 |.ops all (o::_) _ st=>match BV all st.env o,o.op with
  |some true,.panic x=>match aev st.env x with
   |.p (.iface t y)=>some (.iface t y)
   |_=>none
  |_,_=>none
 |_=>none
def panC (x:PV):Cfg->Cfg
 |.ops _ _ K st=>.pop (.panic x) K st
 |g=>g
theorem AV7 (hS:H2 S P)(hc:pr){x:PV}(hk:KG S P F (panC x (stp P g)))(hp:pr=E5 (cnd P g):=by kernel_rfl)(a:panE (stp P g)=some x:=by kernel_rfl):KG S P F g:=by
 refine⟨EY hS hc ?_ hp⟩;have hk:=hk.out;generalize stp P g=g1 at hk a;unfold panE at a;split at a
 .rename_i all o rest K st;split at a
  .rename_i y b c;split at a
   .rename_i t z hx;cases a;exact AT5 hS b c hx hk
   cases a
  cases a
 cases a
def AH7:Cfg->Option PV
 |.pop (.panic x) [] _=>some x
 |_=>none
theorem AO0 (hS:H2 S P)(hc:pr){n:Nat}{rs:List ResultVar}{Q:Nd->List Obj->List Bool->Prop}{x:PV}{objs:List Obj}(outs:List Nat)(c:Q (.panic x) objs (FU n outs))(hp:pr=E5 (cnd P g):=by kernel_rfl)
 (a:AH7 (stp P g)=some x:=by kernel_rfl) (d:H5 outs=true:=by kernel_rfl) (b:L0 outs (stp P g).st.regs outs=some objs:=by kernel_rfl):KG S P (Cw S P n rs Q) g:=by
 refine⟨EY hS hc ?_ hp⟩;generalize stp P g=g1 at a b;unfold AH7 at a;split at a
 .cases a;exact⟨outs,objs,d,b,c⟩
 cases a
theorem AV8 (hS:H2 S P){all rest:List Oper}{o:Oper}{c:Call}{f:Operand}{as:List AV}{regs:D8}{fn:FuncId}{as' args:List AV}{objs objs' : List Obj}{ks:List Bool}{x:PV}(ids:List Nat)
 (d:BV all st.env o=some true) (g:o.op=.call c) (b:c.callee=.value f) (ha:ON st.regs (c.args.toList.map (aev st.env))=some (as,regs))
 (hw:TV st.env f as=some (fn,as')) (i:CO ids as' = some args) (a:L0 ids regs ids=some objs) (j:S.F fn args objs fun res o k=>res=.panic x/\o=objs' /\ k=ks)
 (l:H5 ids=true) (hy:DP objs=true) (hn:BA regs ids ks (o.dst.getD 0) objs'.length=true)
 (hk:G S P F (.pop (.panic x) K { env:=st.env,regs:=TU (J6 (o.dst.getD 0) ids ks objs'.length) (J6 (o.dst.getD 0) ids ks objs'.length) objs' (N8 ids ks regs) })) :
 G S P F (.ops all (o::rest) K st):=by
 refine Du hS d ?_;unfold wOp;obtain⟨callee,cargs,types⟩:=c;simp only at b ha;subst b;rw[g];refine .inl ⟨as,regs,_,_,.inl ha,hw,ids,args,objs,l,i,a,hy,hS.monoF _ _ _ _ _ ?_ j⟩;rintro _ _ _ ⟨rfl,rfl,rfl⟩;exact⟨hn,hk⟩
def AO1 (ids:List Nat)(ks:List Bool)(x:PV)(objs' : List Obj):Cfg->Cfg
 |.ops all (o::rest) K st=>match o.op with
  |.call c=>match ON st.regs (c.args.toList.map (aev st.env))with
   |some (_,regs)=>mkO st.env (TU (J6 (o.dst.getD 0) ids ks objs'.length) (J6 (o.dst.getD 0) ids ks objs'.length) objs' (N8 ids ks regs)) fun env regs=>.pop (.panic x) K ⟨env,regs⟩
   |none=>.ops all (o::rest) K st
  |_=>.ops all (o::rest) K st
 |g=>g
theorem AV9 (hS:H2 S P)(ids:List Nat)(hc:pr){fn:FuncId}{args:List AV}{objs objs' : List Obj}{x:PV}{ks:List Bool}(i:S.F fn args objs fun res o k=>res=.panic x/\o=objs' /\ k=ks)
 (hk:KG S P F (AO1 ids ks x objs' (stp P g))) (hp:pr=E5 (cnd P g):=by kernel_rfl) (a:Ah4 ids (stp P g)=some (fn,args,objs):=by kernel_rfl) (hn:Ah5 ids ks objs'.length (stp P g)=true:=by kernel_rfl):KG S P F g:=by
 refine⟨EY hS hc ?_ hp⟩;replace hk:=hk.out;generalize stp P g=g' at a hn hk;unfold Ah4 at a;split at a
 .split at a
  .rename_i j f;split at a
   .rename_i c;split at a
    .rename_i ha;split at a
     .rename_i hw;split at a
      .rename_i l d;split at a
       .rename_i b;cases a;simp only[Bm8]at b;simp only[AO1,Ah5,f,ha,EB]at hk hn;exact AV8 hS ids j f c ha hw l d i b.1 b.2 hn hk
       cases a
      cases a
     cases a
    cases a
   cases a
  cases a
 cases a
def QG (S:U3)(R:St->Prop)(X:PV->St->Prop):K6
 |.normal,st=>S.up st R
 |.panic x,st=>X x st
 |_,_=>False
theorem K_upN (hS:H2 S P)(hc:pr){R:St->Prop}{X:PV->St->Prop}(st:St){ids:List (Nat×Nat)}(hR:R st)(hp:pr=E5 (cnd P g):=by kernel_rfl)(a:stp P g=.pop .normal [] (stp P g).st:=by kernel_rfl)
 (hle:KLe ids (stp P g).st st:=by exact kl):KG S P (QG S R X) g:=by
 refine⟨EY hS hc ?_ hp⟩;rw[a];exact hS.le ids _ _ R hle.out hR
theorem K_upP (hS:H2 S P)(hc:pr){R:St->Prop}{X:PV->St->Prop}{x:PV}(b:X x (stp P g).st)(hp:pr=E5 (cnd P g):=by kernel_rfl)(a:AH7 (stp P g)=some x:=by kernel_rfl):KG S P (QG S R X) g:=by
 refine⟨EY hS hc ?_ hp⟩;generalize stp P g=g1 at a b;unfold AH7 at a;split at a
 .cases a;exact b
 cases a
end
end Go.AM
namespace Go.AM
section
variable {S:U3}{P:Program}{F:K6}{K:List It}{g:Cfg}{pr:Prop}
end
end Go.AM
namespace Go.AM
open Go.RowKit Go.ChangeShapes Go.Deep
mutual
inductive LeD:PV->PV->Prop
 |refl (x:PV):LeD x x
 |sl {k n:Nat}{f g:Nat->List PV}(h:∀i,i<n->LeDs (f i) (g i)):LeD (.sl false k n f) (.sl false k n g)
inductive LeDs:List PV->List PV->Prop
 |nil:LeDs [] []
 |cons {x y:PV}{l r:List PV}(h:LeD x y) (h' : LeDs l r):LeDs (x::l) (y::r)
end
theorem LeDs.refl:∀l:List PV,LeDs l l
 |[]=>.nil
 |x::l=>.cons (.refl x) (LeDs.refl l)
theorem LeDs.length {l r:List PV}(h:LeDs l r):l.length=r.length:=by
 induction l generalizing r with
 |nil=>cases h;rfl
 |cons x l ih=>cases h with|cons _ h'=>simp[ih h']
theorem LeDs.get {l r:List PV}(h:LeDs l r):∀i,LeD (l.getD i default) (r.getD i default):=by
 induction l generalizing r with
 |nil=>cases h;exact fun i=>.refl _
 |cons x l ih=>
  cases h with
  |cons h h'=>
   intro i;cases i with
   |zero=>exact h
   |succ i=>simpa using ih h' i
theorem LeDs.append {a b c d:List PV}(h:LeDs a b)(h' : LeDs c d):LeDs (a++c) (b++d):=by
 induction a generalizing b with
 |nil=>cases h;exact h'
 |cons x l ih=>cases h with|cons h1 h2=>exact .cons h1 (ih h2)
theorem RepP.leD {w:World}{Pi:Nat->Nat->Prop}{v:Value}{x:PV}(h:RepP w Pi v x):∀{y:PV},LeD x y->RepP w Pi v y:=by
 induction h with
 |slnil k f=>intro y hy;cases hy with
  |refl=>exact .slnil _ _
  |sl h=>exact .slnil _ _
 |sl nn b off cap k n f c hn hk hc h sp hsp ih=>
  intro y hy;cases hy with
  |refl=>exact .sl nn b off cap k n f c hn hk hc h sp hsp
  |sl h'=>exact .sl false b off cap k n _ c hn (fun i d=>by rw[<- (h' i d).length];exact hk i d) hc (fun i j d g=>ih i j d g ((h' i d).get j)) sp hsp
 |v x=>intro y hy;cases hy;exact .v x
 |bb b=>intro y hy;cases hy;exact .bb b
 |str l=>intro y hy;cases hy;exact .str l
 |agg vs cs hs h1 h ih=>intro y hy;cases hy;exact .agg vs cs hs h1 h
 |ptr b off cs c hc h ih=>intro y hy;cases hy;exact .ptr b off cs c hc h
 |iface t x a h ih=>intro y hy;cases hy;exact .iface t x a h
 |fn f x y a b hx hy ha hb iha ihb=>intro y hy;cases hy;exact .fn f x _ a b hx ‹_› ha hb
theorem CRep.leD {W:World}{cs:List Value}{p q:List PV}(h:CRep W cs p)(hl:LeDs p q):CRep W cs q:=
 ⟨by rw[h.1,hl.length],fun i a=>⟨(h.2 i (by rw[hl.length];exact a)).1.leD (hl.get i),(h.2 i (by rw[hl.length];exact a)).2⟩⟩
section
variable {P:Program}{t e:TypeId}{m:Nat}{pvs:List PV}
def DT (f:Nat->Nat):Nat->Nat
 |0=>0
 |k+1=>DT f k+f k
theorem AW0 (f:Nat->Nat){k n:Nat}(h:k<=n):DT f k<=DT f n:=by
 induction h with
 |refl=>exact Bm9 _
 |step _ ih=>simp only[DT];omega
theorem NL (f:Nat->Nat){k n:Nat}(h:k<n):f k<=DT f n:=by
 have:=AW0 f (show k+1<=n from h)
 simp only[DT]at this;omega
theorem UO {f g:Nat->Nat}:∀{n:Nat},(∀i,i<n->f i<=g i)->DT f n<=DT g n
 |0,_=>Bm9 _
 |n+1,h=>by have h1:=UO (n:=n) fun i a=>h i (by omega);have b:=h n (by omega);simp only[DT];omega
theorem QH (f:Nat->Nat):∀n,We ((List.range n).map f)=DT f n:=by
 have app:∀a b:List Nat,We (a++b)=We a+We b:=by
  intro a b
  induction a with
  |nil=>simp[We]
  |cons x r ih=>simp only[Bq9,UC,ih];omega
 intro n
 induction n with
 |zero=>rfl
 |succ n ih=>rw[Bu3,Bs4,app,ih];simp[DT,We]
def IY (P:Program)(t:TypeId){T:Type}(c:T->List PV)(W:T->Prop)(sz:T->Nat):Prop:= ∀(m:Nat) (pvs:List PV),IA P m t pvs->∃x:T,LeDs pvs (c x)/\W x/\sz x<=m
theorem K9 {k:IntKind}(ht:P.underlying t=some (.int k)):IY P t (cI k) (fun n=>(Lit.int k n).wf=true) (fun _=>1):=by
 intro m pvs h;cases h with
 |bool ht'=>rw[ht]at ht';cases ht'
 |str ht'=>rw[ht]at ht';cases ht'
 |slice _ ht'=>rw[ht]at ht';cases ht'
 |arr ht'=>rw[ht]at ht';cases ht'
 |struct ht'=>rw[ht]at ht';cases ht'
 |int ht' hw hm=>rw[ht]at ht';cases ht';exact⟨_,LeDs.refl _,hw,hm⟩
theorem QI (ht:P.underlying t=some .bool):IY P t cB (fun _=>True) (fun _=>1):=by
 intro m pvs h;cases h with
 |int ht'=>rw[ht]at ht';cases ht'
 |str ht'=>rw[ht]at ht';cases ht'
 |slice _ ht'=>rw[ht]at ht';cases ht'
 |arr ht'=>rw[ht]at ht';cases ht'
 |struct ht'=>rw[ht]at ht';cases ht'
 |bool ht' hm=>exact⟨_,LeDs.refl _,trivial,hm⟩
theorem NM (ht:P.underlying t=some .string):IY P t cS (fun _=>True) (fun l=>l.length+1):=by
 intro m pvs h;cases h with
 |int ht'=>rw[ht]at ht';cases ht'
 |bool ht'=>rw[ht]at ht';cases ht'
 |slice _ ht'=>rw[ht]at ht';cases ht'
 |arr ht'=>rw[ht]at ht';cases ht'
 |struct ht'=>rw[ht]at ht';cases ht'
 |str ht' hm=>exact⟨_,LeDs.refl _,trivial,hm⟩
theorem M9 {T:Type}[Inhabited T]{c:T->List PV}{W:T->Prop}{sz:T->Nat}{k:Nat}(ht:P.underlying t=some (.slice e))(hk:P.cellsOf e=k)(h:IY P e c W sz) :IY P t (cL k c) (fun s=>∀i,i<s.n->W (s.g i)) (fun s=>DT (fun i=>sz (s.g i)) s.n+1):=by
 intro m pvs hs;cases hs with
 |int ht'=>rw[ht]at ht';cases ht'
 |bool ht'=>rw[ht]at ht';cases ht'
 |str ht'=>rw[ht]at ht';cases ht'
 |arr ht'=>rw[ht]at ht';cases ht'
 |struct ht'=>rw[ht]at ht';cases ht'
 | @slice _ _ e' n f ms ht' hl hel hm=>
  rw[ht]at ht';cases ht';obtain⟨g,b⟩:=choose_lt (α:=T) (p:=fun i x=>LeDs (f i) (c x)/\W x/\sz x<=ms i) fun i a=>h _ _ (hel i a);refine⟨⟨n,g⟩,?_,fun i a=>(b i a).2.1,?_⟩
  .subst hk;exact .cons (.sl fun i a=>(b i a).1) .nil
  have h1:=UO (n:=n) fun i a=>(b i a).2.2;rw[QH]at hm;show DT (fun i=>sz (g i)) n+1<=m;omega
theorem R9 {fs:Array Field}(ht:P.underlying t=some (.struct fs))(h:IA P m t pvs):∃m',GA P m' (fs.toList.map (·.type)) pvs/\m' + 1<=m:=by
 cases h with
 |int ht'=>rw[ht]at ht';cases ht'
 |bool ht'=>rw[ht]at ht';cases ht'
 |str ht'=>rw[ht]at ht';cases ht'
 |slice _ ht'=>rw[ht]at ht';cases ht'
 |arr ht'=>rw[ht]at ht';cases ht'
 |struct ht' h hm=>rw[ht]at ht';cases ht';exact⟨_,h,hm⟩
theorem D0 {ts:List TypeId}(h:GA P m (t::ts) pvs):∃a b p q,pvs=p++q/\IA P a t p/\GA P b ts q/\a+b<=m:=by
 cases h with
 |cons h h' hm=>exact⟨_,_,_,_,rfl,h,h',hm⟩
theorem Ag (h:GA P m [] pvs):pvs=[]:=by cases h;rfl
end
end Go.AM
