/- What a law's walk and its plain proof need, part 3: no condition of its own. -/
import Derived.Test.YtfcfdofmgkpmbaaGreatDoorLB
import Derived.Test.YtfcfdofmgkpmbaaGreatDoorLA
import Derived.ProofKit
import Derived.WideKeyArgs
import Derived.Deep.Slices
import Derived.OpenShut
set_option linter.unusedSimpArgs false
set_option linter.unusedVariables false
set_option linter.unusedSectionVars false
namespace Go.AM
section
variable {P:Program}{C:Ctx}{st:St}{a:Act}{w:World}{rho:Nat->Value}{𝒢 : Prot P}{n:Nat}
theorem TA {t:TypeId}{m:String}{f:FuncId}(hm:Oz P t m=some f)(x:Value):(method (P.types.size+Made.depth) t x m).run P w=.ok (f,x) w:=by
 unfold Oz at hm;split at hm
 ·rename_i i d hi hu;split at hm
  ·cases hm
  ·rename_i hnp;split at hm
   ·rename_i q hq;split at hm
    ·rename_i f' hp hf;cases hm;show (method (P.types.size+99+1) t x m).run P w=_;generalize P.types.size+99=fuel;have hp' : q.path = #[]:=by simpa using hp
     cases d<;>first
      |exact absurd rfl (hnp _)
      |simp[method,Ae0 w hi,hq,hp,hf,follow,receiverAt,AA w hu,Place.get]
    ·cases hm
   ·cases hm
 ·cases hm
theorem QH (a:Act)(d:Option Nat)(v:Value):(a.put d v).tmps.size=a.tmps.size:=by cases d<;>simp[Act.put]
theorem Sr {o:Oper}{k:St->Prop}{Q:H6}(hG : 𝒢.G C)(h:Sat C st a w rho)(hsz:a.tmps.size=n)(hd:∀t,o.dst=some t->t<n)(hw:wOp (Ft P) P o k Q st){ro:Option Nat}{next:Act->World->Prop}{Q' : Exit->Act->World->Prop}
 (hk:∀a w,NextOk 𝒢 n k a w->next a w) (hq:∀chain a w,PanicOk 𝒢 n Q chain a w->Q' (.panic chain) a w):o.wpIn (FW ro) 0 P a w next Q':=by
 refine⟨fun f _=>trivial,?_⟩;have hdef:∀c,o.op ≠ .defer c:=by intro c he;simp[wOp,he,aop,Oy]at hw
 have hsem:o.semAt ro a.eval=execOp a.eval o:=Oper.semAt_eq _ _ _ hdef;have hput:∀t,o.dst=some t->t<a.tmps.size:=fun t ht=>by rw[hsz];exact hd t ht
 show o.uponIn (FW ro) 0 P a next Q' ((o.semAt ro a.eval).run P w)
 unfold wOp at hw;split at hw
 ·rename_i f args types he;rcases hw with⟨as,regs,f',as',ha,hwh,ids,hc⟩ | ⟨j,xs,regs,ys,rest,hf,hvs,hj,honly,hle,hk'⟩
  ·obtain⟨g1,g2,g3,g4⟩:=QF h ha;have hv:RepV w (Prv C.X (A1 regs) rho) (Lv (A1 regs)) rho (args.map a.eval) as:=
    ⟨by simp[g3],fun i hi=>by rw[Jt (by omega)];exact g4 i _ (List.getElem?_eq_getElem (by omega))⟩
   obtain⟨x,y,hx,hvv⟩:=Tz h hwh g2 hv;have hcf:=Js hG g1 hsz hc hvv.1 hvv.2;refine OX hd hk hq hG hsz ?_ hcf;rw[hsem];simp[execOp,he,resolve,Deferred.ofValue,hx,invoke]
  ·obtain⟨g1,g2,g3,g4,_⟩:=DD args.toList st xs regs h hvs;have hyf:=g2.av (h.aev f);rw[hf]at hyf;obtain⟨hY,hyv⟩:=g1.yld j _ _ hj;obtain⟨hl,hrep⟩:=Sq (w:=w) (Pi:=Prv C.X (A1 regs) rho) hle;have hcall:=𝒢.call C w _ _ ys rest (args.map a.eval) hG g1.rel hY (by simp;rw[<- hl,g3];simp) (fun i hi=>by rw[Jt (by omega)];exact hrep i (by omega) _ (g4 i _ (List.getElem?_eq_getElem (by omega))))
   obtain⟨l,fn,tmps,assign,body,h1,h2,h3⟩:=hcall;have hfv:a.eval f=.func (.yield l) #[] #[]:=by
    generalize a.eval f=v at hyf;cases hyf with
    |yf _ l' hlv hr=>have hr' : rho j=.func (.yield l') #[] #[]:=hr;rw[hyv,h1]at hr';cases hr';rfl
   have hrun:(o.semAt ro a.eval).run P w=.ok (.round l fn tmps assign body) w:=by rw[hsem];simp[execOp,he,resolve,Deferred.ofValue,hfv,invoke,h2]
   rw[hrun,Oper.uponIn_round];refine⟨fun h=>by simp[FW,Fence.wide]at h,(Ty h3).mono ?_⟩;rintro e w' ⟨b,rfl,C',hG',hyv',hrho',hY',hw0,hE,hPi,hR,hsame,hkeep,_⟩;have hs:=g1.yielded hj hY' hyv' hrho' hw0 hE hPi hR hsame hkeep (Ig honly);exact hk _ _ ⟨C',_,rho,hG',hs.put (x:=.p (.bb b)) (.p _ _ (.bb b)) hput,by rw[QH,hsz],hk' b⟩
 ·rename_i r m args types he;obtain⟨as,regs,t,y,f',ha,hr,hm,ids,hc⟩:=hw;obtain⟨g1,g2,g3,g4⟩:=HG args.toList st as regs h ha;have hv:RepV w (Prv C.X (A1 regs) rho) (Lv (A1 regs)) rho (args.map a.eval) as:=
   ⟨by simp[g3],fun i hi=>by rw[Jt (by omega)];exact g4 i _ (List.getElem?_eq_getElem (by omega))⟩
  have hrv:=g2.av (h.aev r);rw[hr]at hrv;have hrv:=hrv.toP;obtain⟨x,hx,hxr⟩:∃x,a.eval r=.iface t x/\RepP w (Prv C.X (A1 regs) rho) x y:=by
   generalize a.eval r=v at hrv;cases hrv with
   |iface _ x _ hx=>exact⟨x,rfl,hx⟩
  have hvv:RepV w (Prv C.X (A1 regs) rho) (Lv (A1 regs)) rho (#[x]++args.map a.eval) (.p y::as):=
   RepV.append (vs:=#[x]) (l:=[.p y]) ⟨rfl,fun i hi=>by
    simp only[List.length_singleton]at hi;obtain rfl:i=0:=by omega
    exact .p _ _ hxr⟩ hv
  have hcf:=Js hG g1 hsz hc hvv.1 hvv.2;refine OX hd hk hq hG hsz ?_ hcf;rw[hsem];have e0:(#[Value.iface t x]++args.map a.eval)[0]? = some (.iface t x):=by simp[Array.getElem?_append]
  have e1:(args.map a.eval).extract 0 args.size=args.map a.eval:=by
   have:=Array.extract_size (xs:=args.map a.eval)
   rwa [Array.size_map]at this
  simp[execOp,he,resolve,invoke,hx,callMethod,e0,e1,TA hm]
 ·rename_i x he;obtain⟨t,y,hx,hQ⟩:=hw;have hxr:=h.aev x;rw[hx]at hxr;have hxr:=hxr.toP;obtain⟨v,hv⟩:∃v,a.eval x=.iface t v:=by
   generalize a.eval x=z at hxr;cases hxr with
   |iface _ v _ _=>exact⟨v,rfl⟩
  have hrun:(o.semAt ro a.eval).run P w=.halt (.panic (.iface t v)) w:=by rw[hsem];simp[execOp,he,Instr.panic,hv,goPanic,Result.andThen]
  rw[hrun,Oper.uponIn_panic];exact hq _ _ _ ⟨C,st,rho,_,_,rfl,hG,h,hsz,by rw[<- hv];exact hxr,hQ⟩
 ·have hw2:∃out,OpOk P C o st a w rho out/\k (AM.put { st with regs:=out.regs } o.dst out.val):=by
   rcases hw with⟨out,ha,hc,hk'⟩ | ⟨c,x,ha,hc,hk'⟩
   ·exact⟨out,VA h ha hc,hk'⟩
   ·exact⟨⟨c,.p x,st.regs⟩,Tu h ha hc,hk'⟩
  obtain⟨out,⟨nx,v,w',rho',h1,h2,h3,_,h5⟩,hk'⟩:=hw2;have hfin:next (a.put o.dst v) w':=hk _ _ ⟨C,_,rho',hG,h3.put h5 hput,by rw[QH,hsz],hk'⟩
  rw[hsem,h1];rcases h2 with rfl|⟨rfl,rfl⟩
  ·rw[Oper.uponIn_value];exact hfin
  ·rw[Oper.uponIn_skip];exact hfin
theorem NextOk.up {K:St->Prop}{a:Act}{w:World}(hG : 𝒢.G C)(h:Sat C st a w rho)(hsz:a.tmps.size=n)(hu:semUp st K):NextOk 𝒢 n K a w:=
 let ⟨st',rho',hK,_,hs⟩:=hu C a w rho h
 ⟨C,st',rho',hG,hs,hsz,hK⟩
theorem TB (h:Sat C st a w rho)(hsz:a.tmps.size=n){ops:Array Oper}{j:Nat}{o' : Oper}{d:Nat}(ho:ops[j]? = some o')(hdst:o'.dst=some d)(hdn:d<n){b:Option Bool}(hy:yv (get st.env (Ep ops.toList j))=some b):yielded ops a.tmps j=b:=by
 have hj:Ep ops.toList j=d:=by simp[Ep,ho,hdst]
 rw[hj]at hy;have hr:=h.env d;have ht:a.tmps[d]? = some (a.tmps.getD d undef):=by
  have:d<a.tmps.size:=by omega
  simp[Array.getD_eq_getD_getElem?,this]
 unfold yielded;simp only[ho,hdst,Option.bind_some,ht];unfold yv at hy;split at hy
 ·rename_i x hx;cases hy;rw[hx]at hr;rw[hr.toP.toV]
 ·rename_i x hx;cases hy;rw[hx]at hr;rw[hr.toP.toBool]
 ·rename_i x hx;cases hy;rw[hx]at hr;rw[hr.toP.toV]
 ·cases hy
theorem Mf {ops:Array Oper}{o:Oper}(hok:Fz n ops.toList o=true)(hdall:∀(j:Nat) (o' : Oper) d,ops[j]? = some o' -> o'.dst=some d->d<n){K:St->Prop}{Q:H6}(hG : 𝒢.G C)(h:Sat C st a w rho)(hsz:a.tmps.size=n)(hw:KX (Ft P) P ops.toList o K Q st){ro:Option Nat}{next:Act->World->Prop}{Q' : Exit->Act->World->Prop}
 (hk:∀a w,NextOk 𝒢 n K a w->next a w) (hq:∀chain a w,PanicOk 𝒢 n Q chain a w->Q' (.panic chain) a w) :
 if Region.wanted o (yielded ops a.tmps)then o.wpIn (FW ro) 0 P a w next Q' else (∀f,o.about P w a.eval=some f->(FW ro).fn f)/\next (a.put o.dst undef) w:=by
 simp only[Fz,Bool.and_eq_true]at hok;obtain⟨hod,hog⟩:=hok;have hdn:∀t,o.dst=some t->t<n:=fun t ht=>by rw[ht]at hod;simpa using hod
 obtain⟨st1,rho1,hw,_,h⟩:=hw C a w rho h;cases hg:o.guard with
 |none=>
  simp only[hg]at hw
  have:Region.wanted o (yielded ops a.tmps)=true:=by simp[Region.wanted,hg]
  rw[if_pos this];exact Sr hG h hsz hdn hw hk hq
 |some q=>
  obtain⟨j,want⟩:=q;simp only[hg]at hw hog;obtain⟨b,hy,hw⟩:=hw;split at hog
  ·rename_i o' ho';have ho' : ops[j]? = some o':=by simpa using ho'
   obtain⟨d,hd'⟩:=Option.isSome_iff_exists.1 hog;have hyy:=TB h hsz ho' hd' (hdall j o' d ho' hd') hy;have hwant:Region.wanted o (yielded ops a.tmps)=(b==some want):=by simp[Region.wanted,hg,hyy]
   by_cases hb:b=some want
   ·rw[if_pos hb]at hw;rw[if_pos (by rw[hwant];simp[hb])];exact Sr hG h hsz hdn hw hk hq
   ·rw[if_neg hb]at hw;rw[if_neg (by rw[hwant];simpa using hb)];refine⟨fun f _=>trivial,hk _ _ ⟨C,_,rho1,hG,h.put (x:=Ak) (.p _ _ (.v _)) (fun t ht=>by rw[hsz];exact hdn t ht),by rw[QH,hsz],hw⟩⟩
  ·cases hog
end
end Go.AM
namespace Go.AM
section
variable {P:Program}{C:Ctx}{st:St}{a:Act}{w:World}{rho:Nat->Value}{𝒢 : Prot P}{n:Nat}{ro:Option Nat}{ops:Array Oper}{Q:H6}
theorem OY (hok:ops.toList.all (Fz n ops.toList)=true)(j:Nat)(o' : Oper)(d:Nat)(ho:ops[j]? = some o')(hd:o'.dst=some d):d<n:=by
 rw[List.all_eq_true]at hok
 have:=hok o' (by
  have:ops.toList[j]? = some o':=by simpa using ho
  exact List.mem_of_getElem? this)
 simp only[Fz,hd,Bool.and_eq_true]at this;simpa using this.1
theorem Ju (hok:ops.toList.all (Fz n ops.toList)=true):∀(l:List Oper) (i:Nat),ops.toList.drop i=l->i+l.length=ops.size->∀{C st a w rho},𝒢.G C->Sat C st a w rho->a.tmps.size=n->Ht (Ft P) P ops.toList l Q st ->
 wpOpsIn (FW ro) 0 P ops (WP 𝒢 n Q) ((List.range ops.size).drop i) a w
 |[],i,hl,hi,C,st,a,w,rho,hG,h,hsz,hw=>by rw[List.drop_eq_nil_of_le (by simp at hi⊢;omega)];exact⟨C,st,rho,hG,h,hsz,hw⟩
 |o::l,i,hl,hi,C,st,a,w,rho,hG,h,hsz,hw=>by
  have hlt:i<ops.size:=by simp at hi;omega
  have hdrop:(List.range ops.size).drop i=i::(List.range ops.size).drop (i+1):=by rw[List.drop_eq_getElem_cons (by simpa using hlt)];simp
  rw[hdrop];have hget:ops.toList[i]? = some o:=by
   have:(ops.toList.drop i)[0]? = some o:=by rw[hl];rfl
   simpa using this
  have ho:ops[i]? = some o:=by simpa using hget
  have hl' : ops.toList.drop (i+1)=l:=by
   have:(ops.toList.drop i).drop 1=l:=by rw[hl];rfl
   rwa [List.drop_drop]at this
  have hmem:Fz n ops.toList o=true:=by rw[List.all_eq_true]at hok;exact hok o (List.mem_of_getElem? hget)
  simp only[wpOpsIn,ho]
  have:=Mf (ro:=ro) (Q':=WP 𝒢 n Q) (next:=wpOpsIn (FW ro) 0 P ops (WP 𝒢 n Q) ((List.range ops.size).drop (i+1))) hmem (OY hok) hG h hsz hw
   (fun a w ⟨C,st,rho,hG,h,hsz,hw⟩=>Ju hok l (i+1) hl' (by simp at hi⊢;omega) hG h hsz hw) (fun chain a w h=>h)
  exact this
def cnt:List Bool->Nat
 |[]=>0
 |true::r=>cnt r+1
 |false::r=>cnt r
theorem VF:∀{l:List Bool}{i:Nat},l[i]? = some false->cnt (l.set i true)=cnt l+1
 |[],i,h=>by simp at h
 |b::r,0,h=>by simp at h;subst h;simp[cnt]
 |b::r,i+1,h=>by
  have:=VF (l:=r) (i:=i) (by simpa using h)
  cases b<;>simp[cnt,this]
theorem VG:∀(l:List Bool),cnt l<=l.length
 |[]=>by simp[cnt]
 |true::r=>by simp[cnt,VG r]
 |false::r=>by have:=VG r;simp[cnt];omega
theorem Ss:∀{l:List Bool},l.length<=cnt l->∀i,i<l.length->l[i]? = some true
 |[],_,i,hi=>by simp at hi
 |true::r,h,i,hi=>by
  cases i with
  |zero=>simp
  |succ i=>simpa using Ss (l:=r) (by simpa[cnt]using h) i (by simpa using hi)
 |false::r,h,i,hi=>by have:=VG r;simp[cnt]at h;omega
theorem VH (m:Region.Mode)(ops:Array Oper):∀(fuel t:Nat) (listed:Array Bool) (acc:List Nat),Region.linearise.go m ops fuel t listed acc=acc.reverse++Region.linearise.go m ops fuel t listed []
 |0,t,listed,acc=>by simp[Region.linearise.go]
 |fuel+1,t,listed,acc=>by
  simp only[Region.linearise.go];split
  ·rename_i i hi;rw[VH m ops fuel _ _ (i::acc),VH m ops fuel _ _ [i]];simp
  ·simp
theorem TC (hok:ops.toList.all (Fz n ops.toList)=true)(hdep:HZ ops.toList=true){Inv:(Nat->Bool)->St->Prop}
 (hstep:∀D i s o,Inv D s->ops.toList[i]? = some o->D i=false->(∀e∈o.after.toList,CG e=true->D e.on=true)->KX (Ft P) P ops.toList o (Inv fun j=>if j=i then true else D j) Q s)
 (hfin:∀D s,Inv D s->(∀i,i<ops.toList.length->D i=true)->semUp s (Q .normal)):∀(fuel t:Nat) (listed:Array Bool),listed.size=ops.size->ops.size<=cnt listed.toList+fuel->∀{a w},NextOk 𝒢 n (Inv fun j=>listed.getD j false) a w ->
 wpOpsIn (FW ro) 0 P ops (WP 𝒢 n Q) (Region.linearise.go .any ops fuel t listed []) a w:=by
 have hdone:∀(listed:Array Bool) {a w},NextOk 𝒢 n (Inv fun j=>listed.getD j false) a w->(∀i,i<ops.size->listed.getD i false=true)->wpOpsIn (FW ro) 0 P ops (WP 𝒢 n Q) [] a w:=by intro listed a w h hall;obtain⟨C,st,rho,hG,hs,hsz,hI⟩:=h;exact NextOk.up hG hs hsz (hfin _ st hI fun i hi=>hall i (by simpa using hi))
 intro fuel
 induction fuel with
 |zero=>
  intro t listed hsz hcnt a w h;simp only[Region.linearise.go,List.reverse_nil];refine hdone listed h fun i hi=>?_
  have:=Ss (l:=listed.toList) (by simp;omega) i (by simp;omega)
  simp only[Array.getElem?_toList]at this;simp[Array.getD_eq_getD_getElem?,this]
 |succ fuel ih=>
  intro t listed hsz hcnt a w h;simp only[Region.linearise.go];generalize hrs:(List.range ops.size).filter (fun i=>!listed.getD i true&&((ops[i]?).map (·.after.all fun e=>!Region.binds .any e||listed.getD e.on false)).getD false)=rs;split
  ·rename_i i hi;rw[VH];have hmem:i∈rs:=List.mem_of_getElem? hi;rw[<- hrs,List.mem_filter]at hmem;obtain⟨hr,hc⟩:=hmem;simp only[List.mem_range]at hr;simp only[Bool.and_eq_true,Bool.not_eq_true']at hc;obtain⟨hl,ha⟩:=hc;have ho:ops[i]? = some ops[i]:=Array.getElem?_eq_getElem hr;have hof:listed[i]? = some false:=by
    have:i<listed.size:=by omega
    simp only[Array.getD_eq_getD_getElem?,Array.getElem?_eq_getElem this,Option.getD_some]at hl;rw[Array.getElem?_eq_getElem this,hl]
   simp only[ho,Option.map_some,Option.getD_some,Array.all_eq_true',Bool.or_eq_true,Bool.not_eq_true']at ha;have hmemo:Fz n ops.toList ops[i]=true:=by rw[List.all_eq_true]at hok;exact hok _ (by simp)
   show wpOpsIn (FW ro) 0 P ops (WP 𝒢 n Q) (i::Region.linearise.go .any ops fuel (t / rs.length) (listed.setIfInBounds i true) []) a w;simp only[wpOpsIn,ho];obtain⟨C,st,rho,hG,hs,hsz',hI⟩:=h;have hw:=hstep _ i st ops[i] hI (by simp[hr]) (by simp[Array.getD_eq_getD_getElem?,hof]) (fun e he hb=>by
    rcases ha e (by simpa using he)with h1|h1
    ·unfold CG at hb;rw[hb]at h1;cases h1
    ·exact h1)
   have hset:(fun j=>if j=i then true else listed.getD j false)=fun j=>(listed.setIfInBounds i true).getD j false:=by
    funext j;by_cases e:j=i
    ·subst e;simp[Array.getD_eq_getD_getElem?,show j<listed.size by omega]
    ·simp[Array.getD_eq_getD_getElem?,e,Ne.symm e]
   rw[hset]at hw;exact Mf (ro:=ro) (Q':=WP 𝒢 n Q) hmemo (OY hok) hG hs hsz' hw
    (fun a w h=>ih _ _ (by simp[hsz]) (by rw[Array.toList_setIfInBounds,VF (by simpa using hof)];omega) h) (fun chain a w h=>h)
  ·rename_i hnone;have hempty:rs=[]:=by
    cases rs with
    |nil=>rfl
    |cons x r=>
     rw[List.getElem?_eq_none_iff]at hnone
     have:=Nat.mod_lt t (show 0<(x::r).length by simp)
     omega
   subst hempty;refine hdone listed h fun i hi=>?_
   induction i using Nat.strongRecOn with
   |_ i ihi=>
    cases hv:listed.getD i false with
    |true=>rfl
    |false=>
     exfalso;have hmem:i∈(List.range ops.size).filter (fun i=>!listed.getD i true&&((ops[i]?).map (·.after.all fun e=>!Region.binds .any e||listed.getD e.on false)).getD false):=by
      rw[List.mem_filter];refine⟨by simpa using hi,?_⟩;have ho:ops[i]? = some ops[i]:=Array.getElem?_eq_getElem hi;have hlt:i<listed.size:=by omega
      simp only[ho,Option.map_some,Option.getD_some,Bool.and_eq_true,Bool.not_eq_true',Array.all_eq_true',Bool.or_eq_true];refine⟨by simpa[Array.getD_eq_getD_getElem?,hlt]using hv,fun e he=>?_⟩;unfold HZ at hdep;rw[List.all_eq_true]at hdep
      have:=hdep i (by simpa using hi)
      simp only[Array.getElem?_toList,ho,List.all_eq_true,Bool.or_eq_true,Bool.not_eq_true',decide_eq_true_eq]at this;rcases this e (by simpa using he)with h1|h1
      ·exact .inl h1
      ·exact .inr (ihi e.on h1 (by omega))
     rw[hrs]at hmem;simp at hmem
end
end Go.AM
namespace Go.AM
section
variable {P:Program}{C:Ctx}{st:St}{a:Act}{w:World}{rho:Nat->Value}{𝒢 : Prot P}{n:Nat}{ro:Option Nat}{Q:H6}
def Ae6 (𝒢 : Prot P)(ro:Option Nat):Prop:=∀l,ro=some l->∀C,𝒢.G C->∃r,C.w0.heap[l]? = some (.loop r)/\¬C.E0 l
def GH (P:Program)(n:Nat)(c:Code):Prop:=∀(𝒢 : Prot P) (ro:Option Nat),Ae6 𝒢 ro->∀(Q:H6) (C:Ctx) (st:St) (a:Act) (w:World) (rho:Nat->Value),𝒢.G C->Sat C st a w rho->a.tmps.size=n->awp (Ft P) P c Q st->c.wpIn (FW ro) 0 P (WP 𝒢 n Q) a w
theorem AE {b:Frame}{c:Code}{k:List Item}{cs:List Frame}:step P (lone (b.atR a (.code (.scope c)::k)) cs w)=.next (lone (b.atR a (.code c :: .inScope c::k)) cs w):=
 step_lone_go (by simp[stepG,stepG.exec,Frame.atR])
theorem Nf {b:Frame}{c:Code}{k:List Item}{cs:List Frame}:step P (lone (b.atR a (.inScope c::k)) cs w)=.next (lone (b.atR a k) cs w):=
 step_lone_go (by simp[stepG,stepG.exec,Frame.atR])
theorem TD {F:Fence}{m:Nat}{c:Code}{Q:Exit->Act->World->Prop}(h:c.wpIn F m P (fun e a w=>(∀l,e ≠ .goto l)/\Q e a w) a w):(Code.scope c).wpIn F m P Q a w:=by
 intro b k cs hro hb hr;have h0:(lone (b.atR a (.code (.scope c)::k)) cs w).fenced P F:=fenced_calm hb hr rfl;obtain⟨e,a₁,w₁,⟨hg,hq⟩,harr⟩:=h b (.inScope c::k) cs hro hb hr;cases e with
 |normal=>exact⟨.normal,a₁,w₁,hq,.head h0 AE (StepsIn.trans harr (.one (fenced_calm hb hr rfl) Nf))⟩
 |exit id=>
  have hx:exitTo id (.inScope c::k)=exitTo id k:=by simp[exitTo]
  exact⟨_,a₁,w₁,hq,fun k' hk=>.head h0 AE (harr.1 k' (by rw[hx];exact hk)),
   fun hr' hk=>let ⟨k₁,h1,h2⟩:=harr.2 hr' (by rw[hx];exact hk);⟨k₁,h1,.head h0 AE h2⟩⟩
 |goto l=>exact absurd rfl (hg l)
 |ret=>exact⟨_,a₁,w₁,hq,.of_steps (.one h0 AE) harr⟩
 |panic ch=>exact⟨_,a₁,w₁,hq,.of_steps (.one h0 AE) harr⟩
 |outgrown=>exact⟨_,a₁,w₁,hq,.of_steps (b:=b) (k:=k) (cs:=cs) (e:=.outgrown) (.one h0 AE) harr⟩
theorem PanicOk.mono {Q Q' : H6}{ch:List PanicEntry}{a:Act}{w:World}(h:PanicOk 𝒢 n Q ch a w)(hq:∀x s,Q (.panic x) s->Q' (.panic x) s):PanicOk 𝒢 n Q' ch a w:=
 let ⟨C,st,rho,v,x,h1,h2,h3,h4,h5,h6⟩:=h
 ⟨C,st,rho,v,x,h1,h2,h3,h4,h5,hq _ _ h6⟩
theorem Zx (h:Sat C st a w rho){c:Operand}{b:Bool}(hb:Jf (aev st.env c)=some b):a.eval c=.bool b:=by
 have hr:=h.aev c;unfold Jf at hb;split at hb
 ·rename_i x hx;cases hb;rw[hx]at hr;exact hr.toP.toV
 ·rename_i x hx;cases hb;rw[hx]at hr;exact hr.toP.toBool
 ·cases hb
open Classical in
theorem TE {b:Code}(ih:GH P n b)(hro:Ae6 𝒢 ro)(hG : 𝒢.G C)(h:Sat C st a w rho)(hsz:a.tmps.size=n)(hw:awp (Ft P) P (.loop b) Q st):(Code.loop b).wpIn (FW ro) 0 P (WP 𝒢 n Q) a w:=by
 obtain⟨X,s,J,m,hu,hround⟩:=hw
 let at' : Act->World->X->Prop:=fun a w x=>J x/\∃C rho,𝒢.G C/\Sat C (s x) a w rho/\a.tmps.size=n
 let I:Act->World->Prop:=fun a w=>∃x,at' a w x
 let le:Act->World->Nat->Prop:=fun a w k=>∃x,at' a w x/\m x=k
 have hmin:∀(p:Nat->Prop),(∃k,p k)->∃k,p k/\∀j,p j->k<=j:=by
  intro p ⟨k,hk⟩
  induction k using Nat.strongRecOn with
  |_ k ih=>
   by_cases hex:∃j,j<k/\p j
   ·obtain⟨j,hj,hp⟩:=hex;exact ih j hj hp
   ·exact⟨k,hk,fun j hj=>Nat.le_of_not_lt fun hlt=>hex ⟨j,hlt,hj⟩⟩
 let μ : Act->World->Nat:=fun a w=>if hx:∃k,le a w k then (hmin _ hx).choose else 0
 have hμ : ∀a w x,at' a w x->∃y,at' a w y/\m y = μ a w /\ μ a w<=m x:=by
  intro a w x hx;have hex:∃k,le a w k:=⟨m x,x,hx,rfl⟩;have h1:=(hmin _ hex).choose_spec;have h2 : μ a w=(hmin _ hex).choose:=by simp only[μ,dif_pos hex]
  obtain⟨⟨y,hy,hm⟩,hle⟩:=h1;exact⟨y,hy,by rw[h2];exact hm,by rw[h2];exact hle _ ⟨x,hx,rfl⟩⟩
 refine wpIn_loop I μ ?_ ?_
 ·obtain⟨C',st',rho',hG',hs',hsz',⟨x,rfl,hJ⟩⟩:=NextOk.up hG h hsz hu;exact⟨x,hJ,C',rho',hG',hs',hsz'⟩
 ·rintro a w ⟨x,hx⟩;obtain⟨y,⟨hJ,C',rho',hG',hs',hsz'⟩,hm,_⟩:=hμ a w x hx;refine wpIn_mono (ih 𝒢 ro hro _ C' (s y) a w rho' hG' hs' hsz' (hround y hJ)) ?_;intro e a' w' he;cases e with
  |normal=>obtain⟨C2,st2,rho2,hG2,hs2,hsz2,hu2⟩:=he;obtain⟨C3,st3,rho3,hG3,hs3,hsz3,⟨z,rfl,hJz,hmz⟩⟩:=NextOk.up hG2 hs2 hsz2 hu2;have hz:at' a' w' z:=⟨hJz,C3,rho3,hG3,hs3,hsz3⟩;obtain⟨_,_,_,hle⟩:=hμ a' w' z hz;exact⟨⟨z,hz⟩,by omega⟩
  |exit id=>exact he
  |goto l=>exact he
  |ret=>exact he
  |panic ch=>exact he.mono fun x s h=>h
  |outgrown=>exact he
theorem QI (hrange:∀g ps asg body,(ps.toList.all fun t=>Nat.blt t n)=true->GH P n asg->GH P n body->GH P n (.rangeFunc g ps asg body)):∀(c:Code),X2 n c=true->GH P n c:=by
 intro c
 induction c with
 |skip=>exact fun _ 𝒢 ro hro Q C st a w rho hG h hsz hw=>wpIn_skip ⟨C,st,rho,hG,h,hsz,hw⟩
 |label l=>exact fun _ 𝒢 ro hro Q C st a w rho hG h hsz hw=>wpIn_label ⟨C,st,rho,hG,h,hsz,hw⟩
 |exit id=>exact fun _ 𝒢 ro hro Q C st a w rho hG h hsz hw=>wpIn_exit ⟨C,st,rho,hG,h,hsz,hw⟩
 |goto l=>exact fun _ 𝒢 ro hro Q C st a w rho hG h hsz hw=>wpIn_goto ⟨C,st,rho,hG,h,hsz,hw⟩
 |ret=>exact fun _ 𝒢 ro hro Q C st a w rho hG h hsz hw=>wpIn_ret ⟨C,st,rho,hG,h,hsz,hw⟩
 |refuse y=>exact fun _ 𝒢 ro hro Q C st a w rho hG h hsz hw=>hw.elim
 |region id ops draw=>
  intro hok 𝒢 ro hro Q C st a w rho hG h hsz hw;simp only[X2]at hok;simp only[awp]at hw;cases draw with
  |false=>
   simp only[Bool.false_eq_true,if_false]at hw
   have:=Ju (ro:=ro) hok ops.toList 0 (by simp) (by simp) hG h hsz hw
   exact wpIn_region (by simpa using this)
  |true=>
   simp only[if_true]at hw;obtain⟨hmix,hdep,Inv,h0,hstep,hfin⟩:=hw;refine wpIn_region_draw fun t=>?_;have hsch:Region.schedule (P.follows .mixedOrders) ops t=Region.linearise.go .any ops ops.size t (Array.replicate ops.size false) []:=by simp[Region.schedule,hmix,Region.linearise]
   rw[hsch];obtain⟨h1,_⟩:=h.grow (w':={ w with drawn:=w.drawn+1 }) (Nat.le_refl _) (fun _ _=>rfl);refine TC hok hdep hstep hfin _ _ _ (by simp) (by simp) ⟨C,st,rho,hG,h1,hsz,?_⟩
   have:(fun j=>(Array.replicate ops.size false).getD j false)=fun _=>false:=by funext j;simp only[Array.getD_eq_getD_getElem?,Array.getElem?_replicate];split<;>rfl
   rw[this];exact h0
 |seq x y ihx ihy=>
  intro hok 𝒢 ro hro Q C st a w rho hG h hsz hw;simp only[X2,Bool.and_eq_true]at hok;refine wpIn_seq (wpIn_mono (ihx hok.1 𝒢 ro hro _ C st a w rho hG h hsz hw) ?_);intro e a' w' he;cases e with
  |normal=>obtain⟨C2,st2,rho2,hG2,hs2,hsz2,hu2⟩:=he;obtain⟨C3,st3,rho3,hG3,hs3,hsz3,hw3⟩:=NextOk.up hG2 hs2 hsz2 hu2;exact ihy hok.2 𝒢 ro hro _ C3 st3 a' w' rho3 hG3 hs3 hsz3 hw3
  |exit id=>exact he
  |goto l=>exact he
  |ret=>exact he
  |panic ch=>exact he.mono fun x s h=>h
  |outgrown=>exact he
 |cond c x y ihx ihy=>
  intro hok 𝒢 ro hro Q C st a w rho hG h hsz hw;simp only[X2,Bool.and_eq_true]at hok;obtain⟨b,hb,hw⟩:=hw;refine wpIn_cond (Zx h hb) ?_;cases b
  ·exact ihy hok.2 𝒢 ro hro _ C st a w rho hG h hsz hw
  ·exact ihx hok.1 𝒢 ro hro _ C st a w rho hG h hsz hw
 |block id b ih=>
  intro hok 𝒢 ro hro Q C st a w rho hG h hsz hw;refine wpIn_block (wpIn_mono (ih hok 𝒢 ro hro _ C st a w rho hG h hsz hw) ?_);intro e a' w' he;cases e with
  |normal=>exact he
  |exit i=>
   simp only[Exit.inBlock];obtain⟨C2,st2,rho2,hG2,hs2,hsz2,hq⟩:=he;by_cases hi:i=id
   ·simp only[blk,hi,if_true]at hq;rw[if_pos hi];exact⟨C2,st2,rho2,hG2,hs2,hsz2,hq⟩
   ·simp only[blk,hi,if_false]at hq;rw[if_neg hi];exact⟨C2,st2,rho2,hG2,hs2,hsz2,hq⟩
  |goto l=>exact he
  |ret=>exact he
  |panic ch=>exact he.mono fun x s h=>h
  |outgrown=>exact he
 |loop b ih=>exact fun hok 𝒢 ro hro Q C st a w rho hG h hsz hw=>TE (ih hok) hro hG h hsz hw
 |scope b ih=>
  intro hok 𝒢 ro hro Q C st a w rho hG h hsz hw;refine TD (wpIn_mono (ih hok 𝒢 ro hro _ C st a w rho hG h hsz hw) ?_);intro e a' w' he;cases e with
  |normal=>exact⟨fun l h=>(by cases h),he⟩
  |exit id=>exact⟨fun l h=>(by cases h),he⟩
  |goto l=>obtain⟨C2,st2,rho2,hG2,hs2,hsz2,hq⟩:=he;exact hq.elim
  |ret=>exact⟨fun l h=>(by cases h),he⟩
  |panic ch=>exact⟨fun l h=>(by cases h),he.mono fun x s h=>h⟩
  |outgrown=>exact he.elim
 |rangeFunc g ps asg body iha ihb=>intro hok;simp only[X2,Bool.and_eq_true]at hok;exact hrange g ps asg body hok.1.1 (iha hok.1.2) (ihb hok.2)
end
end Go.AM
namespace Go.AM
section
variable {P:Program}{C:Ctx}{st:St}{a:Act}{w:World}{rho:Nat->Value}{𝒢 : Prot P}{n:Nat}{Q:H6}
def Prot.fix (𝒢 : Prot P)(r0:Nat->Value):Prot P where
 G:=fun C=>𝒢.G C/\C.rho0=r0
 tab:=fun C h=>𝒢.tab C h.1
 call:=by intro C w O V ys rest vs hG hR hY hs hv;obtain⟨l,fn,tmps,as,body,h1,h2,h3⟩:=𝒢.call C w O V ys rest vs hG.1 hR hY hs hv;refine⟨l,fn,tmps,as,body,h1,h2,h3.mono ?_⟩;rintro e w' ⟨b,he,C',g1,g2,g3,g4⟩;exact⟨b,he,C',⟨g1,g3.trans hG.2⟩,g2,g3,g4⟩
theorem Sat.unmark (h:Sat C st a w rho){d:Deferred}{ds:List Deferred}(hd:a.defers=d::ds):∃r w',d.target=.collected r/\(Instr.takeDeferred r).run P w=.ok [] w' /\ Sat C st { a with defers:=ds } w' rho:=by
 obtain⟨r,rfl,hown,hheap,hX⟩:=h.marks.2 d (by rw[hd];simp);have hlt:r<w.heap.size:=(Array.getElem?_eq_some_iff.1 hheap).1;refine⟨r,w.putObj r (.deferred none),rfl,run_takeDeferred hheap,?_⟩;have hother:∀b,b≠r->(w.putObj r (.deferred none)).heap[b]? = w.heap[b]?:=fun b hb=>World.putObj_heap_other hb;have hcell:∀b off v,w.cell? ⟨b,off,none⟩=some v->b≠r:=by rintro b off v hc rfl;simp[World.cell?,hheap]at hc
 have hk:Keeps w (Prv C.X (A1 st.regs) rho) (w.putObj r (.deferred none)) (Prv C.X (A1 st.regs) rho):=fun b o v hp hc=>
  ⟨by rw[<- hc];exact World.cell?_of_block (hother b (hcell b o v hc)),hp⟩
 refine⟨⟨⟨?_,h.hp.sep,h.hp.out,fun b off hX=>by rw[World.putObj_size];exact h.hp.bound b off hX⟩,h.ext.trans ⟨rfl,rfl⟩,by rw[World.putObj_size];exact h.size,?_,h.keep.trans hk,h.own,h.yld⟩,fun t=>(h.env t).keeps hk fun j hj=>⟨hj,rfl⟩,h.pin,?_,?_⟩
 ·intro j o hj;exact (h.hp.holds j o hj).keeps hk (fun j hj=>⟨hj,rfl⟩) fun b hb=>hother b fun e=>(h.hp.holds j o hj).nd hb (by rw[e];exact hheap)
 ·intro b hb hE;rw[hother b (fun e=>by subst e;rcases hown with h1|h1;exact hE h1;omega)];exact h.same b hb hE
 ·have:=h.marks.1;rw[hd]at this;exact (List.nodup_cons.1 this).2
 ·intro d' hd';obtain⟨r',h1,h2,h3,h4⟩:=h.marks.2 d' (by rw[hd];exact List.mem_cons_of_mem _ hd');refine⟨r',h1,h2,?_,h4⟩;rw[hother r' ?_]
  ·exact h3
  ·rintro rfl
   have:=h.marks.1;rw[hd]at this
   exact (List.nodup_cons.1 this).1 (by rw[<- h1];exact hd')
theorem Ih {fn:Func}{R:Ending->World->Prop}{u:FrameMode}(hu:u ≠ .run){tmps:Array Value}(hfin:∀a w,Sat C st a w rho->a.tmps=tmps->a.defers=[]->LeavesIn Fence.wide 0 P fn tmps R [] u w):∀(ds:List Deferred) (a:Act) (w:World),a.defers=ds->a.tmps=tmps->Sat C st a w rho ->
 LeavesInM Fence.wide 0 P fn tmps R ds u w
 |[],a,w,hd,ht,h=>hfin a w h ht hd
 |d::ds,a,w,hd,ht,h=>by obtain⟨r,w',h1,h2,h3⟩:=h.unmark hd;exact⟨hu,.inl ⟨r,w',h1,h2,Ih hu hfin ds { a with defers:=ds } w' rfl ht h3⟩⟩
theorem Xp {Pi:Nat->Nat->Prop}{live:Nat->Prop}{regs:C4}{t:TypeId}{v:Value}{x:AV}{r:List Prop×AV}(hv:RepA w Pi live rho v x)(he:load P regs t x=some r):∃ad,v=.pointer (some ad):=by
 cases hv with
 |reg=>exact⟨_,rfl⟩
 |elt=>exact⟨_,rfl⟩
 |p _ y hy=>cases hy<;>first|exact⟨_,rfl⟩ | simp[load]at he
 |_=>simp[load]at he
def Aj7 (tmps:Array Value):ResultVar->Sem Value
 |.tmp t=>pure (tmps.getD t undef)
 |.cell a t=>do loadVar t (<- asAddr (tmps.getD a undef))
theorem TF (fn:Func)(tmps:Array Value):results fn tmps=(do
 let vs <- fn.results.mapM (Aj7 tmps)
 pure (if h:vs.size=1 then vs[0]else .tuple vs):Sem Value):=by
 unfold results;refine congrArg (fun f=>((fn.results.mapM f >>= fun vs=>pure (if h:vs.size=1 then vs[0]else .tuple vs)):Sem Value)) ?_;funext r;cases r<;>rfl
theorem GI (h:Sat C st a w rho):∀(rs:List ResultVar) (l:List AV),Ew P st rs=some l ->
 ∃vs:List Value,(rs.mapM (Aj7 a.tmps)).run P w=.ok vs w/\vs.length=l.length/\∀i,i<l.length->RS C st w rho (vs.getD i undef) (l.getD i .top)
 |[],l,he=>by simp only[Ew,Option.some.injEq]at he;subst he;exact⟨[],by simp,rfl,fun i hi=>absurd hi (by simp)⟩
 |r::rs,l,he=>by
  simp only[Ew]at he;split at he
  ·rename_i x l' hx hl;cases he;obtain⟨vs,h1,h2,h3⟩:=GI h rs l' hl;have hone:∃v,(Aj7 a.tmps r).run P w=.ok v w/\RS C st w rho v x:=by
    cases r with
    |tmp t=>simp only[Vd,Option.some.injEq]at hx;subst hx;exact⟨_,rfl,h.env t⟩
    |cell y t=>
     simp only[Vd]at hx;split at hx
     ·rename_i z hz;cases hx;obtain⟨u,hu,hr⟩:=LU h (h.env y) hz trivial;obtain⟨ad,had⟩:=Xp (h.env y) hz;rw[had]at hu;refine⟨u,?_,hr⟩;simp only[Aj7,had];simpa[Instr.loadAt,Instr.sureAddr,asAddr]using hu
     ·cases hx
   obtain⟨v,hv,hr⟩:=hone;refine⟨v::vs,?_,by simp[h2],fun i hi=>?_⟩
   ·rw[List.mapM_cons];simp only[Sem.run_bind,hv,Result.andThen_ok,h1,Sem.run_pure]
   ·cases i with
    |zero=>simpa using hr
    |succ i=>simpa using h3 i (by simpa using hi)
  ·cases he
theorem Ng (h:Sat C st a w rho){fn:Func}{l:List AV}(he:Ew P st fn.results.toList=some l):∃v,(results fn a.tmps).run P w=.ok v w/\RS C st w rho v (one l):=by
 obtain⟨vs,h1,h2,h3⟩:=GI h _ l he;refine⟨if h:vs.toArray.size=1 then vs.toArray[0]else .tuple vs.toArray,?_,?_⟩
 ·rw[TF,Array.mapM_eq_mapM_toList];simp only[Sem.run_bind,map_eq_pure_bind,h1,Result.andThen_ok,Sem.run_pure]
 ·by_cases hl:l.length=1
  ·obtain⟨x,rfl⟩:=List.length_eq_one_iff.1 hl;obtain⟨v,rfl⟩:=List.length_eq_one_iff.1 (h2.trans hl);simpa[one]using h3 0 (by simp)
  ·rw[dif_neg (by simpa using (h2 ▸ hl:¬vs.length=1))]
   have:one l=.tup l:=by
    cases l with
    |nil=>rfl
    |cons x r=>
     cases r with
     |nil=>exact absurd rfl hl
     |cons _ _=>rfl
   rw[this];refine .tup _ l (by simpa using h2) fun i hi=>?_
   have:=h3 i hi
   simpa[List.getD_eq_getElem?_getD,Array.getD_eq_getD_getElem?]using this
theorem Jv (h:Sat C st a w rho){outs:List Nat}{objs:List Obj}(hd:F0 outs=true)(hob:H8 outs st.regs outs=some objs) :SatE C (objRegs objs) w (fun p=>rho (outs.getD p 0))/\Keeps w (PiS C st rho) w (Prv C.X (A1 (objRegs objs)) (fun p=>rho (outs.getD p 0))) /\
  ∀p j:Nat,outs[p]? = some j->Lv (A1 st.regs) j->Lv (A1 (objRegs objs)) p/\rho (outs.getD p 0)=rho j:=by
 obtain⟨hl,hg⟩:=U0 hob;have hdup:=AD hd;have hfrom:∀p o',A1 (objRegs objs) p=some o' -> ∃j o,outs[p]? = some j/\A1 st.regs j=some o/\MQ outs o=some o' /\ rho (outs.getD p 0)=rho j:=by
  intro p o' hp;rw[C6]at hp;have hlt:p<outs.length:=by rw[<- hl];exact (List.getElem?_eq_some_iff.1 hp).1
  obtain⟨o,o2,h1,h2,h3⟩:=hg p _ (List.getElem?_eq_getElem hlt);rw[hp]at h3;cases h3;exact⟨_,o,List.getElem?_eq_getElem hlt,h1,h2,by rw[Bi (List.getElem?_eq_getElem hlt)]⟩
 have hpi:∀b off,Prv C.X (A1 (objRegs objs)) (fun p=>rho (outs.getD p 0)) b off->Prv C.X (A1 st.regs) rho b off:=by
  rintro b off (hX|⟨p,o',hp,hb,hpr⟩)
  ·exact .inl hX
  ·obtain⟨j,o,h1,h2,h3,h4⟩:=hfrom p o' hp;simp only[h4,T9 h3]at hb;exact .inr ⟨j,o,h2,hb,(GG h3 off).1 hpr⟩
 have hk:Keeps w (PiS C st rho) w (Prv C.X (A1 (objRegs objs)) (fun p=>rho (outs.getD p 0))):=fun b o v hp hc=>⟨hc,fun hp'=>hp (hpi b o hp')⟩;have hren:∀p j:Nat,outs[p]? = some j->Lv (A1 st.regs) j->Lv (A1 (objRegs objs)) p/\rho (outs.getD p 0)=rho j:=by intro p j hp _;obtain⟨o,o2,h1,h2,h3⟩:=hg p j hp;exact⟨by simp[Lv,C6,h3],by rw[Bi hp]⟩
 refine⟨⟨⟨?_,?_,?_,fun b off hX=>h.hp.bound b off hX⟩,h.ext,h.size,h.same,h.keep.trans hk,?_,?_⟩,hk,hren⟩
 ·intro p o' hp;obtain⟨j,o,h1,h2,h3,h4⟩:=hfrom p o' hp;show HoldsO w _ _ _ (rho (outs.getD p 0)) o';rw[h4];exact (h.hp.holds j o h2).ren hk hren (fun b _=>rfl) h3
 ·intro p q op oq b hp hq hbp hbq;obtain⟨j,o,h1,h2,h3,h4⟩:=hfrom p op hp;obtain⟨j',o',h1',h2',h3',h4'⟩:=hfrom q oq hq;simp only[h4,h4',T9 h3,T9 h3']at hbp hbq
  have:=h.hp.sep j j' o o' b h2 h2' hbp hbq
  subst this;exact Dk hdup h1 h1'
 ·intro p o' b off hp hb hX;obtain⟨j,o,h1,h2,h3,h4⟩:=hfrom p o' hp;simp only[h4,T9 h3]at hb;exact h.hp.out j o b off h2 hb hX
 ·rintro b ⟨p,o',hp,hb⟩;obtain⟨j,o,h1,h2,h3,h4⟩:=hfrom p o' hp;simp only[h4,T9 h3]at hb;exact h.own b ⟨j,o,h2,hb⟩
 ·intro p r b hp;obtain⟨j,o,h1,h2,h3,h4⟩:=hfrom p _ hp
  have:o=.yld r b:=by
   cases o<;>simp only[MQ]at h3
   case cells=>split at h3<;>cases h3
   case ghost=>split at h3<;>cases h3
   case fam=>split at h3<;>cases h3
   case yld=>cases h3;rfl
   all_goals cases h3
  subst this;simp only[h4];exact h.yld j r b h2
theorem TG {m:Nat}{outs:List Nat}(hm:m<1000){i:Nat}(hk:(Ee m outs)[i]? = some true):i<m/\outs[i]? = some i:=by
 unfold Ee at hk;rw[List.getElem?_map,Option.map_eq_some_iff]at hk;obtain⟨q,hq,he⟩:=hk;have hlt:i<m:=by simpa using (List.getElem?_eq_some_iff.1 hq).1
 rw[Jr hlt]at hq;cases hq;refine⟨hlt,?_⟩;simp only[beq_iff_eq,List.getD_eq_getElem?_getD]at he;cases ho:outs[i]? with
 |none=>rw[ho]at he;simp at he;omega
 |some j=>rw[ho]at he;simp at he;rw[he]
theorem TH (hcode:∀c,X2 n c=true->GH P n c){f:FuncId}{fn:Func}{code:Code}{args:List AV}{objs:List Obj}{Q:Je->List Obj->List Bool->Prop}(hf:P.funcs[f]? = some fn)(hb:fn.body=some code)(hname:(fn.name == "runtime.NumGoroutine")=false)(hn:fn.ntmps=n)
 (hok:X2 n code=true) (hargs:args.length<=n) (hobjs:objs.length<1000)
 (hw:semUp ⟨argEnv args,objRegs objs⟩ (awp (Ft P) P code (AX (Ft P) P objs.length fn.results.toList Q))):SemF P f args objs Q:=by
 intro 𝒢 C w vs rho hG hS hvs;have hn' : ¬fn.name = "runtime.NumGoroutine" := by simpa using hname
 refine⟨.enter f vs,w,by simp[callFunc,hf,hn',hb],?_⟩;refine callsIn_of_wp_marks hf hb trivial ?_;have hS' : Sat C ⟨argEnv args,objRegs objs⟩ { tmps:=vs++Array.replicate (fn.ntmps-vs.size) undef,defers:=[] } w rho:=by
  refine⟨hS.toSatE,fun t=>?_,hS.pin,hS.marks⟩
  have:=hS.env t
  by_cases ht:t<vs.size
  ·simpa[Array.getD_eq_getD_getElem?,Array.getElem?_append,ht]using this
  ·show RepA w _ _ _ _ (get (argEnv args) t);rw[Ab,List.getD_eq_getElem?_getD,List.getElem?_eq_none (by omega)];exact .top _
 obtain⟨st1,rho1,hw1,_,hS1⟩:=hw C _ w rho hS';have hsz:(vs++Array.replicate (fn.ntmps-vs.size) undef).size=n:=by simp;omega
 have hro:Ae6 (𝒢.fix C.rho0) none:=fun l h=>by cases h
 refine wpIn_mono (hcode code hok (𝒢.fix C.rho0) none hro _ C st1 _ w rho1 ⟨hG,rfl⟩ hS1 hsz hw1) ?_;have hkept:∀{C' : Ctx}{st' : St}{a' : Act}{w' : World}{rho' : Nat->Value}{outs:List Nat}{objs' : List Obj},C'.rho0=C.rho0->Sat C' st' a' w' rho' -> H8 outs st'.regs outs=some objs' -> ∀i:Nat,(Ee objs.length outs)[i]? = some true->i<objs'.length/\rho' (outs.getD i 0)=rho i:=by intro C' st' a' w' rho' outs objs' hr hs hob i hi;obtain⟨h1,h2⟩:=TG hobjs hi;obtain⟨hl,hg⟩:=U0 hob;obtain⟨o,_,ho,_⟩:=hg i i h2;refine⟨by rw[hl];exact (List.getElem?_eq_some_iff.1 h2).1,?_⟩;rw[Bi h2,hs.pin i (by omega) (by simp[Lv,ho]),hr];exact (hS.pin i (by omega) (by simp[Lv,C6,h1])).symm
 have hret:∀(a' : Act) (w' : World),NextOk (𝒢.fix C.rho0) n (fun st=>semUp st fun st1=>∃l outs a objs',Ew P st1 fn.results.toList=some l/\F0 outs=true/\Ot outs (one l)=some a/\H8 outs st1.regs outs=some objs' /\ Q (.ret a) objs' (Ee objs.length outs)) a' w' ->
  LeavesInM Fence.wide 0 P fn a'.tmps (fun e w'=>∃C' r objs' ks rho', 𝒢.G C' /\ Q r objs' ks/\SatE C' (objRegs objs') w' rho' /\
   Zv w' (Prv C'.X (A1 (objRegs objs')) rho') (Lv (A1 (objRegs objs'))) rho' e r/\∀i:Nat,ks[i]? = some true->i<objs'.length/\rho' i=rho i) a'.defers .returning w':=by
  rintro a' w' ⟨C',st',rho',hG',hs',hsz',hu⟩;obtain⟨st2,rho2,⟨l,outs,x,objs',h1,h2,h3,h4,h5⟩,_,hs2⟩:=hu C' a' w' rho' hs';refine Ih (C:=C') (st:=st2) (rho:=rho2) (by simp) ?_ a'.defers a' w' rfl rfl hs2;intro a3 w3 hs3 ht hd;obtain⟨v,hv,hrep⟩:=Ng hs3 h1;obtain⟨g1,g2,g3⟩:=Jv hs3 h2 h4;rw[ht]at hv;exact⟨v,hv,C', .ret x,objs',_,_,hG'.1,h5,g1,⟨v,rfl,hrep.ren g2 g3 h3⟩,hkept hG'.2 hs3 h4⟩
 intro e a' w' he;cases e with
 |normal=>exact hret a' w' he
 |ret=>exact hret a' w' he
 |exit id=>obtain⟨_,_,_,_,_,_,h⟩:=he;exact h.elim
 |goto l=>obtain⟨_,_,_,_,_,_,h⟩:=he;exact h.elim
 |outgrown=>exact he.elim
 |panic ch=>
  obtain⟨C',st',rho',v,x,rfl,hG',hs',hsz',hv,outs,objs',h2,h4,h5⟩:=he
  have:∀(ds:List Deferred) (a2:Act) (w2:World),a2.defers=ds->a2.tmps=a'.tmps->Sat C' st' a2 w2 rho' -> RepP w2 (PiS C' st' rho') v x ->
   LeavesInM Fence.wide 0 P fn a'.tmps (fun e w'=>∃C' r objs' ks rho', 𝒢.G C' /\ Q r objs' ks/\SatE C' (objRegs objs') w' rho' /\
    Zv w' (Prv C'.X (A1 (objRegs objs')) rho') (Lv (A1 (objRegs objs'))) rho' e r/\∀i:Nat,ks[i]? = some true->i<objs'.length/\rho' i=rho i) ds (.panicking [{ v,recovered:=false }]) w2:=by
   intro ds
   induction ds with
   |nil=>intro a2 w2 hd ht hs2 hv2;obtain⟨g1,g2,g3⟩:=Jv hs2 h2 h4;exact⟨C', .panic x,objs',_,_,hG'.1,h5,g1,⟨v,rfl,hv2.keeps g2⟩,hkept hG'.2 hs2 h4⟩
   |cons d ds ih=>
    intro a2 w2 hd ht hs2 hv2;obtain⟨r,w3,h6,h7,h8⟩:=hs2.unmark (P:=P) hd;refine⟨by simp,.inl ⟨r,w3,h6,h7,ih { a2 with defers:=ds } w3 rfl ht h8 ?_⟩⟩;obtain⟨r',h9,_,h10,_⟩:=hs2.marks.2 d (by rw[hd];simp);have e6:r=r':=by rw[h9]at h6;cases h6;rfl
    subst e6;have hw3:w3=w2.putObj r (.deferred none):=by rw[run_takeDeferred h10]at h7;cases h7;rfl
    subst hw3;refine hv2.keeps fun b o u hp hc=>⟨?_,hp⟩;rw[<- hc];refine World.cell?_of_block (World.putObj_heap_other ?_);rintro rfl;simp[World.cell?,h10]at hc
  exact this a'.defers a' w' rfl rfl hs' hv
end
end Go.AM
namespace Go.AM
section
variable {P:Program}{C:Ctx}{st:St}{a:Act}{w:World}{rho:Nat->Value}{𝒢 : Prot P}{n:Nat}{Q:H6}
theorem Sat.poke (h:Sat C st a w rho){r:Nat}{lo:Loop}(hheap:w.heap[r]? = some (.loop lo))(o' : Go.Obj)(hown:C.E0 r \/ C.w0.heap.size<=r):Sat C st a (w.putObj r o') rho/\∀Pi,Keeps w Pi (w.putObj r o') Pi:=by
 have hother:∀b,b≠r->(w.putObj r o').heap[b]? = w.heap[b]?:=fun b hb=>World.putObj_heap_other hb;have hcell:∀b off v,w.cell? ⟨b,off,none⟩=some v->b≠r:=by rintro b off v hc rfl;simp[World.cell?,hheap]at hc
 have hk:∀Pi,Keeps w Pi (w.putObj r o') Pi:=fun Pi b o v hp hc=>⟨by rw[<- hc];exact World.cell?_of_block (hother b (hcell b o v hc)),hp⟩;have hkind:∀{Pi live rho' v ob b},HoldsO w Pi live rho' v ob->D8 v ob b->b≠r:=by
  rintro Pi live rho' v ob b hh hb rfl
  have:=hh.kind hb
  rw[hheap]at this;cases this
 refine⟨⟨⟨⟨?_,h.hp.sep,h.hp.out,fun b off hX=>by rw[World.putObj_size];exact h.hp.bound b off hX⟩,h.ext.trans ⟨rfl,rfl⟩,by rw[World.putObj_size];exact h.size,?_,h.keep.trans (hk _),h.own,h.yld⟩,fun t=>(h.env t).keeps (hk _) fun j hj=>⟨hj,rfl⟩,h.pin,h.marks.1,?_⟩,hk⟩
 ·intro j o hj;exact (h.hp.holds j o hj).keeps (hk _) (fun j hj=>⟨hj,rfl⟩) fun b hb=>hother b (hkind (h.hp.holds j o hj) hb)
 ·intro b hb hE;rw[hother b (fun e=>by subst e;rcases hown with h1|h1;exact hE h1;omega)];exact h.same b hb hE
 ·intro d hd;obtain⟨r',h1,h2,h3,h4⟩:=h.marks.2 d hd;refine⟨r',h1,h2,?_,h4⟩;rw[hother r' ?_]
  ·exact h3
  ·rintro rfl;rw[hheap]at h3;cases h3
def Ctx.plus (C:Ctx)(V:Nat->Nat->Prop):Ctx:={ C with X:=fun b o=>C.X b o \/ V b o }
theorem SatE.add {R R' : C4}(h:SatE C R w rho){j:Nat}(hj:A1 R j=none){o:Obj}{v:Value}(hb:∀u b,¬D8 u o b)(hR' : ∀i,A1 R' i=if i=j then some o else A1 R i)
 (hh:Keeps w (Prv C.X (A1 R) rho) w (Prv C.X (A1 R') (fun i=>if i=j then v else rho i))->(∀i,Lv (A1 R) i->Lv (A1 R') i/\(if i=j then v else rho i)=rho i)->HoldsO w (Prv C.X (A1 R') (fun i=>if i=j then v else rho i)) (Lv (A1 R')) (fun i=>if i=j then v else rho i) v o) (hy:∀r b,o=.yld r b->C.Y r b/\v=C.yv) :
 SatE C R' w (fun i=>if i=j then v else rho i)/\(∀b off,Prv C.X (A1 R') (fun i=>if i=j then v else rho i) b off↔Prv C.X (A1 R) rho b off) /\
  (∀i,Lv (A1 R) i->Lv (A1 R') i/\(if i=j then v else rho i)=rho i):=by
 have hlive:∀i,Lv (A1 R) i->Lv (A1 R') i/\(if i=j then v else rho i)=rho i:=by
  intro i hi;have e:i≠j:=by rintro rfl;simp[Lv,hj]at hi
  simp only[Lv,hR',if_neg e];exact⟨hi,trivial⟩
 have hold:∀i oi b,A1 R' i=some oi->D8 (if i=j then v else rho i) oi b->i≠j/\A1 R i=some oi/\D8 (rho i) oi b:=by
  intro i oi b hi hbi;rw[hR']at hi;by_cases e:i=j
  ·rw[if_pos e]at hi;cases hi;exact absurd hbi (hb _ _)
  ·rw[if_neg e]at hi hbi;exact⟨e,hi,hbi⟩
 have hnew:∀i oi,A1 R i=some oi->A1 R' i=some oi/\(if i=j then v else rho i)=rho i:=by
  intro i oi hi;have e:i≠j:=by rintro rfl;rw[hj]at hi;cases hi
  rw[hR',if_neg e,if_neg e];exact⟨hi,rfl⟩
 have hpi:∀b off,Prv C.X (A1 R') (fun i=>if i=j then v else rho i) b off↔Prv C.X (A1 R) rho b off:=by
  intro b off;constructor
  ·rintro (hX|⟨i,oi,hi,hbi,hp⟩)
   ·exact .inl hX
   ·obtain⟨_,h1,h2⟩:=hold i oi b hi hbi;exact .inr ⟨i,oi,h1,h2,hp⟩
  ·rintro (hX|⟨i,oi,hi,hbi,hp⟩)
   ·exact .inl hX
   ·obtain⟨h1,h2⟩:=hnew i oi hi;exact .inr ⟨i,oi,h1,by simp only[h2];exact hbi,hp⟩
 have hk:Keeps w (Prv C.X (A1 R) rho) w (Prv C.X (A1 R') (fun i=>if i=j then v else rho i)):=fun b o v hp hc=>⟨hc,fun hp'=>hp ((hpi b o).1 hp')⟩;refine⟨⟨⟨?_,?_,?_,h.hp.bound⟩,h.ext,h.size,h.same,h.keep.trans hk,?_,?_⟩,hpi,hlive⟩
 ·intro i oi hi;by_cases e:i=j
  ·subst e;rw[hR',if_pos rfl]at hi;cases hi;simp only[if_true];exact hh hk hlive
  ·have hi':=hi;rw[hR',if_neg e]at hi';simp only[e,if_false];exact (h.hp.holds i oi hi').keeps hk hlive fun b _=>rfl
 ·intro i i' oi oj b hi hi' hbi hbi';obtain⟨_,h1,h2⟩:=hold i oi b hi hbi;obtain⟨_,h3,h4⟩:=hold i' oj b hi' hbi';exact h.hp.sep i i' oi oj b h1 h3 h2 h4
 ·intro i oi b off hi hbi;obtain⟨_,h1,h2⟩:=hold i oi b hi hbi;exact h.hp.out i oi b off h1 h2
 ·rintro b ⟨i,oi,hi,hbi⟩;obtain⟨_,h1,h2⟩:=hold i oi b hi hbi;exact h.own b ⟨i,oi,h1,h2⟩
 ·intro i r b hi;by_cases e:i=j
  ·subst e;rw[hR',if_pos rfl]at hi;cases hi;simp only[if_true];exact hy r b rfl
  ·rw[hR',if_neg e]at hi;simp only[e,if_false];exact h.yld i r b hi
theorem Sat.suspend (h:Sat C st a w rho){ids:List Nat}(hd:F0 ids=true){E:Env}(hE:∀t,get E t=get st.env t \/ get E t=.top){V:Nat->Nat->Prop}(hV:∀b off,V b off ↔ ∃j o,j∈ids/\A1 st.regs j=some o/\D8 (rho j) o b/\Gw o off)(hlv:∀j∈ids,Lv (A1 st.regs) j) :Sat (C.plus V) ⟨E,K9 ids (ids.map fun _=>false) st.regs⟩ a w rho/\∀b off,Prv (C.plus V).X (A1 (K9 ids (ids.map fun _=>false) st.regs)) rho b off↔Prv C.X (A1 st.regs) rho b off:=by
 have hdup:=AD hd;have hD:∀j,A1 (K9 ids (ids.map fun _=>false) st.regs) j=if j∈ids then some .dead else A1 st.regs j:=by
  intro j;rw[Dl j ids _ _ hdup];by_cases hm:j∈ids
  ·obtain⟨p,hp⟩:=Na hm
   have:(ids.map fun _=>false)[p]? = some false:=by rw[List.getElem?_map,I6 hp];rfl
   simp only[hp,this];simp[hm]
  ·have:idx ids j=none:=by
    cases hx:idx ids j with
    |none=>rfl
    |some p=>exact absurd (List.mem_of_getElem? (I6 hx)) hm
   simp[this,hm]
 have hold:∀i oi b,A1 (K9 ids (ids.map fun _=>false) st.regs) i=some oi->D8 (rho i) oi b->i ∉ ids/\A1 st.regs i=some oi:=by
  intro i oi b hi hb;rw[hD]at hi;by_cases hm:i∈ids
  ·rw[if_pos hm]at hi;cases hi;simp[D8,O5]at hb
  ·rw[if_neg hm]at hi;exact⟨hm,hi⟩
 have hpi:∀b off,Prv (C.plus V).X (A1 (K9 ids (ids.map fun _=>false) st.regs)) rho b off↔Prv C.X (A1 st.regs) rho b off:=by
  intro b off;constructor
  ·rintro ((hX|hX)|⟨i,oi,hi,hb,hp⟩)
   ·exact .inl hX
   ·obtain⟨j,o,_,h1,h2,h3⟩:=(hV b off).1 hX;exact .inr ⟨j,o,h1,h2,h3⟩
   ·obtain⟨_,h1⟩:=hold i oi b hi hb;exact .inr ⟨i,oi,h1,hb,hp⟩
  ·rintro (hX|⟨i,oi,hi,hb,hp⟩)
   ·exact .inl (.inl hX)
   ·by_cases hm:i∈ids
    ·exact .inl (.inr ((hV b off).2 ⟨i,oi,hm,hi,hb,hp⟩))
    ·exact .inr ⟨i,oi,by rw[hD,if_neg hm];exact hi,hb,hp⟩
 have hk:Keeps w (Prv C.X (A1 st.regs) rho) w (Prv (C.plus V).X (A1 (K9 ids (ids.map fun _=>false) st.regs)) rho):=fun b o v hp hc=>⟨hc,fun hp'=>hp ((hpi b o).1 hp')⟩;have hlive:∀i,Lv (A1 st.regs) i->Lv (A1 (K9 ids (ids.map fun _=>false) st.regs)) i/\rho i=rho i:=by
  intro i hi;refine⟨?_,rfl⟩;simp only[Lv,hD];split
  ·rfl
  ·exact hi
 refine⟨⟨⟨⟨?_,?_,?_,?_⟩,h.ext,h.size,h.same,h.keep.trans hk,?_,?_⟩,?_,?_,h.marks.1,?_⟩,hpi⟩
 ·intro i oi hi;rw[hD]at hi;by_cases hm:i∈ids
  ·rw[if_pos hm]at hi;cases hi;trivial
  ·rw[if_neg hm]at hi;exact (h.hp.holds i oi hi).keeps hk hlive fun b _=>rfl
 ·intro i i' oi oj b hi hi' hb hb';exact h.hp.sep i i' oi oj b (hold i oi b hi hb).2 (hold i' oj b hi' hb').2 hb hb'
 ·rintro i oi b off hi hb (hX|hX)
  ·exact h.hp.out i oi b off (hold i oi b hi hb).2 hb hX
  ·obtain⟨j,o,hm,h1,h2,_⟩:=(hV b off).1 hX
   have:=h.hp.sep i j oi o b (hold i oi b hi hb).2 h1 hb h2
   subst this;exact (hold i oi b hi hb).1 hm
 ·rintro b off (hX|hX)
  ·exact h.hp.bound b off hX
  ·obtain⟨j,o,hm,h1,h2,_⟩:=(hV b off).1 hX;exact (h.hp.holds j o h1).lt h2
 ·rintro b ⟨i,oi,hi,hb⟩;exact h.own b ⟨i,oi,(hold i oi b hi hb).2,hb⟩
 ·intro i r b hi;rw[hD]at hi;by_cases hm:i∈ids
  ·rw[if_pos hm]at hi;cases hi
  ·rw[if_neg hm]at hi;exact h.yld i r b hi
 ·intro t;rcases hE t with he|he
  ·show RepA w _ _ rho _ (get E t);rw[he];exact (h.env t).keeps hk hlive
  ·show RepA w _ _ rho _ (get E t);rw[he];exact .top _
 ·intro i hi hl;refine h.pin i hi ?_;simp only[Lv,hD]at hl;by_cases hm:i∈ids
  ·exact hlv i hm
  ·rw[if_neg hm]at hl;exact hl
 ·intro d hd';obtain⟨r,h1,h2,h3,h4⟩:=h.marks.2 d hd';refine⟨r,h1,h2,h3,?_⟩;rintro off (hX|hX)
  ·exact h4 off hX
  ·obtain⟨j,o,_,h5,h6,_⟩:=(hV r off).1 hX;exact (h.hp.holds j o h5).nd h6 h3
theorem Sat.moves {C C' : Ctx}{V:Nat->Nat->Prop}{V' : Nat->Nat->Prop}{w' : World}{O' : Nat->Prop}(h:Sat (C.plus V) st a w rho)(hw:C'.w0=w)(hX:C'.X=fun b o=>C.X b o \/ PvR st.regs rho b o)(hPi:C'.Pi0=fun b o=>C'.X b o \/ V b o)
 (hR:Rel C' w' O' V') (hdis:∀b,C'.E0 b->¬Qq st.regs rho a.defers b) (hOC:∀b,C'.E0 b->C.E0 b \/ C.w0.heap.size<=b) :
 Sat (C.plus V') st a w' rho/\Keeps w (Prv (C.plus V).X (A1 st.regs) rho) w' (Prv (C.plus V').X (A1 st.regs) rho)/\∀b,b<w.heap.size->¬C'.E0 b->w'.heap[b]? = w.heap[b]?:=by
 subst hw;have hsame:=hR.same;have e1:∀b o,Prv (C.plus V).X (A1 st.regs) rho b o↔C'.Pi0 b o:=by
  intro b o;rw[hPi,hX];show ((C.X b o \/ V b o) \/ PvR st.regs rho b o)↔((C.X b o \/ PvR st.regs rho b o) \/ V b o);constructor
  ·rintro ((h|h)|h)
   ·exact .inl (.inl h)
   ·exact .inr h
   ·exact .inl (.inr h)
  ·rintro ((h|h)|h)
   ·exact .inl (.inl h)
   ·exact .inr h
   ·exact .inl (.inr h)
 have e2:∀b o,Prv (C.plus V').X (A1 st.regs) rho b o->(C'.X b o \/ V' b o):=by
  intro b o;rw[hX];rintro ((h|h)|h)
  ·exact .inl (.inl h)
  ·exact .inr h
  ·exact .inl (.inr h)
 have hk:Keeps C'.w0 (Prv (C.plus V).X (A1 st.regs) rho) w' (Prv (C.plus V').X (A1 st.regs) rho):=fun b o v hp hc=>
  let ⟨h1,h2⟩:=hR.keep b o v (fun hp'=>hp ((e1 b o).2 hp')) hc
  ⟨h1,fun hp'=>h2 (e2 b o hp')⟩
 have hlt:∀b,Qq st.regs rho a.defers b->b<C'.w0.heap.size:=h.rel.lt;have hblk:∀b,Qq st.regs rho a.defers b->w'.heap[b]? = C'.w0.heap[b]?:=fun b hb=>hsame b (hlt b hb) (fun hE=>hdis b hE hb);have hnV:∀b off,Qq st.regs rho a.defers b->¬V' b off:=by
  intro b off hb hv;rcases hR.own b (hR.vo b off hv)with h1|h1
  ·exact hdis b h1 hb
  ·have:=hlt b hb;omega
 refine⟨⟨⟨⟨?_,h.hp.sep,?_,?_⟩,h.ext.trans hR.ext,Nat.le_trans h.size hR.size,?_,h.keep.trans hk,h.own,h.yld⟩,fun t=>(h.env t).keeps hk fun j hj=>⟨hj,rfl⟩,h.pin,h.marks.1,?_⟩,hk,hsame⟩
 ·intro j o hj;exact (h.hp.holds j o hj).keeps hk (fun j hj=>⟨hj,rfl⟩) fun b hb=>hblk b (.inl ⟨j,o,hj,hb⟩)
 ·rintro j o b off hj hb (hx|hx)
  ·exact h.hp.out j o b off hj hb (.inl hx)
  ·exact hnV b off (.inl ⟨j,o,hj,hb⟩) hx
 ·rintro b off (hx|hx)
  ·exact Nat.lt_of_lt_of_le (h.hp.bound b off (.inl hx)) hR.size
  ·exact hR.lt b (hR.vo b off hx)
 ·intro b hb hE;have hb0:b<C'.w0.heap.size:=Nat.lt_of_lt_of_le hb h.size;have hn:¬C'.E0 b:=by
   intro he;rcases hOC b he with h1|h1
   ·exact hE h1
   ·have:b<C.w0.heap.size:=hb;omega
  rw[hsame b hb0 hn];exact h.same b hb hE
 ·intro d hd;obtain⟨r,h1,h2,h3,h4⟩:=h.marks.2 d hd;have hm:Qq st.regs rho a.defers r:=.inr (by unfold QD;rw[<- h1];exact hd);refine⟨r,h1,h2,(hblk r hm).trans h3,?_⟩;rintro off (hx|hx)
  ·exact h4 off (.inl hx)
  ·exact hnV r off hm hx
theorem Sat.minus {V:Nat->Nat->Prop}(h:Sat (C.plus V) st a w rho):Sat C st a w rho/\∀b off,Prv C.X (A1 st.regs) rho b off->Prv (C.plus V).X (A1 st.regs) rho b off:=by
 have hpi:∀b off,Prv C.X (A1 st.regs) rho b off->Prv (C.plus V).X (A1 st.regs) rho b off:=by
  rintro b off (hX|hX)
  ·exact .inl (.inl hX)
  ·exact .inr hX
 have hk:Keeps w (Prv (C.plus V).X (A1 st.regs) rho) w (Prv C.X (A1 st.regs) rho):=fun b o v hp hc=>⟨hc,fun hp'=>hp (hpi b o hp')⟩;refine⟨⟨⟨⟨?_,h.hp.sep,fun j o b off hj hb hX=>h.hp.out j o b off hj hb (.inl hX),fun b off hX=>h.hp.bound b off (.inl hX)⟩,h.ext,h.size,h.same,h.keep.trans hk,h.own,h.yld⟩,fun t=>(h.env t).keeps hk fun j hj=>⟨hj,rfl⟩,h.pin,h.marks.1,?_⟩,hpi⟩
 ·intro j o hj;exact (h.hp.holds j o hj).keeps hk (fun j hj=>⟨hj,rfl⟩) fun b hb=>rfl
 ·intro d hd;obtain⟨r,h1,h2,h3,h4⟩:=h.marks.2 d hd;exact⟨r,h1,h2,h3,fun off hX=>h4 off (.inl hX)⟩
end
end Go.AM
namespace Go.AM
section
variable {P:Program}{n:Nat}{Q:H6}
structure LiftG (𝒢 : Prot P) (r1 r0:Nat->Value) (wS:World) (TS:Nat->Nat->Prop) (OS:Nat->Prop) (VS:Nat->Nat->Prop) (C C2:Ctx) (V0:Nat->Nat->Prop):Prop where
 g : 𝒢.G C2
 r2:C2.rho0=r1
 X:C.X=fun b o=>C2.X b o \/ VS b o
 Y:C.Y=C2.Y
 yv:C.yv=C2.yv
 rho:C.rho0=r0
 pi:C.Pi0=fun b o=>C.X b o \/ V0 b o
 rel:Rel C2 C.w0 (fun b=>OS b \/ C.E0 b) (fun b o=>VS b o \/ V0 b o)
 os:∀b,OS b->C.w0.heap[b]? = wS.heap[b]?
 keep:Keeps wS TS C.w0 C.Pi0
 dis:∀b,OS b->¬C.E0 b
 size:wS.heap.size<=C.w0.heap.size
 ext:Ext wS C.w0
theorem or4 {a b c:Prop}:(a \/ b) \/ c↔a \/ (b \/ c):=or_assoc
theorem Keeps.of_imp {w:World}{p q:Nat->Nat->Prop}(h:∀b o,q b o->p b o):Keeps w p w q:=fun b o v hp hc=>⟨hc,fun hq=>hp (h b o hq)⟩
theorem LiftG.joint {𝒢 : Prot P}{r1 r0:Nat->Value}{wS:World}{TS:Nat->Nat->Prop}{OS:Nat->Prop}{VS:Nat->Nat->Prop}(hVO:∀b o,VS b o->OS b){C C2:Ctx}{V0:Nat->Nat->Prop}(h:LiftG 𝒢 r1 r0 wS TS OS VS C C2 V0)
 {w:World}{O:Nat->Prop}{V:Nat->Nat->Prop}(hR:Rel C w O V) :
 Rel C2 w (fun b=>OS b \/ O b) (fun b o=>VS b o \/ V b o)/\(∀b,OS b->w.heap[b]? = wS.heap[b]?)/\Keeps wS TS w (fun b o=>C.X b o \/ V b o)/\(∀b,OS b->¬O b)/\wS.heap.size<=w.heap.size/\Ext wS w:=by
 have hj:=h.rel;have hOS:∀b,OS b->w.heap[b]? = C.w0.heap[b]?:=fun b hb=>hR.same b (hj.lt b (.inl hb)) (h.dis b hb);refine⟨⟨hj.ext.trans hR.ext,Nat.le_trans hj.size hR.size,?_,?_,?_,?_,?_,fun b off hX=>Nat.lt_of_lt_of_le (hj.bnd b off hX) hR.size,?_⟩,fun b hb=>(hOS b hb).trans (h.os b hb),h.keep.trans hR.keep,?_,Nat.le_trans h.size hR.size,h.ext.trans hR.ext⟩
 ·intro b hb hE;rw[hR.same b (Nat.lt_of_lt_of_le hb hj.size) fun he=>by
   rcases hj.own b (.inr he)with h1|h1
   ·exact hE h1
   ·omega]
  exact hj.same b hb hE
 ·refine hj.keep.trans ((Keeps.of_imp ?_).trans (hR.keep.trans (Keeps.of_imp ?_)))
  ·intro b o hp;rw[h.pi,h.X]at hp;exact or4.1 hp
  ·intro b o hp;rw[h.X];exact or4.2 hp
 ·rintro b (hb|hb)
  ·exact hj.own b (.inl hb)
  ·rcases hR.own b hb with h1|h1
   ·exact hj.own b (.inr h1)
   ·exact .inr (Nat.le_trans hj.size h1)
 ·rintro b off (hb|hb) hX
  ·exact hj.out b off (.inl hb) hX
  ·exact hR.out b off hb (by rw[h.X];exact .inl hX)
 ·rintro b (hb|hb)
  ·exact Nat.lt_of_lt_of_le (hj.lt b (.inl hb)) hR.size
  ·exact hR.lt b hb
 ·rintro b o (hv|hv)
  ·exact .inl (hVO b o hv)
  ·exact .inr (hR.vo b o hv)
 ·intro b hb hO;rcases hR.own b hO with h1|h1
  ·exact h.dis b hb h1
  ·have:=hj.lt b (.inl hb);omega
def Prot.lift (𝒢 : Prot P)(r1 r0:Nat->Value)(wS:World)(TS:Nat->Nat->Prop)(OS:Nat->Prop)(VS:Nat->Nat->Prop)(hVO:∀b o,VS b o->OS b):Prot P where
 G:=fun C=>∃C2 V0,LiftG 𝒢 r1 r0 wS TS OS VS C C2 V0
 tab:=by rintro C ⟨C2,V0,h⟩;exact ((𝒢.tab C2 h.g).keeps h.rel.keep).keeps (Keeps.of_imp fun b o hp=>by rw[h.pi,h.X]at hp;exact or4.1 hp)
 call:=by
  rintro C w O V ys rest vs ⟨C2,V0,h⟩ hR hY hs hv;obtain⟨j1,j2,j3,j4,j5,j6⟩:=h.joint hVO hR;have hv' : ∀i,i<ys.length->RepP w (fun b o=>C2.X b o \/ (VS b o \/ V b o)) (vs.getD i undef) (ys.getD i default):=fun i hi=>
   (hv i hi).keeps (Keeps.of_imp fun b o hp=>by rw[h.X];exact or4.2 hp)
  obtain⟨l,fn,tmps,as,body,h1,h2,h3⟩:=𝒢.call C2 w _ _ ys rest vs h.g j1 (by rw[<- h.Y];exact hY) hs hv';refine⟨l,fn,tmps,as,body,h.yv.trans h1,h2,h3.mono ?_⟩;rintro e w' ⟨b,rfl,C2',g1,g2,g3,g4,g5,g6,g7,g8,g9,g10,g11,g12⟩;refine⟨b,rfl,{ X:=fun b o=>C2'.X b o \/ VS b o,w0:=w',E0:=O,Pi0:=fun b o=>(C2'.X b o \/ VS b o) \/ V b o,rho0:=C.rho0,Y:=C2'.Y,yv:=C2'.yv },⟨C2',V,?_⟩,g2.trans h.yv.symm,rfl,g4,rfl,rfl,rfl,?_,fun b hb=>g9 b (.inr hb),?_,g11,g12⟩
  ·refine⟨g1,g3.trans h.r2,rfl,rfl,rfl,h.rho,rfl,g8,fun b hb=>(g9 b (.inl hb)).trans (j2 b hb),?_,j4,Nat.le_trans j5 g11,j6.trans g12⟩;refine j3.trans ((Keeps.of_imp ?_).trans (g10.trans (Keeps.of_imp ?_)))
   ·intro b o hp;rw[h.X];exact or4.2 hp
   ·intro b o hp;exact or4.1 hp
  ·refine⟨Ext.refl _,Nat.le_refl _,fun _ _ _=>rfl,Keeps.refl _ _,fun b hb=>.inl hb,?_,fun b hb=>g8.lt b (.inr hb),?_,hR.vo⟩
   ·rintro b off hb (hx|hx)
    ·exact g8.out b off (.inr hb) hx
    ·exact j4 b (hVO b off hx) hb
   ·rintro b off (hx|hx)
    ·exact g8.bnd b off hx
    ·exact g8.lt b (.inl (hVO b off hx))
  ·refine (Keeps.of_imp ?_).trans (g10.trans (Keeps.of_imp ?_))
   ·intro b o hp;rw[h.X];exact or4.2 hp
   ·intro b o hp;exact or4.1 hp
end
section
variable {P:Program}{C:Ctx}{a:Act}{w:World}{rho:Nat->Value}{n:Nat}
theorem Jw:∀(ts:List Nat) (l:List AV) (t:Nat),ts.length=l.length->ts.Nodup->(∀i:Nat,ts[i]? = some t->get (R8 ts l) t=l.getD i .top)/\(t ∉ ts->get (R8 ts l) t=.top)
 |[],[],t,_,_=>⟨fun i h=>by simp at h,fun _=>rfl⟩
 |[],_::_,t,h,_=>by simp at h
 |_::_,[],t,h,_=>by simp at h
 |x::ts,y::l,t,h,hn=>by
  obtain⟨n1,n2⟩:=List.nodup_cons.1 hn;obtain⟨h1,h2⟩:=Jw ts l t (by simpa using h) n2;refine⟨fun i hi=>?_,fun hm=>?_⟩
  ·simp only[R8,get];cases i with
   |zero=>simp at hi;simp[hi]
   |succ i=>
    have hi' : ts[i]? = some t:=by simpa using hi
    have e:¬x=t:=by rintro rfl;exact n1 (List.mem_of_getElem? hi')
    rw[if_neg e,h1 i hi'];simp
  ·simp only[List.mem_cons,not_or]at hm;simp only[R8,get];rw[if_neg (Ne.symm hm.1),h2 hm.2]
theorem Mg:∀(ts:List Nat) (l:List AV),ts.length=l.length->(R8 ts l).map (·.1)=ts
 |[],[],_=>rfl
 |[],_::_,h=>by simp at h
 |_::_,[],h=>by simp at h
 |x::ts,y::l,h=>by simp[R8,Mg ts l (by simpa using h)]
theorem Su:∀(E:Env) (t:Nat),(E.map (·.1)).Nodup->(∀i:Nat,(E.map (·.1))[i]? = some t->get E t=(E.map (·.2)).getD i .top)/\(t ∉ E.map (·.1)->get E t=.top)
 |[],t,_=>⟨fun i h=>by simp at h,fun _=>rfl⟩
 |(x,y)::E,t,hn=>by
  obtain⟨n1,n2⟩:=List.nodup_cons.1 hn;obtain⟨h1,h2⟩:=Su E t n2;refine⟨fun i hi=>?_,fun hm=>?_⟩
  ·simp only[get];cases i with
   |zero=>simp at hi;simp[hi]
   |succ i=>
    have hi' : (E.map (·.1))[i]? = some t:=by simpa using hi
    have e:¬x=t:=by rintro rfl;exact n1 (List.mem_of_getElem? hi')
    rw[if_neg e,h1 i hi'];simp
  ·simp only[List.map_cons,List.mem_cons,not_or]at hm;simp only[get];rw[if_neg (Ne.symm hm.1),h2 hm.2]
theorem IT {regs:C4}{g i:Nat}(hd:i≠g):A1 (del g regs) i=A1 regs i:=by
 induction regs with
 |nil=>rfl
 |cons p r ih=>
  obtain⟨x,y⟩:=p;simp only[del];split
  ·rename_i e;subst e;simp[A1,Ne.symm hd]
  ·simp only[A1,ih]
theorem Jx {Pi:Nat->Nat->Prop}{live:Nat->Prop}:∀(ps:List Nat) (ys:List PV) (vs:List Value) (E:Env) (tmps:Array Value),ps.length=ys.length->ps.length=vs.length->(∀t∈ps,t<tmps.size) ->
 (∀t,RepA w Pi live rho (tmps.getD t undef) (get E t))->(∀i,i<ys.length->RepP w Pi (vs.getD i undef) (ys.getD i default)) ->
 ∀t,RepA w Pi live rho (((ps.zip vs).foldl (fun tmps (q:Nat×Value)=>tmps.setIfInBounds q.1 q.2) tmps).getD t undef) (get (Gx ps ys E) t)
 |[],[],vs,E,tmps,_,h2,_,hE,_,t=>by simpa[Gx]using hE t
 |[],_::_,_,_,_,h,_,_,_,_,_=>by simp at h
 |_::_,[],_,_,_,h,_,_,_,_,_=>by simp at h
 |p::ps,y::ys,[],_,_,_,h,_,_,_,_=>by simp at h
 |p::ps,y::ys,v::vs,E,tmps,h1,h2,hlt,hE,hv,t=>by
  simp only[List.zip_cons_cons,List.foldl_cons,Gx];refine Jx ps ys vs (ins p (.p y) E) (tmps.setIfInBounds p v) (by simpa using h1) (by simpa using h2) (fun t ht=>by simpa using hlt t (List.mem_cons_of_mem _ ht)) ?_ (fun i hi=>by simpa using hv (i+1) (by simpa using hi)) t;intro t;rw[Qu];by_cases e:p=t
  ·subst e
   have:=hlt p (by simp)
   rw[if_pos rfl];have e2:(tmps.setIfInBounds p v).getD p undef=v:=by simp[Array.getD_eq_getD_getElem?,this]
   rw[e2];exact .p _ _ (by simpa using hv 0 (by simp))
  ·rw[if_neg e];have e2:(tmps.setIfInBounds p v).getD t undef=tmps.getD t undef:=by simp[Array.getD_eq_getD_getElem?,e]
   rw[e2];exact hE t
end
end Go.AM
namespace Go.AM
section
variable {w w' : World}{Pi Pi' : Nat->Nat->Prop}{live live' : Nat->Prop}{rho:Nat->Value}
theorem RepA.drop (hk:Keeps w Pi w' Pi')(hl:∀j,live j->(∀vs,rho j ≠ .tuple vs)->live' j){v:Value}{a:AV}(h:RepA w Pi live rho v a):RepA w' Pi' live' rho v a:=by
 induction h with
 |p v x h=>exact .p v x (h.keeps hk)
 |reg j off b hj h=>exact .reg j off b (hl j hj (by rw[h];intro vs e;cases e)) h
 |vec j base n cap hj h=>exact .vec j base n cap (hl j hj (by rw[h];intro vs e;cases e)) h
 |vecp j m base n cap hj h hm=>exact .vecp j m base n cap (hl j hj (by rw[h];intro vs e;cases e)) h hm
 |elt j k i off b n cap hj h=>exact .elt j k i off b n cap (hl j hj (by rw[h];intro vs e;cases e)) h
 |mref j r hj h=>exact .mref j r (hl j hj (by rw[h];intro vs e;cases e)) h
 |clo f x y a b hx hy ha hb iha ihb=>exact .clo f x y a b hx hy iha ihb
 |tup x a hx ha ih=>exact .tup x a hx ih
 |agr x a hx h1 ha ih=>exact .agr x a hx h1 ih
 |yf j l hj h=>exact .yf j l (hl j hj (by rw[h];intro vs e;cases e)) h
 |top v=>exact .top v
theorem HoldsO.drop (hk:Keeps w Pi w' Pi')(hl:∀j,live j->(∀vs,rho j ≠ .tuple vs)->live' j){h:Value}{o:Obj}(hb:∀b,D8 h o b->w'.heap[b]? = w.heap[b]?)(hh:HoldsO w Pi live rho h o):HoldsO w' Pi' live' rho h o:=by
 cases o with
 |cells cs=>obtain⟨b,c,T,rfl,h1,h2,h3⟩:=hh;exact⟨b,c,T,rfl,(hb b rfl).trans h1,h2,fun i hi=>⟨(h3 i hi).1.drop hk hl,(h3 i hi).2⟩⟩
 |vec e k n f vw=>
  rcases hh with hn|⟨b,cap,c,rfl,h1,h2,h3,h4,h5,h6⟩
  ·exact .inl hn
  ·exact .inr ⟨b,cap,c,rfl,(hb b rfl).trans h1,h2,h3,h4,h5,fun i j hi hj=>⟨(h6 i j hi hj).1.keeps hk,(h6 i j hi hj).2⟩⟩
 |map es=>obtain⟨b,ents,clock,rfl,h1,h2,h3⟩:=hh;exact⟨b,ents,clock,rfl,(hb b rfl).trans h1,h2,fun i hi=>⟨(h3 i hi).1.keeps hk,(h3 i hi).2.keeps hk⟩⟩
 |arr n f=>obtain⟨b,c,T,rfl,h1,h2,h3⟩:=hh;exact⟨b,c,T,rfl,(hb b rfl).trans h1,h2,fun i hi=>⟨(h3 i hi).1.keeps hk,(h3 i hi).2⟩⟩
 |ghost cs=>obtain⟨vs,rfl,h1,h2⟩:=hh;exact⟨vs,rfl,h1,fun i hi=>(h2 i hi).drop hk hl⟩
 |yld r b=>exact hh
 |fam e n jr x=>
  obtain⟨rv,g1,g2,hv⟩:=hh;refine⟨rv,hl jr g1 (by rw[g2];intro vs e;cases e),g2,?_⟩;rcases hv with hv|⟨b,cap,c,rfl,h1,h2,h3,h4,h5,h6⟩
  ·exact .inl hv
  ·cases x with
   |none=>exact .inr ⟨b,cap,c,rfl,(hb b rfl).trans h1,h2,h3,h4,h5,trivial⟩
   |some q=>exact .inr ⟨b,cap,c,rfl,(hb b rfl).trans h1,h2,h3,h4,h5,h6.drop hk hl⟩
 |rows n g=>exact Fj hk hb hh
 |dead=>trivial
theorem HoldsO.block {h:Value}{o:Obj}(hh:HoldsO w Pi live rho h o){b:Nat}(hb:D8 h o b):(∃c T f,w.heap[b]? = some (.cells c T f)) \/ ∃es ck,w.heap[b]? = some (.map es ck):=by
 have:=hh.kind hb
 unfold isC at this;split at this
 ·rename_i h;exact .inl ⟨_,_,_,h⟩
 ·rename_i h;exact .inr ⟨_,_,h⟩
 ·cases this
end
section
variable {P:Program}{C:Ctx}{st:St}{a:Act}{w:World}{rho:Nat->Value}{𝒢 : Prot P}{n:Nat}{Q:H6}
theorem Sat.own_not {b:Nat}(h:Sat C st a w rho)(hb:Own (A1 st.regs) rho b){o:Go.Obj}(ho:w.heap[b]? = some o)(hc:∀c T f,o ≠ .cells c T f)(hm:∀es ck,o ≠ .map es ck):False:=by
 obtain⟨j,oj,hj,hbj⟩:=hb;rcases (h.hp.holds j oj hj).block hbj with⟨c,T,f,h1⟩ | ⟨es,ck,h1⟩
 ·rw[ho]at h1;cases h1;exact hc _ _ _ rfl
 ·rw[ho]at h1;cases h1;exact hm _ _ rfl
theorem Sat.loop_not_own {l:Nat}{lo:Loop}(h:Sat C st a w rho)(hl:w.heap[l]? = some (.loop lo)):¬Qq st.regs rho a.defers l:=by
 rintro (hb|hb)
 ·exact h.own_not hb hl (fun _ _ _ e=>by cases e) (fun _ _ e=>by cases e)
 ·obtain⟨r,h1,_,h2,_⟩:=h.marks.2 _ hb;cases h1;rw[hl]at h2;cases h2
theorem Rel.poke {O:Nat->Prop}{V:Nat->Nat->Prop}(h:Rel C w O V){l:Nat}{lo:Loop}(hl:w.heap[l]? = some (.loop lo))(hO:O l)(o' : Go.Obj):Rel C (w.putObj l o') O V:=by
 have hother:∀b,b≠l->(w.putObj l o').heap[b]? = w.heap[b]?:=fun b hb=>World.putObj_heap_other hb;refine⟨h.ext.trans ⟨rfl,rfl⟩,by rw[World.putObj_size];exact h.size,?_,?_,h.own,h.out,fun b hb=>by rw[World.putObj_size];exact h.lt b hb,fun b off hX=>by rw[World.putObj_size];exact h.bnd b off hX,h.vo⟩
 ·intro b hb hE;rw[hother b (fun e=>by subst e;rcases h.own b hO with h1|h1;exact hE h1;omega)];exact h.same b hb hE
 ·intro b o v hp hc;obtain⟨h1,h2⟩:=h.keep b o v hp hc;refine⟨?_,h2⟩;rw[<- h1];refine World.cell?_of_block (hother b ?_);rintro rfl;simp[World.cell?,hl]at h1
def Ctx.fresh (C:Ctx)(w:World)(E:Nat->Prop)(Pi:Nat->Nat->Prop):Ctx:={ C with w0:=w,E0:=E,Pi0:=Pi }
theorem Sat.pokeFresh (h:Sat C st a w rho){l:Nat}{lo:Loop}(hl:w.heap[l]? = some (.loop lo))(o' : Go.Obj) :Sat (C.fresh (w.putObj l o') (Qq st.regs rho a.defers) (Prv C.X (A1 st.regs) rho)) st a (w.putObj l o') rho:=by
 have hother:∀b,b≠l->(w.putObj l o').heap[b]? = w.heap[b]?:=fun b hb=>World.putObj_heap_other hb;have hk:∀Pi,Keeps w Pi (w.putObj l o') Pi:=fun Pi b o v hp hc=>⟨by rw[<- hc];refine World.cell?_of_block (hother b ?_);rintro rfl;simp[World.cell?,hl]at hc,hp⟩
 have hnl:∀b,Qq st.regs rho a.defers b->b≠l:=by rintro b hb rfl;exact h.loop_not_own hl hb
 refine⟨⟨⟨?_,h.hp.sep,h.hp.out,fun b off hX=>by rw[World.putObj_size];exact h.hp.bound b off hX⟩,Ext.refl _,Nat.le_refl _,fun b _ _=>rfl,Keeps.refl _ _,fun b hb=>.inl (.inl hb),h.yld⟩,fun t=>(h.env t).keeps (hk _) fun j hj=>⟨hj,rfl⟩,h.pin,h.marks.1,?_⟩
 ·intro j o hj;exact (h.hp.holds j o hj).keeps (hk _) (fun j hj=>⟨hj,rfl⟩) fun b hb=>hother b (hnl b (.inl ⟨j,o,hj,hb⟩))
 ·intro d hd;obtain⟨r,h1,h2,h3,h4⟩:=h.marks.2 d hd;have hm:QD a.defers r:=by unfold QD;rw[<- h1];exact hd
  exact⟨r,h1,.inl (.inr hm),(hother r (hnl r (.inr hm))).trans h3,h4⟩
def Jy (ts:List Nat)(tmps:Array Value):Array Value:=(ts.map fun t=>tmps.getD t undef).toArray
theorem TI (ts:List Nat)(tmps:Array Value):(Jy ts tmps).size=ts.length:=by simp[Jy]
theorem OZ {ts:List Nat}{tmps:Array Value}{i t:Nat}(h:ts[i]? = some t):(Jy ts tmps).getD i undef=tmps.getD t undef:=by simp[Jy,Array.getD_eq_getD_getElem?,h]
theorem Ae7 {r1 r0:Nat->Value}{wS:World}{TS:Nat->Nat->Prop}{OS:Nat->Prop}{V:Nat->Nat->Prop}(hVO:∀b o,V b o->OS b){C2:Ctx}{V0:Nat->Nat->Prop}(hL:LiftG 𝒢 r1 r0 wS TS OS V C C2 V0)(h:Sat C st a w rho)
 {gh:Nat}{cs:List AV}{ts:List Nat}(hgh:A1 st.regs gh=some (.ghost cs)) (hcs:cs.length=ts.length) (hdel:A1 (del gh st.regs) gh=none) (hgl:gh<1000) (hts:ts.Nodup) {a' : Act}
 (hr0:r0 gh=.tuple (Jy ts a'.tmps)) (hr0' : ∀j,j≠gh->r0 j=r1 j) (hmk:a'.defers.Nodup/\∀d∈a'.defers,∃r,d={ target:=.collected r,args:=#[] }/\wS.heap[r]? = some (.deferred (some []))) (hOS:∀b,QD a'.defers b->OS b) (hmV:∀b off,QD a'.defers b->¬V b off) :
 Sat (C2.plus V) ⟨R8 ts cs,del gh st.regs⟩ a' w rho:=by
 obtain⟨j1,j2,j3,j4,j5,_⟩:=hL.joint hVO h.rel;have hrg:rho gh=.tuple (Jy ts a'.tmps):=by rw[h.pin gh hgl (by simp[Lv,hgh]),hL.rho,hr0]
 have hold:∀i oi,A1 (del gh st.regs) i=some oi->i≠gh/\A1 st.regs i=some oi:=by
  intro i oi hi;have e:i≠gh:=by rintro rfl;rw[hdel]at hi;cases hi
  exact⟨e,by rw[<- IT e];exact hi⟩
 have hown:∀b,Own (A1 (del gh st.regs)) rho b->Own (A1 st.regs) rho b:=by rintro b ⟨i,oi,hi,hb⟩;exact⟨i,oi,(hold i oi hi).2,hb⟩
 have hpi:∀b off,Prv (C2.plus V).X (A1 (del gh st.regs)) rho b off->Prv C.X (A1 st.regs) rho b off:=by
  rintro b off (hX|⟨i,oi,hi,hb,hp⟩)
  ·exact .inl (by rw[hL.X];exact hX)
  ·exact .inr ⟨i,oi,(hold i oi hi).2,hb,hp⟩
 have hk:Keeps w (Prv C.X (A1 st.regs) rho) w (Prv (C2.plus V).X (A1 (del gh st.regs)) rho):=Keeps.of_imp hpi;have hl:∀j,Lv (A1 st.regs) j->(∀vs,rho j ≠ .tuple vs)->Lv (A1 (del gh st.regs)) j:=by
  intro j hj hne;have e:j≠gh:=by rintro rfl;exact hne _ hrg
  simpa[Lv,IT e]using hj
 refine⟨⟨⟨?_,?_,?_,?_⟩,j1.ext,j1.size,j1.same,j1.keep.trans (Keeps.of_imp ?_),fun b hb=>j1.own b (.inr (.inl (hown b hb))),?_⟩,?_,?_,hmk.1,?_⟩
 ·intro i oi hi;exact (h.hp.holds i oi (hold i oi hi).2).drop hk hl fun b _=>rfl
 ·intro i i' oi oj b hi hi' hb hb';exact h.hp.sep i i' oi oj b (hold i oi hi).2 (hold i' oj hi').2 hb hb'
 ·intro i oi b off hi hb hX;exact h.hp.out i oi b off (hold i oi hi).2 hb (by rw[hL.X];exact hX)
 ·intro b off hX;exact h.hp.bound b off (by rw[hL.X];exact hX)
 ·rintro b off ((hX|hX)|⟨i,oi,hi,hb,hp⟩)
  ·exact .inl hX
  ·exact .inr (.inl hX)
  ·exact .inr (.inr ⟨i,oi,(hold i oi hi).2,hb,hp⟩)
 ·intro i r b hi
  have:=h.yld i r b (hold i _ hi).2
  rw[hL.Y,hL.yv]at this;exact this
 ·intro t;show RepA w _ _ rho (a'.tmps.getD t undef) (get (R8 ts cs) t);obtain⟨h1,h2⟩:=Jw ts cs t hcs.symm hts;by_cases hm:t∈ts
  ·obtain⟨i,hi⟩:=List.mem_iff_getElem?.1 hm;rw[h1 i hi,<- OZ (tmps:=a'.tmps) hi];obtain⟨vs,hv,hs,hrep⟩:=h.hp.holds gh _ hgh;rw[hrg]at hv;cases hv;have hlt:i<cs.length:=by rw[hcs];exact (List.getElem?_eq_some_iff.1 hi).1
   exact (hrep i hlt).drop hk hl
  ·rw[h2 hm];exact .top _
 ·intro i hi hlv;obtain⟨oi,hoi⟩:=Option.isSome_iff_exists.1 hlv;obtain⟨hne,hr⟩:=hold i oi hoi;rw[h.pin i hi (by simp[Lv,hr]),hL.rho,hr0' i hne];show r1 i=C2.rho0 i;rw[hL.r2]
 ·intro d hd;obtain⟨r,h1,h2⟩:=hmk.2 d hd;have hm:QD a'.defers r:=by unfold QD;rw[<- h1];exact hd
  refine⟨r,h1,j1.own r (.inl (hOS r hm)),(j2 r (hOS r hm)).trans h2,?_⟩;rintro off (hX|hX)
  ·exact j1.out r off (.inl (hOS r hm)) hX
  ·exact hmV r off hm hX
end
end Go.AM
namespace Go.AM
structure RP (P:Program) where
 pr:Prot P
 n:Nat
 Q:H6
 act:Act
 l:Nat
 fn:FuncId
 D:Nat
 rA:Nat->Value
 r0:Nat->Value
 ts:List Nat
 gh:Nat
 I:List (List PV)->St->Prop
 ps:Array Tmp
 asg:Code
 body:Code
def RP.lo {P:Program}(R:RP P)(st:LoopState)(pe:Option Code):Loop:={ state:=st,pending:=pe,fn:=R.fn,tmps:=R.act.tmps,params:=R.ps,assign:=R.asg,body:=R.body,defers:=R.D }
def YI:Jd->Code->Prop
 |.ret,c=>c=.ret
 |.exit id,c=>c=.exit id
 |.goto t,c=>c=.goto t
 |_,_=>False
def RP.stOk {P:Program}(R:RP P)(s:St)(rest:List (List PV))(live:Bool)(lo:Loop):Prop:=
 (live=true/\lo=R.lo .ready none/\R.I rest s/\∀ys∈rest,ys.length=R.ps.size) \/ (live=false/\rest=[]/\∃c e,lo=R.lo .done (some c)/\YI e c/\R.Q e s)
structure InG {P:Program}(R:RP P) (C C2:Ctx) (s:St) (rhoA:Nat->Value) (XI:Nat->Nat->Prop) (rest:List (List PV)) (live:Bool) (lo:Loop):Prop where
 g:R.pr.G C2
 r2:C2.rho0=R.rA
 sat:Sat (C2.plus XI) s R.act C.w0 rhoA
 X:C.X=fun b o=>C2.X b o \/ PvR s.regs rhoA b o
 pi:C.Pi0=fun b o=>C.X b o \/ XI b o
 dis:∀b,C.E0 b->¬Qq s.regs rhoA R.act.defers b
 oc:∀b,C.E0 b->C2.E0 b \/ C2.w0.heap.size<=b
 lt:∀b,C.E0 b->b<C.w0.heap.size
 rl:C.w0.heap[R.l]? = some (.loop lo)
 lown:C2.E0 R.l \/ C2.w0.heap.size<=R.l
 lX:∀off,¬C2.X R.l off
 lE:¬C.E0 R.l
 Y:C.Y=fun r b=>r=rest/\b=live
 yv:C.yv=.func (.yield R.l) #[] #[]
 rho:C.rho0=R.r0
 keys:s.env.map (·.1)=R.ts
 ng:A1 s.regs R.gh=none
 st:R.stOk s rest live lo
section
variable {P:Program}{R:RP P}{C C2 C3 C2' : Ctx}{s s4:St}{rhoA rho4:Nat->Value}{XI V V0 TS:Nat->Nat->Prop}{rest:List (List PV)}{live:Bool}{lo:Loop}{w w2 w3:World}{O:Nat->Prop}{a3:Act}
def RP.OS (R:RP P)(O:Nat->Prop)(b:Nat):Prop:=O b \/ b=R.l \/ QD R.act.defers b
def RP.rR (R:RP P)(j:Nat):Value:=if j=R.gh then .tuple (Jy R.ts R.act.tmps)else R.rA j
theorem InG.disO (h:InG R C C2 s rhoA XI rest live lo)(hR:Rel C w O V):(∀b,O b->¬Qq s.regs rhoA R.act.defers b)/\¬O R.l:=by
 refine⟨fun b hb hF=>?_,fun hl=>?_⟩
 ·rcases hR.own b hb with h1|h1
  ·exact h.dis b h1 hF
  ·have:=h.sat.rel.lt b hF;omega
 ·rcases hR.own R.l hl with h1|h1
  ·exact h.lE h1
  ·have:=(Array.getElem?_eq_some_iff.1 h.rl).1;omega
theorem YJ (h:InG R C C2 s rhoA XI rest live lo)(hR:Rel C w O V){lob:Loop}(hgl:R.gh<1000)(hts:R.ts.Nodup)
 (hL:LiftG R.pr R.rA R.rR w2 TS (R.OS O) V C3 C2' V0) (hs:Sat C3 s4 a3 w3 rho4) {cs:List AV}(hgh:A1 s4.regs R.gh=some (.ghost cs)) (hcs:cs.length=R.ts.length) (hdel:A1 (del R.gh s4.regs) R.gh=none)
 (hk2:Keeps w (fun b o=>C.X b o \/ V b o) w2 TS) (hb2:∀b,R.OS O b->b≠R.l->w2.heap[b]? = w.heap[b]?) (hs2:w.heap.size<=w2.heap.size) (hx2:Ext w w2) (hl2:w2.heap[R.l]? = some (.loop lob))
 {rest1:List (List PV)}{live1:Bool}{lo1:Loop}(hst:R.stOk ⟨R8 R.ts cs,del R.gh s4.regs⟩ rest1 live1 lo1) :
 ∃C',InG R C' C2' ⟨R8 R.ts cs,del R.gh s4.regs⟩ rho4 V rest1 live1 lo1/\C'.yv=C.yv/\C'.rho0=C.rho0/\C'.Y rest1 live1/\C'.w0=w3.putObj R.l (.loop lo1)/\C'.E0=O/\(C'.Pi0=fun b o=>C'.X b o \/ V b o)/\Rel C' (w3.putObj R.l (.loop lo1)) O V /\
  (∀b,O b->(w3.putObj R.l (.loop lo1)).heap[b]? = w.heap[b]?)/\Keeps w (fun b o=>C.X b o \/ V b o) (w3.putObj R.l (.loop lo1)) (fun b o=>C'.X b o \/ V b o)/\w.heap.size<=(w3.putObj R.l (.loop lo1)).heap.size/\w3.heap[R.l]? = some (.loop lob)/\Ext w (w3.putObj R.l (.loop lo1)):=by
 obtain⟨hOF,hOl⟩:=h.disO hR;have hVO:∀b o,V b o->R.OS O b:=fun b o hv=>.inl (hR.vo b o hv);obtain⟨j1,j2,j3,j4,j5,j6⟩:=hL.joint hVO hs.rel;have hOM:∀b,O b->¬QD R.act.defers b:=fun b hb hm=>hOF b hb (.inr hm);have hml:∀b,QD R.act.defers b->b≠R.l:=by rintro b hm rfl;exact h.sat.loop_not_own h.rl (.inr hm)
 have hmarks:∀d∈R.act.defers,∃r,d={ target:=.collected r,args:=#[] }/\w2.heap[r]? = some (.deferred (some [])):=by
  intro d hd;obtain⟨r,h1,_,h3,_⟩:=h.sat.marks.2 d hd;have hm:QD R.act.defers r:=by unfold QD;rw[<- h1];exact hd
  refine⟨r,h1,?_⟩;rw[hb2 r (.inr (.inr hm)) (hml r hm),hR.same r (Array.getElem?_eq_some_iff.1 h3).1 (fun he=>h.dis r he (.inr hm))];exact h3
 have hres:=Ae7 hVO hL hs hgh hcs hdel hgl hts (a':=R.act) (by simp[RP.rR]) (fun j hj=>by simp[RP.rR,hj]) ⟨h.sat.marks.1,hmarks⟩ (fun b hm=>.inr (.inr hm)) (fun b off hm hv=>hOM b (hR.vo b off hv) hm);have hl3:w3.heap[R.l]? = some (.loop lob):=(j2 R.l (.inr (.inl rfl))).trans hl2;obtain⟨p1,p2⟩:=hres.poke hl3 (.loop lo1) (j1.own R.l (.inl (.inr (.inl rfl))));have hownd:∀b,Own (A1 (del R.gh s4.regs)) rho4 b->Qq s4.regs rho4 a3.defers b:=by
  rintro b ⟨i,oi,hi,hb⟩;have e:i≠R.gh:=by rintro rfl;rw[hdel]at hi;cases hi
  exact .inl ⟨i,oi,by rw[<- IT e];exact hi,hb⟩
 have hpvd:∀b off,PvR (del R.gh s4.regs) rho4 b off->PvR s4.regs rho4 b off:=by
  rintro b off ⟨i,oi,hi,hb,hp⟩;have e:i≠R.gh:=by rintro rfl;rw[hdel]at hi;cases hi
  exact⟨i,oi,by rw[<- IT e];exact hi,hb,hp⟩
 have hpo:∀b off,PvR (del R.gh s4.regs) rho4 b off->Own (A1 (del R.gh s4.regs)) rho4 b:=fun b off ⟨i,oi,hi,hb,_⟩=>⟨i,oi,hi,hb⟩;have hlt3:R.l<w3.heap.size:=(Array.getElem?_eq_some_iff.1 hl3).1;refine⟨{ X:=fun b o=>C2'.X b o \/ PvR (del R.gh s4.regs) rho4 b o,w0:=w3.putObj R.l (.loop lo1),E0:=O,Pi0:=fun b o=>(C2'.X b o \/ PvR (del R.gh s4.regs) rho4 b o) \/ V b o,rho0:=C.rho0,Y:=fun r b=>r=rest1/\b=live1,yv:=C.yv },
  ⟨hL.g,hL.r2,p1,rfl,rfl,?_,fun b hb=>j1.own b (.inl (.inl hb)),fun b hb=>by rw[World.putObj_size];exact j1.lt b (.inl (.inl hb)),World.putObj_heap_same hlt3,j1.own R.l (.inl (.inr (.inl rfl))),fun off=>j1.out R.l off (.inl (.inr (.inl rfl))),hOl,rfl,h.yv,h.rho,Mg _ _ hcs.symm,hdel,hst⟩,
  rfl,rfl,⟨rfl,rfl⟩,rfl,rfl,rfl,⟨Ext.refl _,Nat.le_refl _,fun _ _ _=>rfl,Keeps.refl _ _,fun b hb=>.inl hb,?_,fun b hb=>by rw[World.putObj_size];exact j1.lt b (.inl (.inl hb)),?_,hR.vo⟩,?_,?_,?_,hl3,(hx2.trans j6).trans ⟨rfl,rfl⟩⟩
 ·rintro b hb (hF|hF)
  ·exact j4 b (.inl hb) (hownd b hF)
  ·exact hOM b hb hF
 ·rintro b off hb (hx|hx)
  ·exact j1.out b off (.inl (.inl hb)) hx
  ·exact j4 b (.inl hb) (hownd b (hpo b off hx))
 ·rintro b off (hx|hx)
  ·rw[World.putObj_size];exact j1.bnd b off hx
  ·rw[World.putObj_size];exact hs.rel.lt b (hownd b (hpo b off hx))
 ·intro b hb;have hne:b≠R.l:=by rintro rfl;exact hOl hb
  rw[World.putObj_heap_other hne,j2 b (.inl hb),hb2 b (.inl hb) hne]
 ·refine hk2.trans (j3.trans ((Keeps.of_imp ?_).trans (p2 _)));rintro b off ((hx|hx)|hx)
  ·exact .inl (by rw[hL.X];exact .inl hx)
  ·exact .inr (hpvd b off hx)
  ·exact .inl (by rw[hL.X];exact .inr hx)
 ·rw[World.putObj_size];exact Nat.le_trans hs2 j5
end
end Go.AM
namespace Go.AM
section
variable {P:Program}{R:RP P}{C C2:Ctx}{s:St}{rhoA:Nat->Value}{XI V:Nat->Nat->Prop}{w:World}{O:Nat->Prop}
theorem Zy (ps:Array Tmp)(vs:Array Value)(tmps:Array Value):(ps.zip vs).foldl (fun tmps (x:Tmp×Value)=>match x with|(t,a)=>tmps.setIfInBounds t a) tmps=(ps.toList.zip vs.toList).foldl (fun tmps (q:Nat×Value)=>tmps.setIfInBounds q.1 q.2) tmps:=by rw[<- Array.foldl_toList,Array.toList_zip]
theorem Sv:∀(l:List (Nat×Value)) (tmps:Array Value),(l.foldl (fun tmps (q:Nat×Value)=>tmps.setIfInBounds q.1 q.2) tmps).size=tmps.size
 |[],tmps=>rfl
 |q::l,tmps=>by simp only[List.foldl_cons];rw[Sv l];simp
def Cu (R:RP P)(C2:Ctx)(s:St)(rhoA:Nat->Value)(V:Nat->Nat->Prop)(w:World):Ctx:=
 { X:=fun b o=>C2.X b o \/ V b o,w0:=w,E0:=Own (A1 s.regs) rhoA,Pi0:=fun b o=>(C2.X b o \/ V b o) \/ PvR s.regs rhoA b o,rho0:=R.rR,Y:=C2.Y,yv:=C2.yv }
theorem TJ {rest:List (List PV)}{live:Bool}{lo:Loop}(h:InG R C C2 s rhoA XI rest live lo)(hR:Rel C w O V)(m1:Sat (C2.plus V) s R.act w rhoA) :LiftG R.pr R.rA R.rR w (Cu R C2 s rhoA V w).Pi0 (R.OS O) V (Cu R C2 s rhoA V w) C2 (PvR s.regs rhoA):=by
 obtain⟨hOF,hOl⟩:=h.disO hR;have hrel:=m1.rel;refine⟨h.g,h.r2,rfl,rfl,rfl,rfl,rfl,⟨hrel.ext,hrel.size,hrel.same,hrel.keep.trans (Keeps.of_imp ?_),?_,?_,?_,fun b off hX=>hrel.bnd b off (.inl hX),?_⟩,fun b _=>rfl,Keeps.refl _ _,?_,Nat.le_refl _,Ext.refl _⟩
 ·intro b o hp;exact or4.2 hp
 ·rintro b ((hb|rfl|hb)|hb)
  ·rcases hR.own b hb with h1|h1
   ·exact h.oc b h1
   ·exact .inr (Nat.le_trans h.sat.size h1)
  ·exact h.lown
  ·exact hrel.own b (.inr hb)
  ·exact hrel.own b (.inl hb)
 ·rintro b off ((hb|rfl|hb)|hb) hX
  ·exact hR.out b off hb (by rw[h.X];exact .inl hX)
  ·exact h.lX off hX
  ·exact hrel.out b off (.inr hb) (.inl hX)
  ·exact hrel.out b off (.inl hb) (.inl hX)
 ·rintro b ((hb|rfl|hb)|hb)
  ·exact hR.lt b hb
  ·exact Nat.lt_of_lt_of_le (Array.getElem?_eq_some_iff.1 h.rl).1 hR.size
  ·exact hrel.lt b (.inr hb)
  ·exact hrel.lt b (.inl hb)
 ·rintro b o (hb|hb)
  ·exact .inl (.inl (hR.vo b o hb))
  ·obtain⟨j,oj,hj,hbj,_⟩:=hb;exact .inr ⟨j,oj,hj,hbj⟩
 ·rintro b (hb|rfl|hb) hown
  ·exact hOF b hb (.inl hown)
  ·exact h.sat.loop_not_own h.rl (.inl hown)
  ·obtain⟨r,h1,_,h2,_⟩:=m1.marks.2 _ hb;cases h1;exact m1.own_not hown h2 (fun _ _ _ e=>by cases e) (fun _ _ e=>by cases e)
theorem QJ (hact:R.act.tmps.size=R.n)(hps:∀t∈R.ps.toList,t<R.n)(hgl:R.gh<1000)(hts:R.ts.Nodup){rest:List (List PV)}{live:Bool}{lo:Loop}(h:InG R C C2 s rhoA XI rest live lo)(m1:Sat (C2.plus V) s R.act w rhoA)
 {ys:List PV}{vs:Array Value}(hlen:ys.length=R.ps.size) (hvs:vs.size=ys.length) (hv:∀i,i<ys.length->RepP w (Prv (C2.plus V).X (A1 s.regs) rhoA) (vs.getD i undef) (ys.getD i default)) :
 Sat (Cu R C2 s rhoA V w) ⟨Gx R.ps.toList ys s.env,ins R.gh (.ghost (s.env.map (·.2))) s.regs⟩ { tmps:=(R.ps.toList.zip vs.toList).foldl (fun tmps (q:Nat×Value)=>tmps.setIfInBounds q.1 q.2) R.act.tmps,defers:=[] } w
  (fun i=>if i=R.gh then .tuple (Jy R.ts R.act.tmps)else rhoA i):=by
 have hkeys:(s.env.map (·.1)).Nodup:=by rw[h.keys];exact hts
 have hE0:SatE (Cu R C2 s rhoA V w) s.regs w rhoA:=⟨m1.hp,Ext.refl _,Nat.le_refl _,fun _ _ _=>rfl,Keeps.refl _ _,fun b hb=>.inl hb,m1.yld⟩;obtain⟨g1,g2,g3⟩:=hE0.add (R':=ins R.gh (.ghost (s.env.map (·.2))) s.regs) h.ng (o:=.ghost (s.env.map (·.2))) (v:=.tuple (Jy R.ts R.act.tmps)) (fun u b h=>by cases h)
  (fun i=>by rw[A4];by_cases e:i=R.gh<;>simp[e,eq_comm])
  (fun hk hl=>⟨_,rfl,by rw[TI,<- h.keys];simp,fun i hi=>by
   have hi' : i<(s.env.map (·.1)).length:=by simpa using hi
   obtain⟨t,ht⟩:∃t,(s.env.map (·.1))[i]? = some t:=⟨_,List.getElem?_eq_getElem hi'⟩;have ht' : R.ts[i]? = some t:=by rw[<- h.keys];exact ht
   rw[OZ ht', <- (Su s.env t hkeys).1 i ht];exact (m1.env t).keeps hk hl⟩)
  (fun r b he=>by cases he)
 have hk:Keeps w (Prv (C2.plus V).X (A1 s.regs) rhoA) w (Prv (Cu R C2 s rhoA V w).X (A1 (ins R.gh (.ghost (s.env.map (·.2))) s.regs)) (fun i=>if i=R.gh then .tuple (Jy R.ts R.act.tmps)else rhoA i)):=
  Keeps.of_imp fun b o hp=>(g2 b o).1 hp
 refine⟨g1,?_,?_,List.nodup_nil,fun d hd=>by simp at hd⟩
 ·refine Jx R.ps.toList ys vs.toList s.env R.act.tmps (by simp[hlen]) (by simp[hvs,hlen]) (fun t ht=>by rw[hact];exact hps t ht) (fun t=>(m1.env t).keeps hk g3) (fun i hi=>?_)
  have:=(hv i hi).keeps hk
  simpa[Array.getD_eq_getD_getElem?,List.getD_eq_getElem?_getD]using this
 ·intro j hj hl;show (if j=R.gh then Value.tuple (Jy R.ts R.act.tmps)else rhoA j)=R.rR j;unfold RP.rR;by_cases e:j=R.gh
  ·simp[e]
  ·simp only[e,if_false];have hl' : Lv (A1 s.regs) j:=by simp only[Lv,A4]at hl;rw[if_neg (Ne.symm e)]at hl;exact hl
   rw[m1.pin j hj hl'];show C2.rho0 j=R.rA j;rw[h.r2]
theorem QK (hact:R.act.tmps.size=R.n)(hps:∀t∈R.ps.toList,t<R.n)(hgl:R.gh<1000)(hts:R.ts.Nodup)(casg:GH P R.n R.asg)(cbody:GH P R.n R.body)
 (hround:∀ys rest s,s.env.map (·.1)=R.ts->A1 s.regs R.gh=none->R.I (ys::rest) s->awp (Ft P) P R.asg (fun e s'=>match e with | .normal=>semUp s' fun s'=>awp (Ft P) P R.body (CH (Ft P) R.gh R.ts (R.I rest) R.Q) s' | _=>False) ⟨Gx R.ps.toList ys s.env,ins R.gh (.ghost (s.env.map (·.2))) s.regs⟩)
 {ys:List PV}{rest:List (List PV)}{lo:Loop}{vs:Array Value}(h:InG R C C2 s rhoA XI (ys::rest) true lo) (hR:Rel C w O V) (hvs:vs.size=ys.length) (hv:∀i,i<ys.length->RepP w (fun b o=>C.X b o \/ V b o) (vs.getD i undef) (ys.getD i default)) :
 Ae3 P C.yv vs w fun b w'=>∃C',(∃C2 s rhoA XI rest live lo,InG R C' C2 s rhoA XI rest live lo)/\C'.yv=C.yv/\C'.rho0=C.rho0/\C'.Y (if b then rest else []) b/\C'.w0=w' /\ C'.E0=O/\(C'.Pi0=fun b o=>C'.X b o \/ V b o)/\Rel C' w' O V /\
  (∀b,O b->w'.heap[b]? = w.heap[b]?)/\Keeps w (fun b o=>C.X b o \/ V b o) w' (fun b o=>C'.X b o \/ V b o)/\w.heap.size<=w'.heap.size/\Ext w w':=by
 obtain⟨hlo,hI,hlens⟩:lo=R.lo .ready none/\R.I (ys::rest) s/\∀z∈ys::rest,z.length=R.ps.size:=by
  rcases h.st with⟨_,hlo,hI,hlens⟩ | ⟨hf,_⟩
  ·exact⟨hlo,hI,hlens⟩
  ·cases hf
 subst hlo;have hlen:ys.length=R.ps.size:=hlens ys (by simp);obtain⟨m1,m2,m3⟩:=h.sat.moves rfl h.X h.pi hR h.dis h.oc;have hllt:R.l<C.w0.heap.size:=(Array.getElem?_eq_some_iff.1 h.rl).1;have hl:w.heap[R.l]? = some (.loop (R.lo .ready none)):=(m3 R.l hllt h.lE).trans h.rl;have hT:∀b o,Prv (C2.plus V).X (A1 s.regs) rhoA b o↔(C.X b o \/ V b o):=by
  intro b o;rw[h.X];show ((C2.X b o \/ V b o) \/ PvR s.regs rhoA b o)↔((C2.X b o \/ PvR s.regs rhoA b o) \/ V b o);constructor
  ·rintro ((h|h)|h)
   ·exact .inl (.inl h)
   ·exact .inr h
   ·exact .inl (.inr h)
  ·rintro ((h|h)|h)
   ·exact .inl (.inl h)
   ·exact .inr h
   ·exact .inl (.inr h)
 have hVO:∀b o,V b o->R.OS O b:=fun b o hv=>.inl (hR.vo b o hv);refine⟨R.l,R.fn,_,R.asg,R.body,h.yv,run_yield hl (by simp[RP.lo];omega),?_⟩;refine roundIn_of_wpIn trivial ?_;show R.asg.wpIn (FW (some R.l)) 0 P _ { tmps:=(R.ps.zip vs).foldl (fun tmps (x:Tmp×Value)=>match x with|(t,a)=>tmps.setIfInBounds t a) R.act.tmps,defers:=[] } w;rw[Zy];have hs0:=QJ hact hps hgl hts h m1 hlen hvs (fun i hi=>(hv i hi).keeps (Keeps.of_imp fun b o hp=>(hT b o).1 hp));have hL0:=TJ h hR m1;have hro1:Ae6 (R.pr.lift R.rA R.rR w (Cu R C2 s rhoA V w).Pi0 (R.OS O) V hVO) (some R.l):=by rintro l' hl' C' ⟨C2',V0,hL⟩;cases hl';exact⟨_,(hL.os R.l (.inr (.inl rfl))).trans hl,hL.dis R.l (.inr (.inl rfl))⟩
 refine wpIn_mono (casg (R.pr.lift R.rA R.rR w (Cu R C2 s rhoA V w).Pi0 (R.OS O) V hVO) (some R.l) hro1 _ _ _ _ w _ ⟨C2,_,hL0⟩ hs0 ((Sv _ _).trans hact) (hround ys rest s h.keys h.ng hI)) ?_;intro e a1 w1 he;cases e with
 |exit id=>obtain⟨_,_,_,_,_,_,hf⟩:=he;exact hf.elim
 |goto t=>obtain⟨_,_,_,_,_,_,hf⟩:=he;exact hf.elim
 |ret=>obtain⟨_,_,_,_,_,_,hf⟩:=he;exact hf.elim
 |panic ch=>obtain⟨_,_,_,_,_,_,_,_,_,_,hf⟩:=he;exact hf.elim
 |outgrown=>exact he.elim
 |normal=>
  obtain⟨C1,s1',rho1',⟨C2',V1,hL1⟩,hs1',hsz1,hu⟩:=he;obtain⟨s1,rho1,hw1,_,hs1⟩:=hu C1 a1 w1 rho1' hs1';obtain⟨j1,j2,j3,j4,j5,j6⟩:=hL1.joint hVO hs1.rel;have hl1:w1.heap[R.l]? = some (.loop (R.lo .ready none)):=(j2 R.l (.inr (.inl rfl))).trans hl;refine⟨w1.putObj R.l (.loop (R.lo .busy none)),run_beginRound hl1 rfl,?_⟩;have hsB:=hs1.pokeFresh hl1 (.loop (R.lo .busy none));have hl2:(w1.putObj R.l (.loop (R.lo .busy none))).heap[R.l]? = some (.loop (R.lo .busy none)):=World.putObj_heap_same (Array.getElem?_eq_some_iff.1 hl1).1;have hLB:LiftG R.pr R.rA R.rR (w1.putObj R.l (.loop (R.lo .busy none))) (Prv C1.X (A1 s1.regs) rho1) (R.OS O) V (C1.fresh (w1.putObj R.l (.loop (R.lo .busy none))) (Qq s1.regs rho1 a1.defers) (Prv C1.X (A1 s1.regs) rho1)) C2' (PvR s1.regs rho1):=
   ⟨hL1.g,hL1.r2,hL1.X,hL1.Y,hL1.yv,hL1.rho,rfl,j1.poke hl1 (.inl (.inr (.inl rfl))) _,fun b _=>rfl,Keeps.refl _ _,j4,Nat.le_refl _,Ext.refl _⟩
  have hro2:Ae6 (R.pr.lift R.rA R.rR (w1.putObj R.l (.loop (R.lo .busy none))) (Prv C1.X (A1 s1.regs) rho1) (R.OS O) V hVO) (some R.l):=by rintro l' hl' C' ⟨C2',V0,hL⟩;cases hl';exact⟨_,(hL.os R.l (.inr (.inl rfl))).trans hl2,hL.dis R.l (.inr (.inl rfl))⟩
  have hk2:Keeps w (fun b o=>C.X b o \/ V b o) (w1.putObj R.l (.loop (R.lo .busy none))) (Prv C1.X (A1 s1.regs) rho1):=by refine (Keeps.of_imp fun b o hp=>(hT b o).1 hp:Keeps w _ w (Cu R C2 s rhoA V w).Pi0).trans (j3.trans fun b o v hp hc=>⟨?_,hp⟩);rw[<- hc];refine World.cell?_of_block (World.putObj_heap_other ?_);rintro rfl;simp[World.cell?,hl1]at hc
  have hb2:∀b,R.OS O b->b≠R.l->(w1.putObj R.l (.loop (R.lo .busy none))).heap[b]? = w.heap[b]?:=fun b hb hne=>(World.putObj_heap_other hne).trans (j2 b hb);have hs2:w.heap.size<=(w1.putObj R.l (.loop (R.lo .busy none))).heap.size:=by rw[World.putObj_size];exact j5
  have hx2:Ext w (w1.putObj R.l (.loop (R.lo .busy none))):=j6.trans ⟨rfl,rfl⟩;show R.body.wpIn (FW (some R.l)) 0 P _ a1 _;refine wpIn_mono (cbody (R.pr.lift R.rA R.rR (w1.putObj R.l (.loop (R.lo .busy none))) (Prv C1.X (A1 s1.regs) rho1) (R.OS O) V hVO) (some R.l) hro2 _ _ _ _ _ _ ⟨C2',_,hLB⟩ hsB hsz1 hw1) ?_;have fin:∀(e:Jd) (c:Code) (a3:Act) (w3:World),YI e c->NextOk (R.pr.lift R.rA R.rR (w1.putObj R.l (.loop (R.lo .busy none))) (Prv C1.X (A1 s1.regs) rho1) (R.OS O) V hVO) R.n (fun s=>semUp s fun s=>∃cs,A1 s.regs R.gh=some (.ghost cs)/\cs.length=R.ts.length/\A1 (del R.gh s.regs) R.gh=none/\R.Q e ⟨R8 R.ts cs,del R.gh s.regs⟩) a3 w3 ->
   ∃v w',(Instr.endRound R.l (some c)).run P w3=.ok v w' /\ ∃b:Bool,Ending.returned v=.returned (.bool b)/\∃C',(∃C2 s rhoA XI rest live lo,InG R C' C2 s rhoA XI rest live lo)/\C'.yv=C.yv/\C'.rho0=C.rho0/\C'.Y (if b then rest else []) b/\C'.w0=w' /\ C'.E0=O/\(C'.Pi0=fun b o=>C'.X b o \/ V b o)/\Rel C' w' O V /\
    (∀b,O b->w'.heap[b]? = w.heap[b]?)/\Keeps w (fun b o=>C.X b o \/ V b o) w' (fun b o=>C'.X b o \/ V b o)/\w.heap.size<=w'.heap.size/\Ext w w':=by
   rintro e c a3 w3 hjc ⟨C3,s3,rho3,⟨C2f,V3,hL3⟩,hs3,hsz3,hu3⟩;obtain⟨s4,rho4,⟨cs,hgh,hcs,hdel,hQ⟩,_,hs4⟩:=hu3 C3 a3 w3 rho3 hs3;obtain⟨C',f1,f2,f3,f4,f5,f6,f7,f8,f9,f10,f11,f12,f13⟩:=YJ h hR hgl hts hL3 hs4 hgh hcs hdel hk2 hb2 hs2 hx2 hl2 (rest1:=[]) (live1:=false) (lo1:=R.lo .done (some c)) (.inr ⟨rfl,rfl,c,e,rfl,hjc,hQ⟩);exact⟨.bool false,_,run_endRound (some c) f12,false,rfl,C',⟨_,_,_,_,_,_,_,f1⟩,f2,f3,f4,f5,f6,f7,f8,f9,f10,f11,f13⟩
  intro e a3 w3 he;cases e with
  |normal=>obtain⟨C3,s3,rho3,⟨C2f,V3,hL3⟩,hs3,hsz3,hu3⟩:=he;obtain⟨s4,rho4,⟨cs,hgh,hcs,hdel,hI'⟩,_,hs4⟩:=hu3 C3 a3 w3 rho3 hs3;obtain⟨C',f1,f2,f3,f4,f5,f6,f7,f8,f9,f10,f11,f12,f13⟩:=YJ h hR hgl hts hL3 hs4 hgh hcs hdel hk2 hb2 hs2 hx2 hl2 (rest1:=rest) (live1:=true) (lo1:=R.lo .ready none) (.inl ⟨rfl,rfl,hI',fun ys hys=>hlens ys (List.mem_cons_of_mem _ hys)⟩);exact⟨.bool true,_,run_endRound none f12,true,rfl,C',⟨_,_,_,_,_,_,_,f1⟩,f2,f3,f4,f5,f6,f7,f8,f9,f10,f11,f13⟩
  |ret=>exact fin .ret .ret a3 w3 rfl he
  |exit id=>exact fin (.exit id) (.exit id) a3 w3 rfl he
  |goto t=>exact fin (.goto t) (.goto t) a3 w3 rfl he
  |panic ch=>obtain⟨_,_,_,_,_,_,_,_,_,_,hf⟩:=he;exact hf.elim
  |outgrown=>exact he.elim
end
end Go.AM
namespace Go.AM
section
variable {P:Program}{C:Ctx}{st:St}{a:Act}{w:World}{rho:Nat->Value}{𝒢 : Prot P}{n:Nat}{Q:H6}{ro:Option Nat}
def RP.prot (R:RP P)(hact:R.act.tmps.size=R.n)(hps:∀t∈R.ps.toList,t<R.n)(hgl:R.gh<1000)(hts:R.ts.Nodup)(casg:GH P R.n R.asg)(cbody:GH P R.n R.body)
 (hround:∀ys rest s,s.env.map (·.1)=R.ts->A1 s.regs R.gh=none->R.I (ys::rest) s->awp (Ft P) P R.asg (fun e s'=>match e with | .normal=>semUp s' fun s'=>awp (Ft P) P R.body (CH (Ft P) R.gh R.ts (R.I rest) R.Q) s' | _=>False) ⟨Gx R.ps.toList ys s.env,ins R.gh (.ghost (s.env.map (·.2))) s.regs⟩):Prot P where
 G:=fun C=>∃C2 s rhoA XI rest live lo,InG R C C2 s rhoA XI rest live lo
 tab:=by
  rintro C ⟨C2,s,rhoA,XI,rest,live,lo,h⟩;refine ((R.pr.tab C2 h.g).keeps h.sat.keep).keeps (Keeps.of_imp fun b o hp=>?_);rw[h.pi,h.X]at hp;rcases hp with (hp|hp)|hp
  ·exact .inl (.inl hp)
  ·exact .inr hp
  ·exact .inl (.inr hp)
 call:=by rintro C w O V ys rest vs ⟨C2,s,rhoA,XI,rest0,live,lo,h⟩ hR hY hvs hv;rw[h.Y]at hY;obtain⟨rfl,rfl⟩:=hY;exact QK hact hps hgl hts casg cbody hround h hR hvs hv
theorem Sat.mark (h:Sat C st a w rho){w' : World}(hsz:w.heap.size<=w'.heap.size)(hheap:∀b,b<w.heap.size->w'.heap[b]? = w.heap[b]?)(hxt:Ext w w'){mk:List Deferred}
 (hm:mk=[] \/ ∃r,mk=[{ target:=.collected r,args:=#[] }]/\w.heap.size<=r/\w'.heap[r]? = some (.deferred (some []))):Sat C st { a with defers:=mk++a.defers } w' rho:=by
 obtain⟨h1,_⟩:=h.grow hsz hheap hxt;rcases hm with rfl|⟨r,rfl,hr,hd⟩
 ·exact h1
 ·refine⟨h1.toSatE,h1.env,h1.pin,?_,?_⟩
  ·refine List.nodup_cons.2 ⟨fun hmem=>?_,h.marks.1⟩;obtain⟨r',e1,_,e2,_⟩:=h.marks.2 _ hmem;cases e1
   have:=(Array.getElem?_eq_some_iff.1 e2).1;omega
  ·intro d hd';rcases List.mem_cons.1 hd' with rfl|hd'
   ·exact⟨r,rfl,.inr (Nat.le_trans h.size hr),hd,fun off hX=>by have:=h.hp.bound r off hX;omega⟩
   ·exact h1.marks.2 d hd'
theorem Pa {f:FuncId}{vs:Array Value}{fn:Func}(hf:P.funcs[f]? = some fn)(hb:fn.body.isSome=true)(hname:(fn.name == "runtime.NumGoroutine")=false):(callFunc f vs).run P w=.ok (.enter f vs) w:=by
 have hn' : ¬fn.name = "runtime.NumGoroutine" := by simpa using hname
 obtain⟨c,hc⟩:=Option.isSome_iff_exists.1 hb;simp[callFunc,hf,hn',hc]
set_option maxHeartbeats 2000000 in
theorem QL {g:Operand}{ps:Array Tmp}{asg body:Code}(hps:(ps.toList.all fun t=>Nat.blt t n)=true)(casg:GH P n asg)(cbody:GH P n body):GH P n (.rangeFunc g ps asg body):=by
 intro 𝒢 ro hro Q C st a w rho hG h hsz hw;obtain⟨f,first,caps,as,bs,objs,ids,ts,gh,L,I,Fin,h1,⟨fn,hfn,hfb,hfname⟩,hny,hd,hr1,hr2,hob,hgl,hng,hids,hts,hlens,hup,hround,hend,hF⟩:=hw;refine wpIn_rangeFunc ?_;intro fid _;obtain⟨l,mk,D,w1,hent,hxt,hl,hlsz,hwsz,hheap,hmk⟩:∃(l:Nat) (mk:List Deferred) (D:Nat) (w1:World),(Instr.enterLoop fid a.tmps ps asg body ro).run P w=.ok (l,mk) w1/\Ext w w1 /\
  w1.heap[l]? = some (.loop { state:=.ready,pending:=none,fn:=fid,tmps:=a.tmps,params:=ps,assign:=asg,body:=body,defers:=D })/\w.heap.size<=l/\w.heap.size<=w1.heap.size/\(∀b,b<w.heap.size->w1.heap[b]? = w.heap[b]?) /\
  (mk=[] \/ ∃r,mk=[{ target:=.collected r,args:=#[] }]/\w.heap.size<=r/\w1.heap[r]? = some (.deferred (some []))):=by
  cases ro with
  |none=>
   refine⟨_,_,w.heap.size,_,run_enterLoop_outer fid a.tmps ps asg body,⟨rfl,rfl⟩,?_,by omega,by simp;omega,?_,.inr ⟨w.heap.size,rfl,Nat.le_refl _,?_⟩⟩
   ·have:=World.alloc_heap_new (w.alloc (.deferred (some []))) (.loop { state:=.ready,pending:=none,fn:=fid,tmps:=a.tmps,params:=ps,assign:=asg,body:=body,defers:=w.heap.size })
    simpa using this
   ·intro b hb;rw[heap_alloc_old _ _ b (by simp;omega),heap_alloc_old _ _ b hb]
   ·rw[heap_alloc_old _ _ _ (by simp)];exact World.alloc_heap_new w _
  |some l0=>
   obtain⟨r,hr,hE⟩:=hro l0 rfl C hG;have hr' : w.heap[l0]? = some (.loop r):=by rw[h.same l0 (Array.getElem?_eq_some_iff.1 hr).1 hE];exact hr
   refine⟨w.heap.size,[],r.defers,w.alloc (.loop { state:=.ready,pending:=none,fn:=fid,tmps:=a.tmps,params:=ps,assign:=asg,body:=body,defers:=r.defers }),?_,⟨rfl,rfl⟩,World.alloc_heap_new w _,Nat.le_refl _,by simp,fun b hb=>heap_alloc_old _ _ b hb,.inl rfl⟩;unfold Instr.enterLoop;simp only[Sem.run_bind,run_getLoop hr',Result.andThen,Sem.run_pure,run_newObj_alloc]
 have hA:=h.mark hwsz hheap hxt hmk;obtain⟨act,hact⟩:∃act:Act,act={ a with defers:=mk++a.defers }:=⟨_,rfl⟩;have hacts:act.tmps.size=n:=by rw[hact];exact hsz
 rw[<- hact]at hA;obtain⟨x,y,hx,hrx,hry⟩:=QG hA h1;have hxy:=RepV.append hrx hry;obtain⟨hobl,hobg⟩:=U0 hob;obtain⟨args0,hargs0,hrl⟩:∃args0,BN ids (first++caps)=some args0/\args0=as++bs:=by
  have:∀(l m l' m' : List AV),BN ids l=some l' -> BN ids m=some m' -> BN ids (l++m)=some (l' ++ m'):=by
   intro l
   induction l with
   |nil=>intro m l' m' hl hm;simp only[BN,Option.some.injEq]at hl;subst hl;simpa using hm
   |cons z l ih=>
    intro m l' m' hl hm;simp only[BN]at hl;split at hl
    ·rename_i z' l2 hz hl2;cases hl;simp only[List.cons_append,BN,hz,ih m l2 m' hl2 hm]
    ·cases hl
  exact⟨_,this _ _ _ _ hr1 hr2,rfl⟩
 subst hrl;have hS1:=Id hA hd hob hny trivial hargs0 (vs:=x++y) hxy.1 hxy.2;have hidx:∀j∈ids,Lv (A1 st.regs) j:=by intro j hj;obtain⟨p,hp⟩:=List.mem_iff_getElem?.1 hj;obtain⟨o,_,ho,_⟩:=hobg p j hp;simp[Lv,ho]
 obtain⟨VI,hVI⟩:∃VI:Nat->Nat->Prop,VI=fun b off=>∃j o,j∈ids/\A1 st.regs j=some o/\D8 (rho j) o b/\Gw o off:=⟨_,rfl⟩;obtain⟨hsus,hsuspi⟩:=hA.suspend hd (E:=R8 ts (ts.map (get st.env))) (V:=VI) (fun t=>by
  obtain⟨e1,e2⟩:=Jw ts (ts.map (get st.env)) t (by simp) hts;by_cases hm:t∈ts
  ·obtain⟨i,hi⟩:=List.mem_iff_getElem?.1 hm;exact .inl (by rw[e1 i hi,List.getD_eq_getElem?_getD,List.getElem?_map,hi];rfl)
  ·exact .inr (e2 hm)) (fun b off=>by rw[hVI]) hidx
 obtain⟨s1,rho1,⟨hk1,hn1,hI1⟩,hup1,hs1⟩:=hup _ act w1 rho hsus;obtain⟨rI,hrI⟩:∃rI:Nat->Value,rI=fun p=>if p=ids.length then .func (.yield l) #[] #[]else rho (ids.getD p 0):=⟨_,rfl⟩
 obtain⟨R,hRdef⟩:∃R:RP P,R={ pr:=𝒢,n:=n,Q:=Q,act:=act,l:=l,fn:=fid,D:=D,rA:=C.rho0,r0:=rI,ts:=ts,gh:=gh,I:=I,ps:=ps,asg:=asg,body:=body }:=⟨_,rfl⟩;obtain⟨CI,hCI⟩:∃CI:Ctx,CI={ X:=fun b o=>C.X b o \/ PvR s1.regs rho1 b o,w0:=w1,E0:=fun b=>∃j o,j∈ids/\A1 st.regs j=some o/\D8 (rho j) o b,Pi0:=fun b o=>(C.X b o \/ PvR s1.regs rho1 b o) \/ VI b o,rho0:=rI,Y:=fun r b=>r=L/\b=true,yv:=.func (.yield l) #[] #[] }:=⟨_,rfl⟩;have hlC:C.E0 l \/ C.w0.heap.size<=l:=.inr (Nat.le_trans h.size hlsz);have hVIx:∀b,CI.E0 b->∃off,VI b off:=by
  intro b hb;subst hCI;obtain⟨j,o,hj,ho,hbo⟩:=hb;cases o with
  |vec e k m f vw=>
   refine⟨m*k,?_⟩;rw[hVI];refine⟨j,_,hj,ho,hbo,?_⟩;cases vw
   ·trivial
   ·exact Nat.le_refl _
  |cells cs=>exact⟨0,by rw[hVI];exact⟨j,_,hj,ho,hbo,trivial⟩⟩
  |map es=>exact⟨0,by rw[hVI];exact⟨j,_,hj,ho,hbo,trivial⟩⟩
  |arr n f=>exact⟨0,by rw[hVI];exact⟨j,_,hj,ho,hbo,trivial⟩⟩
  |fam=>exact⟨0,by rw[hVI];exact⟨j,_,hj,ho,hbo,trivial⟩⟩
  |rows=>exact⟨0,by rw[hVI];exact⟨j,_,hj,ho,hbo,trivial⟩⟩
  |ghost cs=>simp[D8,O5]at hbo
  |yld r b=>simp[D8,O5]at hbo
  |dead=>simp[D8,O5]at hbo
 have hEl:∀b,CI.E0 b->b<w1.heap.size/\b<w.heap.size:=by
  intro b hb;subst hCI;obtain⟨j,o,hj,ho,hbo⟩:=hb
  have:=(h.hp.holds j o ho).lt hbo
  exact⟨by omega,this⟩
 have hin:InG R CI C s1 rho1 VI L true (R.lo .ready none):=by
  subst hRdef;refine⟨hG,rfl,by subst hCI;exact hs1,by subst hCI;rfl,by subst hCI;rfl,?_,?_,?_,?_,hlC,fun off hX=>?_,?_,by subst hCI;rfl,by subst hCI;rfl,by subst hCI;rfl,hk1,hn1,.inl ⟨rfl,rfl,hI1,hlens⟩⟩
  ·rintro b hb (hF|hF)
   ·obtain⟨off,hv⟩:=hVIx b hb;obtain⟨i,oi,hi,hbi⟩:=hF;exact hs1.hp.out i oi b off hi hbi (.inr hv)
   ·subst hCI;obtain⟨j,o,hj,ho,hbo⟩:=hb;obtain⟨r,e1,_,e2,_⟩:=hA.marks.2 _ hF;cases e1;exact (hA.hp.holds j o ho).nd hbo e2
  ·intro b hb;subst hCI;obtain⟨j,o,hj,ho,hbo⟩:=hb;exact h.own b ⟨j,o,ho,hbo⟩
  ·intro b hb
   have:=(hEl b hb).1
   subst hCI;exact this
  ·have e:RP.lo { pr:=𝒢,n:=n,Q:=Q,act:=act,l:=l,fn:=fid,D:=D,rA:=C.rho0,r0:=rI,ts:=ts,gh:=gh,I:=I,ps:=ps,asg:=asg,body:=body } .ready none={ state:=.ready,pending:=none,fn:=fid,tmps:=a.tmps,params:=ps,assign:=asg,body:=body,defers:=D }:=by simp[RP.lo,hact]
   rw[e];subst hCI;exact hl
  ·have:=h.hp.bound l off hX;omega
  ·intro hE
   have:=(hEl l hE).2;omega
 have hne:ids.length ∉ List.range ids.length:=by simp
 have hrgI:∀p,A1 (objRegs (objs++[.yld L true])) p=if p=ids.length then some (.yld L true)else A1 (objRegs objs) p:=by
  intro p;rw[C6,C6];by_cases e:p=ids.length
  ·subst e;rw[if_pos rfl,<- hobl];simp
  ·rw[if_neg e];by_cases hlt:p<objs.length
   ·rw[List.getElem?_append_left hlt]
   ·rw[List.getElem?_eq_none (by simp;omega),List.getElem?_eq_none (by omega)]
 have hT:∀b o,(CI.X b o \/ VI b o)->Prv C.X (A1 st.regs) rho b o:=by
  intro b o hp;refine (hsuspi b o).1 (hup1 b o ?_);subst hCI;rcases hp with (hp|hp)|hp
  ·exact .inl (.inl hp)
  ·exact .inr hp
  ·exact .inl (.inr hp)
 have hprI:∀b off,Prv CI.X (A1 (objRegs objs)) (fun p=>rho (ids.getD p 0)) b off↔(CI.X b off \/ VI b off):=by
  intro b off;refine or_congr Iff.rfl ?_;rw[hVI];constructor
  ·rintro⟨p,o',hp,hb,hpr⟩;rw[C6]at hp;have hlt:p<ids.length:=by rw[<- hobl];exact (List.getElem?_eq_some_iff.1 hp).1
   obtain⟨o,o2,e1,e2,e3⟩:=hobg p _ (List.getElem?_eq_getElem hlt);rw[hp]at e3;cases e3;simp only[Bi (List.getElem?_eq_getElem hlt),T9 e2]at hb;exact⟨_,o,List.getElem_mem hlt,e1,hb,(GG e2 off).1 hpr⟩
  ·rintro⟨j,o,hj,ho,hb,hpr⟩;obtain⟨p,hp⟩:=List.mem_iff_getElem?.1 hj;obtain⟨o1,o2,e1,e2,e3⟩:=hobg p j hp;rw[ho]at e1;cases e1;refine⟨p,o2,by rw[C6];exact e3,?_,(GG e2 off).2 hpr⟩;simp only[Bi hp,T9 e2];exact hb
 have hkI:Keeps w1 (Prv (C.callee st.regs w1 rho ids).X (A1 (objRegs objs)) (fun p=>rho (ids.getD p 0))) w1 (Prv CI.X (A1 (objRegs objs)) (fun p=>rho (ids.getD p 0))):=
  Keeps.of_imp fun b o hp=>(Mc hob b o).2 (hT b o ((hprI b o).1 hp))
 have hEI:SatE CI (objRegs objs) w1 (fun p=>rho (ids.getD p 0)):=by
  refine⟨⟨fun p o hp=>(hS1.hp.holds p o hp).keeps hkI (fun j hj=>⟨hj,rfl⟩) fun b _=>rfl,hS1.hp.sep,?_,?_⟩,by subst hCI;exact Ext.refl _,by subst hCI;exact Nat.le_refl _,by subst hCI;exact fun b _ _=>rfl,?_,?_,?_⟩
  ·intro p o b off hp hb hX;have hE:CI.E0 b:=by
    rcases hS1.own b ⟨p,o,hp,hb⟩with h1|h1
    ·subst hCI;exact h1
    ·have:=(hS1.hp.holds p o hp).lt hb
     have h1:w1.heap.size<=b:=h1;omega
   have hd':=hin.dis b hE;obtain⟨off',hv⟩:=hVIx b hE;subst hCI;rcases hX with hX|⟨i,oi,hi,hbi,_⟩
   ·rw[hVI]at hv;obtain⟨j,oj,hj,ho,hbo,_⟩:=hv;exact h.hp.out j oj b off ho hbo hX
   ·exact hd' (.inl ⟨i,oi,hi,hbi⟩)
  ·intro b off hX;subst hCI;rcases hX with hX|⟨i,oi,hi,hbi,_⟩
   ·have:=h.hp.bound b off hX;omega
   ·exact (hs1.hp.holds i oi hi).lt hbi
  ·have:CI.Pi0=fun b o=>CI.X b o \/ VI b o:=by subst hCI;rfl
   rw[this];have hw0:CI.w0=w1:=by subst hCI;rfl
   rw[hw0];exact Keeps.of_imp fun b o hp=>(hprI b o).1 hp
  ·intro b hb;rcases hS1.own b hb with h1|h1
   ·exact .inl (by subst hCI;exact h1)
   ·exact .inr (by subst hCI;exact h1)
  ·intro p r b hp;exact absurd (hS1.yld p r b hp).1 (fun h=>h)
 obtain⟨g1,g2,g3⟩:=hEI.add (R':=objRegs (objs++[.yld L true])) (j:=ids.length) (by rw[C6,List.getElem?_eq_none (by omega)]) (o:=.yld L true) (v:=.func (.yield l) #[] #[]) (fun u b h=>by cases h) hrgI
  (fun _ _=>⟨l,rfl⟩) (fun r b he=>by cases he;subst hCI;exact⟨⟨rfl,rfl⟩,rfl⟩)
 have hrIeq:(fun i=>if i=ids.length then Value.func (.yield l) #[] #[]else rho (ids.getD i 0))=rI:=by rw[hrI]
 rw[hrIeq]at g1 g2;have g3' : ∀i,Lv (A1 (objRegs objs)) i->Lv (A1 (objRegs (objs++[.yld L true]))) i/\rI i=rho (ids.getD i 0):=fun i hi=>by
  have:=g3 i hi
  rw[hrI];exact this
 have hyvI:rI ids.length=.func (.yield l) #[] #[]:=by rw[hrI];simp
 have hkA:Keeps w1 (PiS C st rho) w1 (Prv CI.X (A1 (objRegs (objs++[.yld L true]))) rI):=Keeps.of_imp fun b o hp=>hT b o ((hprI b o).1 ((g2 b o).1 hp));have hrenI:∀p j:Nat,ids[p]? = some j->Lv (A1 st.regs) j->Lv (A1 (objRegs (objs++[.yld L true]))) p/\rI p=rho j:=by intro p j hp _;obtain⟨o,o2,e1,e2,e3⟩:=hobg p j hp;obtain⟨q1,q2⟩:=g3' p (by simp[Lv,C6,e3]);exact⟨q1,by rw[q2,Bi hp]⟩
 have hlvI:Lv (A1 (objRegs (objs++[.yld L true]))) ids.length:=by simp[Lv,hrgI]
 have ren:∀{vs:Array Value}{l l' : List AV},RepV w1 (PiS C st rho) (Lv (A1 st.regs)) rho vs l->BN ids l=some l' -> RepV w1 (Prv CI.X (A1 (objRegs (objs++[.yld L true]))) rI) (Lv (A1 (objRegs (objs++[.yld L true])))) rI vs l':=by intro vs l l' hv hr;obtain⟨e1,e2⟩:=AS hr;exact⟨hv.1.trans e1,fun i hi=>(hv.2 i (by omega)).ren hkA hrenI (e2 i (by omega))⟩
 have hvals:RepV w1 (Prv CI.X (A1 (objRegs (objs++[.yld L true]))) rI) (Lv (A1 (objRegs (objs++[.yld L true])))) rI (x ++ #[.func (.yield l) #[] #[]]++y) (as++[.yf ids.length]++bs):=
  RepV.append (RepV.append (ren hrx hr1) ⟨rfl,fun i hi=>by
   simp only[List.length_singleton]at hi;obtain rfl:i=0:=by omega
   exact .yf ids.length l hlvI hyvI⟩) (ren hry hr2)
 have hvals' : as++[.yf ids.length]++bs=as ++ .yf ids.length::bs:=by simp
 rw[hvals']at hvals;have hSI:Sat CI ⟨argEnv (as ++ .yf ids.length::bs),objRegs (objs++[.yld L true])⟩ ⟨x ++ #[.func (.yield l) #[] #[]]++y,[]⟩ w1 rI:=by
  refine⟨g1,fun t=>?_,fun j _ _=>by subst hCI;rfl,List.nodup_nil,fun d hd=>by simp at hd⟩;show RepA w1 _ _ rI _ (get (argEnv (as ++ .yf ids.length::bs)) t);rw[Ab];by_cases ht:t<(as ++ .yf ids.length::bs).length
  ·exact hvals.2 t ht
  ·rw[List.getD_eq_getElem?_getD,List.getElem?_eq_none (by omega)];exact .top _
 have hpsn:∀t∈R.ps.toList,t<R.n:=by
  subst hRdef;intro t ht;rw[List.all_eq_true]at hps
  have:=hps t ht
  simpa using this
 have hRact:R.act=act:=by subst hRdef;rfl
 have hRl:R.l=l:=by subst hRdef;rfl
 have hcall:=hF (RP.prot R (by subst hRdef;exact hacts) hpsn (by subst hRdef;exact hgl) (by subst hRdef;exact hts) (by subst hRdef;exact casg) (by subst hRdef;exact cbody) (by subst hRdef;exact hround)) CI w1 _ rI ⟨C,s1,rho1,VI,L,true,_,hin⟩ hSI hvals.1;obtain⟨nx,w2,hrun,hcall⟩:=hcall;rw[Pa hfn hfb hfname]at hrun;cases hrun;have hev:a.eval g=.func (.func f) x y:=by rw[hact]at hx;exact hx
 have hres:(resolve a.eval (rangeCall g l) 0).run P w1=.ok { target:=.fn (.func f) y,args:=x ++ #[.func (.yield l) #[] #[]] } w1:=by
  have e1:(rangeCall g l).args.map a.eval = #[.func (.yield l) #[] #[]]:=by simp[Act.eval]
  have e2:resolve a.eval (rangeCall g l) 0=Deferred.ofValue (a.eval g) #[.func (.yield l) #[] #[]]:=by rw[<- e1];rfl
  rw[e2,hev];simp[Deferred.ofValue]
 have hinv:(invoke (.fn (.func f) y) (x ++ #[.func (.yield l) #[] #[]])).run P w1=.ok (.enter f (x ++ #[.func (.yield l) #[] #[]]++y)) w1:=by simp only[invoke];exact Pa hfn hfb hfname
 have hcall2:CallsIn (FW ro) (0-1) P f (x ++ #[.func (.yield l) #[] #[]]++y) w1 (rangePost (FW ro) 0 P l (WP 𝒢 n Q) { a with defers:=mk++a.defers }):=by
  refine (Me hcall).mono ?_;rintro e w' ⟨C',r,objs',ks,rho',⟨C2,s2,rhoA2,XI2,rest2,live2,lo2,hin2⟩,⟨b,hb1,_,hFin,hb2⟩,hE,hend',_⟩;rw[<- hact];obtain⟨hY,_⟩:=hE.yld ids.length [] b (by rw[C6];exact hb1);rw[hin2.Y]at hY;obtain⟨hr2',hb'⟩:=hY;subst hb';have hrel:Rel C' w' (Own (A1 (objRegs objs')) rho') (PvR (objRegs objs') rho'):=
   ⟨hE.ext,hE.size,hE.same,hE.keep,hE.own,fun b off ⟨j,o,hj,hb⟩=>hE.hp.out j o b off hj hb,fun b hb=>hE.hp.lt hb,hE.hp.bound,fun b o ⟨j,oj,hj,hb,_⟩=>⟨j,oj,hj,hb⟩⟩
  obtain⟨n1,_,n3⟩:=hin2.sat.moves rfl hin2.X hin2.pi hrel hin2.dis hin2.oc;obtain⟨n4,n5⟩:=n1.minus;have hl' : w'.heap[R.l]? = some (.loop lo2):=(n3 R.l (Array.getElem?_eq_some_iff.1 hin2.rl).1 hin2.lE).trans hin2.rl;rw[hRl]at hl';have hG2 : 𝒢.G C2:=by have:=hin2.g;subst hRdef;exact this
  have hlown:C2.E0 l \/ C2.w0.heap.size<=l:=by have:=hin2.lown;rw[hRl]at this;exact this
  rw[hRact]at n4;cases r with
  |ret v'=>
   obtain⟨v,rfl,_⟩:=hend';rcases hin2.st with⟨hlv1,hlo,hI2,_⟩ | ⟨_,_,c,e,hlo,hj,hQ⟩
   ·refine⟨none,w'.putObj l (.loop { lo2 with state:=.exhausted }),?_,?_⟩
    ·rw[run_endLoop hl' (by rw[hlo];simp[RP.lo])];rw[hlo];rfl
    ·refine⟨C2,s2,rhoA2,hG2,(n4.poke hl' _ hlown).1,hacts,?_⟩;rw[<- hr2']at hI2;exact hend s2 (.ret v') (by have:=hin2.keys;subst hRdef;exact this) (by have:=hin2.ng;subst hRdef;exact this) (by subst hRdef;exact hI2) (hlv1 ▸ hFin)
   ·refine⟨some c,w'.putObj l (.loop { lo2 with state:=.exhausted }),?_,?_⟩
    ·rw[run_endLoop hl' (by rw[hlo];simp[RP.lo])];rw[hlo];rfl
    ·have hnx:NextOk 𝒢 n (Q e) act (w'.putObj l (.loop { lo2 with state:=.exhausted })):=⟨C2,s2,rhoA2,hG2,(n4.poke hl' _ hlown).1,hacts,by subst hRdef;exact hQ⟩;cases e with
     |ret=>cases hj;exact wpIn_ret hnx
     |exit id=>cases hj;exact wpIn_exit hnx
     |goto t=>cases hj;exact wpIn_goto hnx
     |normal=>exact hj.elim
     |panic x=>exact hj.elim
  |panic x=>
   obtain⟨v,rfl,hv⟩:=hend';rcases hin2.st with⟨hlv1,hlo,hI2,_⟩ | ⟨hlv,_⟩
   ·refine⟨C2,s2,rhoA2,v,x,rfl,hG2,n4,hacts,hv.keeps (Keeps.of_imp ?_),?_⟩
    ·intro b o hp;exact .inl (by rw[hin2.X];exact hp)
    ·rw[<- hr2']at hI2;exact hend s2 (.panic x) (by have:=hin2.keys;subst hRdef;exact this) (by have:=hin2.ng;subst hRdef;exact this) (by subst hRdef;exact hI2) (hlv1 ▸ hFin)
   ·obtain⟨z,hz⟩:=hb2 hlv;cases hz
 exact⟨l,mk,w1,_,w1,f,_,w1,hent,hres,fun _ _=>trivial,hinv,fun h=>by simp[FW,Fence.wide]at h,hcall2⟩
theorem TL (n:Nat)(c:Code)(hok:X2 n c=true):GH P n c:=QI (fun _ _ _ _ hps=>QL hps) c hok
theorem Ac1 (P:Program):F4 (Ft P) P where
 refl:=fun s K h=>semUp.refl h
 trans:=fun s K h=>semUp.trans h
 mono:=fun s K K' hk h=>semUp.mono hk h
 bool:=fun st t b K hg h=>semUp.bool hg h
 nil:=fun st t k n f K hg h1 h2=>semUp.nil hg h1 h2
 frz:=fun st j ps K hj hK=>semUp.frz hj hK
 trunc:=fun st j j' n N k e f K h1 h2 h3 h4 hK=>semUp.trunc h1 h2 h3 h4 hK
 toArr:=fun st j n f K hj hK=>semUp.toArr hj hK
 ofArr:=fun st j n f K hj hK=>semUp.ofArr hj hK
 vecq:=fun st j n k e f g vw K hj hq hK=>semUp.vecq hj hq hK
 le:=fun ids s t K hle hK=>semUp.le hle hK
 fam:=fun op s t c K h hc hK=>semUp.famAll h hc hK
 less:=fun s t K h1 h2 hK=>semUp.less h1 h2 hK
 eqv:=fun s t K h1 h2 hK=>semUp.eqv h1 h2 hK
 func:=fun f fn code args objs Q hf hb hname hok hn ho hw=>TH (fun c=>TL _ c) hf hb hname rfl hok hn ho hw
 argLe:=fun f args args' objs Q hle h 𝒢 C w vs rho hG hS hvs=>by
  have hlen:∀{l m:List AV},OB l m->l.length=m.length:=by
   intro l
   induction l with
   |nil=>intro m h;cases m with
    |nil=>rfl
    |cons=>exact h.elim
   |cons a r ih=>intro m h;cases m with
    |nil=>exact h.elim
    |cons b s=>simp only[List.length_cons,ih h.2]
  have hget:∀{w:World}{Pi:Nat->Nat->Prop}{live:Nat->Prop}{rho:Nat->Value}{v:Value}{l m:List AV},OB l m->∀t,RepA w Pi live rho v (l.getD t .top)->RepA w Pi live rho v (m.getD t .top):=by
   intro w Pi live rho v l
   induction l with
   |nil=>intro m h t ht;cases m with
    |nil=>exact ht
    |cons=>exact h.elim
   |cons a r ih=>intro m h t ht;cases m with
    |nil=>exact h.elim
    |cons b s=>
     cases t with
     |zero=>
      rcases h.1 with rfl|⟨x,y,rfl,rfl,hl⟩
      ·exact ht
      ·exact .p _ _ (ht.toP.leQ hl)
     |succ t=>exact ih h.2 t ht
  exact h 𝒢 C w vs rho hG ⟨hS.toSatE,fun t=>by
   have:=hS.env t
   rw[Ab]at this⊢;exact hget hle t this,hS.pin,hS.marks⟩ (hvs.trans (hlen hle))
 monoF:=fun f args objs Q Q' hq h 𝒢 C w vs rho hG hS hvs=>(h 𝒢 C w vs rho hG hS hvs).mono fun e w' ⟨C',r,objs',ks,rho',h1,h2,h3⟩=>⟨C',r,objs',ks,rho',h1,hq _ _ _ h2,h3⟩
end
end Go.AM
namespace Go.AM
inductive Cls where
 |n|r|w
 |l (js:List Nat)|a (js:List Nat)
 deriving DecidableEq,Inhabited
def Zz:Cls->Cls->Bool
 |.n,_|_,.n | .r,.r | .r,.l _ | .l _,.r | .l _,.l _=>false
 |.l i,.a j | .a i,.l j | .a i,.a j=>i.any fun q=>j.contains q
 |_,_=>true
def GJ (q:Nat):Cls->Bool
 |.w=>true
 |.a js=>js.contains q
 |_=>false
def VJ (q:Nat):Cls->Bool
 |.n=>false
 |.l js | .a js=>js.contains q
 |_=>true
theorem DF {q:Nat}{c d:Cls}(h:GJ q c=true)(h' : VJ q d=true):Zz c d=true/\Zz d c=true:=by
 have hm:∀{i j:List Nat},i.contains q=true->j.contains q=true->(i.any fun q=>j.contains q)=true:=fun hi hj=>List.any_eq_true.2 ⟨q,by simpa using hi,hj⟩;cases c with
 |w=>cases d<;>first|(cases h';done)|exact⟨rfl,rfl⟩
 |a i=>
  cases d with
  |n=>cases h'
  |l j=>exact⟨hm h h',hm h' h⟩
  |a j=>exact⟨hm h h',hm h' h⟩
  |_=>exact⟨rfl,rfl⟩
 |_=>cases h
theorem Gc {q:Nat}{c:Cls}(h:GJ q c=true):VJ q c=true:=by cases c<;>first|(cases h;done)|exact h|rfl
def Ac4:List Nat->List Nat
 |[]=>[]
 |x::r=>if (Ac4 r).contains x then Ac4 r else x::Ac4 r
theorem Nh {x:Nat}:∀{l:List Nat},x∈Ac4 l->x∈l
 |[],h=>h
 |y::r,h=>by
  unfold Ac4 at h;split at h
  ·exact List.mem_cons_of_mem _ (Nh h)
  ·rcases List.mem_cons.1 h with rfl|h
   ·exact List.mem_cons_self
   ·exact List.mem_cons_of_mem _ (Nh h)
def TM (acc:List (List Nat))(o:Oper):List Nat:=Ac4 ((o.after.toList.filter CG).flatMap fun e=>e.on::acc.getD e.on [])
def Ni:List Oper->List (List Nat)->List (List Nat)
 |[],acc=>acc
 |o::r,acc=>Ni r (acc++[TM acc o])
def Aj8 (ops:List Oper):List (List Nat):=Ni ops []
def QM:Operand->List Nat
 |.tmp t=>[t]
 |_=>[]
def reads (ops:List Oper)(o:Oper):List Nat:=o.op.operands.toList.flatMap QM++match o.guard with
 |some (j,_)=>[Ep ops j]
 |none=>[]
def EA (ops:List Oper)(ci cj:Cls)(oi oj:Oper):Bool:=
 !Zz ci cj &&
 (match oi.dst with|some d=>!(reads ops oj).contains d&&decide (oj.dst≠some d)|none=>true) &&
 (match oj.dst with|some d=>!(reads ops oi).contains d|none=>true)
def Jz (ops:List Oper)(cls:List Cls):Bool:=
 HZ ops&&(cls.length==ops.length) &&
 (List.range ops.length).all fun j=>(List.range j).all fun i=>
  match ops[i]?,ops[j]? with
  |some oi,some oj=>((Aj8 ops).getD j []).contains i||EA ops (cls.getD i .n) (cls.getD j .n) oi oj
  |_,_=>true
def isP:AV->Bool
 |.p _=>true
 |_=>false
def isN (env:Env):Op->Bool
 |.move _ | .assign _ | .pick .. | .build .. | .nilCheck _ | .binOp .. | .unOp .. | .fieldAddr .. | .field .. | .index .. | .extract .. | .makeFunc ..=>true
 |.load _ a=>isP (aev env a)
 |.convert _ _ x=>isP (aev env x)
 |.makeInterface _ x=>isP (aev env x)
 |.indexAddr _ x _=>isP (aev env x)
 |.slice _ x _ _ _=>isP (aev env x)
 |.lookup _ m k _=>isP (aev env m)&&isP (aev env k)
 |.call { callee:=.builtin .len,args,.. }=>args.toList.all fun x=>isP (aev env x)
 |.call { callee:=.builtin .min,.. } | .call { callee:=.builtin .max,.. }=>true
 |_=>false
section
variable {P:Program}
theorem Nj {env:Env}{R R' : C4}{d:Nat}{o:Op}{c:List Prop}{v:AV}(hn:isN env o=true)(h:aop P env R d o=some ⟨c,v,R'⟩):R' = R/\∀R2,aop P env R2 d o=some ⟨c,v,R2⟩:=by
 cases o with
 |move x=>simp only[aop,Option.some.injEq,Out.mk.injEq]at h⊢;obtain⟨rfl,rfl,rfl⟩:=h;simp
 |assign x=>simp only[aop,Option.some.injEq,Out.mk.injEq]at h⊢;obtain⟨rfl,rfl,rfl⟩:=h;simp
 |pick x y z=>simp only[aop]at h⊢;split at h<;>simp_all
 |build t ps=>
  simp only[aop]at h⊢;split at h
  ·split at h<;>simp_all
  ·cases h
 |nilCheck x=>simp only[aop]at h⊢;split at h<;>simp_all
 |binOp op t x y yt=>simp only[aop]at h⊢;split at h<;>simp_all
 |unOp op t x=>simp only[aop]at h⊢;split at h<;>simp_all
 |fieldAddr t x f=>simp only[aop]at h⊢;split at h<;>simp_all
 |field t x f=>simp only[aop]at h⊢;split at h<;>simp_all
 |index t x i=>
  simp only[aop]at h⊢;split at h
  ·split at h<;>simp_all
  ·cases h
 |extract x i=>
  simp only[aop]at h⊢;split at h
  ·split at h<;>simp_all
  ·cases h
 |makeFunc f a b=>cases f<;>simp only[aop]at h⊢<;>simp_all
 |load t a=>simp only[isN]at hn;simp only[aop]at h⊢;cases hx:aev env a<;>simp only[hx,isP,Bool.false_eq_true]at hn;simp only[hx]at h⊢;rename_i x;cases x<;>simp only[load]at h⊢<;>first|(cases h;done)|(split at h<;>simp_all)
 |convert s t x=>
  simp only[isN]at hn;cases hx:aev env x<;>simp only[hx,isP,Bool.false_eq_true]at hn;simp only[aop,hx]at h⊢;rename_i x;have he:∀R R2 k,elems R k (.p x)=elems R2 k (.p x):=by intro R R2 k;unfold elems;split<;>simp_all
  split at h
  ·split at h<;>simp_all
  ·split at h<;>simp_all
  ·split at h<;>simp_all
  ·split at h
   ·split at h
    ·rename_i n f h2 h3;simp only[Option.some.injEq,Out.mk.injEq]at h;obtain⟨rfl,rfl,rfl⟩:=h;refine⟨rfl,fun R2=>?_⟩;rw[he R R2]at h3
     simp_all
    ·cases h
   ·cases h
  ·cases h
 |makeInterface t x=>
  simp only[isN]at hn;cases hx:aev env x<;>simp only[hx,isP,Bool.false_eq_true]at hn;simp only[aop,hx,Gv]at h⊢;split at h
  ·rename_i h1 h2;simp only[Option.some.injEq,Prod.mk.injEq]at h1;obtain⟨rfl,rfl⟩:=h1;split at h<;>simp_all
  ·cases h
 |indexAddr t x i=>
  simp only[isN]at hn;cases hx:aev env x<;>simp only[hx,isP,Bool.false_eq_true]at hn;rename_i y;simp only[aop,hx]at h⊢;split at h
  ·rename_i n hi;have he:∀R R2,Dd P R t (.p y) n=Dd P R2 t (.p y) n:=by intro R R2;unfold Dd;split<;>simp_all
   split at h
   ·rename_i hq;simp only[Option.some.injEq,Out.mk.injEq]at h;obtain⟨rfl,rfl,rfl⟩:=h;refine⟨rfl,fun R2=>?_⟩;rw[he R R2]at hq;simp[hq]
   ·cases h
  ·cases h
 |slice t x lo hi mx=>
  cases mx with
  |some _=>simp[aop]at h
  |none=>
   simp only[isN]at hn;cases hx:aev env x<;>simp only[hx,isP,Bool.false_eq_true]at hn;rename_i y;have he:∀R R2 lo hi c a R',De P R t (.p y) lo hi=some (c,a,R')->R' = R/\De P R2 t (.p y) lo hi=some (c,a,R2):=by
    intro R R2 lo hi c a R' h;unfold De at h⊢;split at h
    ·split at h<;>simp_all
    ·split at h
     ·split at h<;>simp_all
     ·cases h
    ·split at h<;>simp_all
    ·split at h<;>simp_all
    ·simp_all
    ·simp_all
   have fin:∀lo hi,(match De P R t (.p y) lo hi with|some (c,a,regs)=>some (Out.mk c a regs)|none=>none)=some ⟨c,v,R'⟩ ->
    R' = R/\∀R2,(match De P R2 t (.p y) lo hi with|some (c,a,regs)=>some (Out.mk c a regs)|none=>none)=some ⟨c,v,R2⟩:=by
    intro lo hi h;cases hq:De P R t (.p y) lo hi with
    |none=>rw[hq]at h;cases h
    |some q=>obtain⟨c',a',r'⟩:=q;rw[hq]at h;simp only[Option.some.injEq,Out.mk.injEq]at h;obtain⟨rfl,rfl,rfl⟩:=h;refine⟨(he _ R _ _ _ _ _ hq).1,fun R2=>?_⟩;simp only[(he _ R2 _ _ _ _ _ hq).2]
   simp only[aop,hx]at h⊢;split at h<;>first|exact fin _ _ h|cases h
 |lookup t m k ok=>
  simp only[isN,Bool.and_eq_true]at hn;cases hm:aev env m<;>simp only[hm,isP,Bool.false_eq_true,false_and]at hn;rename_i y;cases hk:aev env k<;>simp only[hk,Bool.false_eq_true,and_false]at hn;rename_i z;have he:∀R R2 k,Hw P R t (.p y) k ok=Hw P R2 t (.p y) k ok:=by
   intro R R2 k;unfold Hw;split
   ·rename_i kt e ht;cases ID P kt k with
    |false=>rfl
    |true=>
     cases y with
     |v u=>cases u<;>first|rfl|(rename_i r;cases r<;>rfl)
     |_=>rfl
   ·rfl
  simp only[aop,hm,hk,Gv]at h⊢;split at h
  ·rename_i hq;simp only[Option.some.injEq,Out.mk.injEq]at h;obtain⟨rfl,rfl,rfl⟩:=h;refine⟨rfl,fun R2=>?_⟩;rw[he R R2]at hq;simp[hq]
  ·cases h
 |call c=>
  obtain⟨callee,args,types⟩:=c;cases callee with
  |builtin b=>
   cases b with
   |len=>
    simp only[aop]at h⊢;split at h
    ·rename_i x t hx ht;simp only[isN,hx,List.all_cons,List.all_nil,Bool.and_true]at hn;have he:∀R R2,UQ P R t (aev env x)=UQ P R2 t (aev env x):=by intro R R2;cases hy:aev env x<;>simp only[hy,isP,Bool.false_eq_true]at hn;unfold UQ;split<;>simp_all
     cases hq:UQ P R t (aev env x)with
     |none=>rw[hq]at h;cases h
     |some q=>rw[hq]at h;simp only[Option.some.injEq,Out.mk.injEq]at h;obtain⟨rfl,rfl,rfl⟩:=h;refine⟨rfl,fun R2=>?_⟩;rw[he R R2]at hq;simp[hq]
    ·cases h
   |min=>simp only[aop]at h⊢;split at h<;>simp_all
   |max=>simp only[aop]at h⊢;split at h<;>simp_all
   |_=>simp[isN]at hn
  |_=>simp[isN]at hn
 |_=>simp[isN]at hn
theorem VK {env env' : Env}{x:Operand}(h:∀t∈QM x,get env t=get env' t):aev env x=aev env' x:=by
 cases x with
 |tmp t=>exact h t (by simp[QM])
 |_=>rfl
theorem Ii {env env' : Env}{place:Nat->Option (Nat×Nat)}:∀(l:List (Nat×Operand)) (cs:List AV),(∀q∈l,aev env q.2=aev env' q.2)->HV env place l cs=HV env' place l cs
 |[],cs,_=>rfl
 |(i,x)::r,cs,h=>by
  have hx:aev env x=aev env' x:=h (i,x) (by simp);simp only[HV,hx];split
  ·split
   ·exact Ii r _ fun q hq=>h q (List.mem_cons_of_mem _ hq)
   ·rfl
  ·rfl
theorem EB {env env' : Env}{R:C4}{d:Nat}{o:Op}(h:∀x∈o.operands.toList,aev env x=aev env' x):aop P env R d o=aop P env' R d o:=by
 cases o with
 |build t ps=>
  have:∀q∈ps.toList,aev env q.2=aev env' q.2:=fun q hq=>h q.2 (by simp only[Op.operands];simpa using ⟨q.1,by simpa using hq⟩)
  simp only[aop,Ii ps.toList _ this]
 |buildSlice t n ps=>
  have:(ps.toList.map fun q=>aev env q.2)=ps.toList.map fun q=>aev env' q.2:=List.map_congr_left fun q hq=>h q.2 (by simp only[Op.operands];simpa using ⟨q.1,by simpa using hq⟩)
  simp only[aop,this]
 |makeFunc f a b=>have h1:a.toList.map (aev env)=a.toList.map (aev env'):=List.map_congr_left fun q hq=>h q (by simp[Op.operands];exact .inl (by simpa using hq));have h2:b.toList.map (aev env)=b.toList.map (aev env'):=List.map_congr_left fun q hq=>h q (by simp[Op.operands];exact .inr (by simpa using hq));cases f<;>simp only[aop,h1,h2]
 |makeMap t r=>cases r<;>simp only[aop]
 |slice t x lo hi mx=>
  have hx:=h x (by simp[Op.operands]);have hl:lo.map (fun o=>asInt (aev env o))=lo.map (fun o=>asInt (aev env' o)):=by
   cases lo with
   |none=>rfl
   |some l=>simp only[Option.map_some];rw[h l (by simp[Op.operands])]
  have hh:hi.map (fun o=>asInt (aev env o))=hi.map (fun o=>asInt (aev env' o)):=by
   cases hi with
   |none=>rfl
   |some l=>simp only[Option.map_some];rw[h l (by simp[Op.operands])]
  cases mx<;>simp only[aop,hx,hl,hh]
 |call c=>
  obtain⟨callee,args,types⟩:=c;cases callee with
  |builtin b=>
   have h1:args.toList.map (aev env)=args.toList.map (aev env'):=List.map_congr_left fun q hq=>h q (by simp[Op.operands,Call.operands];simpa using hq);cases b with
   |len=>
    simp only[aop];cases hl:args.toList with
    |nil=>rfl
    |cons x r=>
     rw[hl]at h1;simp only[List.map_cons,List.cons.injEq]at h1;cases r with
     |nil=>cases types.toList with
      |nil=>rfl
      |cons t r=>cases r<;>simp only[h1.1]
     |cons _ _=>rfl
   |append=>
    simp only[aop];cases hl:args.toList with
    |nil=>rfl
    |cons x r=>
     rw[hl]at h1;simp only[List.map_cons,List.cons.injEq]at h1;cases r with
     |nil=>rfl
     |cons y r=>
      simp only[List.map_cons,List.cons.injEq]at h1;cases r with
      |nil=>
       cases types.toList with
       |nil=>rfl
       |cons t r=>
        cases r with
        |nil=>rfl
        |cons t2 r=>cases r<;>first|rfl|simp only[h1.1,h1.2.1]
      |cons _ _=>rfl
   |min=>simp only[aop,h1]
   |max=>simp only[aop,h1]
   |_=>first|rfl|simp only[aop]
  |_=>first|rfl|simp only[aop]
 |move x=>simp only[aop,h x (by simp[Op.operands])]
 |assign x=>simp only[aop,h x (by simp[Op.operands])]
 |pick x y z=>simp only[aop,h x (by simp[Op.operands]),h y (by simp[Op.operands]),h z (by simp[Op.operands])]
 |box t x=>simp only[aop,h x (by simp[Op.operands])]
 |load t x=>simp only[aop,h x (by simp[Op.operands])]
 |store t x y=>simp only[aop,h x (by simp[Op.operands]),h y (by simp[Op.operands])]
 |nilCheck x=>simp only[aop,h x (by simp[Op.operands])]
 |binOp op t x y yt=>simp only[aop,h x (by simp[Op.operands]),h y (by simp[Op.operands])]
 |unOp op t x=>simp only[aop,h x (by simp[Op.operands])]
 |convert s t x=>simp only[aop,h x (by simp[Op.operands])]
 |makeInterface t x=>simp only[aop,h x (by simp[Op.operands])]
 |makeSlice t l c=>simp only[aop,h l (by simp[Op.operands]),h c (by simp[Op.operands])]
 |fieldAddr t x f=>simp only[aop,h x (by simp[Op.operands])]
 |field t x f=>simp only[aop,h x (by simp[Op.operands])]
 |indexAddr t x i=>simp only[aop,h x (by simp[Op.operands]),h i (by simp[Op.operands])]
 |index t x i=>simp only[aop,h x (by simp[Op.operands]),h i (by simp[Op.operands])]
 |lookup t m k ok=>simp only[aop,h m (by simp[Op.operands]),h k (by simp[Op.operands])]
 |mapUpdate t m k x=>simp only[aop,h m (by simp[Op.operands]),h k (by simp[Op.operands]),h x (by simp[Op.operands])]
 |extract x i=>simp only[aop,h x (by simp[Op.operands])]
 |_=>first|rfl|simp only[aop]
end
end Go.AM
namespace Go.AM
section
variable (S:X1) (P:Program)
def Cv (all:List Oper)(env:Env)(o:Oper):Option Bool:=
 match o.guard with
 |none=>some true
 |some (j,want)=>(yv (get env (Ep all j))).map fun b=>decide (b=some want)
def VL:AV->Bool
 |.vec _ | .vecp _ _=>false
 |_=>true
def Xq (env:Env)(o:Op)(r:AV):Prop:=
 ∃c f fn as' args r',o=.call c/\c.callee=.value f/\((c.args.toList.map (aev env)).all VL)=true/\Qt env f (c.args.toList.map (aev env))=some (fn,as')/\BN [] as' = some args/\Vl S fn args r' /\ r=unA [] r'
def ZA (env:Env)(regs:C4)(d:Nat)(o:Op)(r:AV)(regs' : C4):Prop:=
 ∃c f as regs1 fn as' args objs objs' ks r' ids,o=.call c/\c.callee=.value f/\KS regs (c.args.toList.map (aev env))=some (as,regs1)/\Qt env f as=some (fn,as')/\BN ids as' = some args/\H8 ids regs1 ids=some objs /\
  FunO S fn args objs r' objs' ks/\F0 ids=true/\Df objs=true/\BW regs1 ids ks d objs'.length=true /\
  r=unA (K8 d ids ks objs'.length) r' /\ regs' = UR (K8 d ids ks objs'.length) (K8 d ids ks objs'.length) objs' (K9 ids ks regs1)
def clsF (cl:Cls)(a b:Prop):Prop:=match cl with
 |.n=>a
 |.r=>b
 |_=>True
def clsX (cl:Cls)(env:Env)(regs:C4)(d:Nat)(o:Op)(c:List Prop)(v:AV)(regs' : C4):Prop:=match cl with
 |.l js=>regs' = regs/\∀R2,(∀q∈js,A1 R2 q=A1 regs q)->aop P env R2 d o=some ⟨c,v,R2⟩
 |.a js=>∀R2,(∀q∈js,A1 R2 q=A1 regs q)->∃R3,aop P env R2 d o=some ⟨c,v,R3⟩/\(∀q∈js,A1 R3 q=A1 regs' q)/\∀q,q ∉ js->A1 R3 q=A1 R2 q
 |_=>True
def Xr (cl:Cls)(env:Env)(regs:C4)(d:Nat)(o:Op)(v:AV)(regs' : C4):Prop:=
 (∃c,aop P env regs d o=some ⟨c,v,regs'⟩/\D0 c/\clsF cl (isN env o=true) (regs' = regs)/\clsX P cl env regs d o c v regs') \/
 (Xq S env o v/\regs' = regs) \/
 (cl=.w/\ZA S env regs d o v regs') \/
 (∃c x,Oy P env o=some (c,x)/\D0 c/\v=.p x/\regs' = regs)
def Mh (d:Option Nat)(a:AV)(env:Env):Env:=match d with
 |some d=>ins d a env
 |none=>env
def KT (all:List Oper):List Cls->List Oper->Env->C4->(Env->C4->Prop)->Prop
 |cl::cls,o::rest,env,regs,k=>∃b,Cv all env o=some b /\
  if b then ∃v regs',Xr S P cl env regs (o.dst.getD 0) o.op v regs' /\ KT all cls rest (Mh o.dst v env) regs' k
  else KT all cls rest (Mh o.dst Ak env) regs k
 |_,[],env,regs,k=>k env regs
 |[],_::_,_,_,_=>False
end
section
variable {S:X1}{P:Program}
structure Xs (S:X1) (P:Program) (all:List Oper) (cls:List Cls) (E:Nat->Env) (R:Nat->C4) (V:Nat->AV):Prop where
 step:∀i o,all[i]? = some o->∃b,Cv all (E i) o=some b /\
  (if b then Xr S P (cls.getD i .n) (E i) (R i) (o.dst.getD 0) o.op (V i) (R (i+1))else V i=Ak/\R (i+1)=R i)/\E (i+1)=Mh o.dst (V i) (E i)
theorem Sw (all:List Oper):∀(rest:List Oper) (cls:List Cls) (i:Nat) (env:Env) (regs:C4) (k:Env->C4->Prop),KT S P all cls rest env regs k->cls.length=rest.length ->
 ∃(E:Nat->Env) (R:Nat->C4) (V:Nat->AV),E 0=env/\R 0=regs/\k (E rest.length) (R rest.length) /\
  ∀j o,rest[j]? = some o->∃b,Cv all (E j) o=some b /\
   (if b then Xr S P (cls.getD j .n) (E j) (R j) (o.dst.getD 0) o.op (V j) (R (j+1))else V j=Ak/\R (j+1)=R j)/\E (j+1)=Mh o.dst (V j) (E j)
 |[],[],i,env,regs,k,h,_=>⟨fun _=>env,fun _=>regs,fun _=>.top,rfl,rfl,h,fun j o hj=>by simp at hj⟩
 |[],_::_,i,env,regs,k,h,hl=>by simp at hl
 |_::_,[],i,env,regs,k,h,hl=>by simp at hl
 |o::rest,cl::cls,i,env,regs,k,h,hl=>by
  obtain⟨b,hb,h⟩:=h;have key:∃v regs',(if b then Xr S P cl env regs (o.dst.getD 0) o.op v regs' else v=Ak/\regs' = regs)/\KT S P all cls rest (Mh o.dst v env) regs' k:=by
   cases b with
   |true=>simp only[if_true]at h⊢;exact h
   |false=>simp only[Bool.false_eq_true,if_false]at h⊢;exact⟨_,_,⟨rfl,rfl⟩,h⟩
  obtain⟨v,regs',hs,hrest⟩:=key;obtain⟨E,R,V,h1,h2,h3,h4⟩:=Sw all rest cls (i+1) _ _ k hrest (by simpa using hl);refine⟨fun j=>match j with|0=>env|j+1=>E j,fun j=>match j with|0=>regs|j+1=>R j,fun j=>match j with|0=>v|j+1=>V j,rfl,rfl,h3,?_⟩;intro j o' hj;cases j with
  |zero=>simp only[List.getElem?_cons_zero,Option.some.injEq]at hj;subst hj;refine⟨b,hb,?_,h1⟩;simp only[List.getD_cons_zero,h2];exact hs
  |succ j=>
   have:=h4 j o' (by simpa using hj)
   simpa using this
def Fu (all:List Oper)(V:Nat->AV)(env:Env)(D:Nat->Bool)(x:Nat):Nat->AV
 |0=>get env x
 |m+1=>if D m=true/\(all[m]?).bind (·.dst)=some x then V m else Fu all V env D x m
theorem Cb {all:List Oper}{V:Nat->AV}{env:Env}{D D' : Nat->Bool}{x:Nat}:∀{m:Nat},(∀j,j<m->(all[j]?).bind (·.dst)=some x->D j=D' j)->Fu all V env D x m=Fu all V env D' x m
 |0,_=>rfl
 |m+1,h=>by
  simp only[Fu];rw[Cb (m:=m) fun j hj hd=>h j (by omega) hd];by_cases hd:(all[m]?).bind (·.dst)=some x
  ·rw[h m (by omega) hd]
  ·simp[hd]
theorem Pb {all:List Oper}{V:Nat->AV}{env:Env}{D:Nat->Bool}{x i:Nat}(hi:D i=true)(hx:(all[i]?).bind (·.dst)=some x):∀{m:Nat},i<m->(∀j,i<j->j<m->(all[j]?).bind (·.dst)=some x->D j=false)->Fu all V env D x m=V i
 |0,h,_=>by omega
 |m+1,h,hno=>by
  simp only[Fu];by_cases e:i=m
  ·subst e;rw[if_pos ⟨hi,hx⟩]
  ·rw[if_neg]
   ·exact Pb hi hx (by omega) fun j h1 h2=>hno j h1 (by omega)
   ·rintro⟨h1,h2⟩;rw[hno m (by omega) (by omega) h2]at h1;cases h1
theorem BG (env:Env)(d t:Nat)(x:AV):get (ins d x env) t=if d=t then x else get env t:=by
 induction env with
 |nil=>simp[ins,get]
 |cons p r ih=>
  obtain⟨i,b⟩:=p;simp only[ins];split
  ·simp only[get]
  ·split
   ·rename_i h;subst h;simp only[get];split<;>rfl
   ·rename_i h1 h2;simp only[get,ih];by_cases h:i=t
    ·simp only[h,if_true];rw[if_neg (by omega)]
    ·simp only[h,if_false]
theorem Sx (env:Env)(d:Option Nat)(t:Nat)(x:AV):get (Mh d x env) t=if d=some t then x else get env t:=by
 cases d with
 |none=>simp[Mh]
 |some d=>simp[Mh,BG]
theorem Pc {all:List Oper}{cls:List Cls}{E:Nat->Env}{R:Nat->C4}{V:Nat->AV}(h:Xs S P all cls E R V)(x:Nat):∀m,m<=all.length->get (E m) x=Fu all V (E 0) (fun j=>decide (j<m)) x all.length:=by
 have h1:∀m,m<=all.length->get (E m) x=Fu all V (E 0) (fun _=>true) x m:=by
  intro m
  induction m with
  |zero=>intro _;rfl
  |succ m ih=>intro hm;obtain⟨o,ho⟩:∃o,all[m]? = some o:=⟨_,List.getElem?_eq_getElem (by omega)⟩;obtain⟨b,_,_,h3⟩:=h.step m o ho;rw[h3,Sx];simp only[Fu,ho,Option.bind_some,true_and];rw[ih (by omega)]
 have h2:∀m n,m<=n->Fu all V (E 0) (fun j=>decide (j<m)) x n=Fu all V (E 0) (fun _=>true) x m:=by
  intro m n
  induction n with
  |zero=>
   intro h;obtain rfl:m=0:=by omega
   rfl
  |succ n ih=>
   intro hmn;by_cases e:m=n+1
   ·subst e;exact Cb fun j hj _=>by simp[hj]
   ·simp only[Fu];rw[if_neg (by simp;intro hlt;omega),ih (by omega)]
 intro m hm;rw[h1 m hm,h2 m _ hm]
theorem VM {all:List Oper}{cls:List Cls}{E:Nat->Env}{R:Nat->C4}{V:Nat->AV}(h:Xs S P all cls E R V){i o q}(ho:all[i]? = some o)(hc:GJ q (cls.getD i .n)=false):A1 (R (i+1)) q=A1 (R i) q:=by
 obtain⟨b,_,h2,_⟩:=h.step i o ho;cases b with
 |false=>simp only[Bool.false_eq_true,if_false]at h2;rw[h2.2]
 |true=>
  simp only[if_true]at h2;rcases h2 with⟨c,ha,_,hcl,hx⟩ | ⟨_,h3⟩ | ⟨h3,_⟩ | ⟨_,_,_,_,_,h3⟩
  ·cases hk:cls.getD i .n with
   |n=>rw[hk]at hcl;rw[(Nj hcl ha).1]
   |r=>rw[hk]at hcl;rw[show R (i+1)=R i from hcl]
   |w=>rw[hk]at hc;cases hc
   |l j=>rw[hk]at hx;rw[hx.1]
   |a j=>rw[hk]at hx hc;obtain⟨R3,h4,_,h6⟩:=hx (R i) fun _ _=>rfl;rw[h4]at ha;cases ha;exact h6 q (by simpa[GJ]using hc)
  ·rw[h3]
  ·rw[h3]at hc;cases hc
  ·rw[h3]
theorem QN {all:List Oper}{cls:List Cls}{E:Nat->Env}{R:Nat->C4}{V:Nat->AV}(h:Xs S P all cls E R V)(q:Nat):∀(a b:Nat),a<=b->b<=all.length->(∀j,a<=j->j<b->GJ q (cls.getD j .n)=false)->A1 (R b) q=A1 (R a) q:=by
 intro a b
 induction b with
 |zero=>
  intro h1 _ _;obtain rfl:a=0:=by omega
  rfl
 |succ b ih=>
  intro h1 h2 h3;by_cases e:a=b+1
  ·rw[e]
  ·obtain⟨o,ho⟩:∃o,all[b]? = some o:=⟨_,List.getElem?_eq_getElem (by omega)⟩;rw[VM h ho (h3 b (by omega) (by omega)),ih (by omega) (by omega) fun j h4 h5=>h3 j h4 (by omega)]
theorem JA {o:Oper}{k:St->Prop}{Q:H6}{st:St}{c:List Prop}{v:AV}{R' : C4}(h:aop P st.env st.regs (o.dst.getD 0) o.op=some ⟨c,v,R'⟩)(hc:D0 c)(hk:k (put { st with regs:=R' } o.dst v)):wOp S P o k Q st:=by
 unfold wOp;split
 ·rename_i he;rw[he]at h;simp[aop]at h
 ·rename_i he;rw[he]at h;simp[aop]at h
 ·rename_i he;rw[he]at h;simp[aop]at h
 ·exact .inl ⟨_,h,hc,hk⟩
theorem Xt {o:Oper}{k:St->Prop}{Q:H6}{st:St}{c:List Prop}{x:PV}(h:Oy P st.env o.op=some (c,x))(hc:D0 c)(hk:k (put st o.dst (.p x))):wOp S P o k Q st:=by
 unfold wOp;split
 ·rename_i he;rw[he]at h;simp[Oy]at h
 ·rename_i he;rw[he]at h;simp[Oy]at h
 ·rename_i he;rw[he]at h;simp[Oy]at h
 ·exact .inr ⟨_,_,h,hc,hk⟩
theorem TN {env env' : Env}{o:Op}(h:∀x∈o.operands.toList,aev env x=aev env' x):Oy P env o=Oy P env' o:=by
 cases o with
 |buildSlice t n parts=>
  have:(parts.toList.map fun q=>aev env q.2)=parts.toList.map fun q=>aev env' q.2:=List.map_congr_left fun q hq=>h q.2 (by simp only[Op.operands];simpa using ⟨q.1,by simpa using hq⟩)
  simp only[Oy,this]
 |_=>rfl
theorem Pd (ops:List Oper):∀(rest:List Oper) (acc:List (List Nat)),acc.length+rest.length=ops.length->ops.drop acc.length=rest->∀i,(i<acc.length->(Ni rest acc).getD i []=acc.getD i []) /\
 (acc.length<=i->i<ops.length->∃o,ops[i]? = some o/\∃pre,(Ni rest acc).getD i []=TM pre o/\∀j,j<i->pre.getD j []=(Ni rest acc).getD j [])
 |[],acc,hl,hd,i=>⟨fun _=>rfl,fun h1 h2=>by simp at hl;omega⟩
 |o::rest,acc,hl,hd,i=>by
  have ho:ops[acc.length]? = some o:=by
   have:(ops.drop acc.length)[0]? = some o:=by rw[hd];rfl
   simpa using this
  have hd' : ops.drop (acc++[TM acc o]).length=rest:=by
   have:(ops.drop acc.length).drop 1=rest:=by rw[hd];rfl
   rw[List.drop_drop]at this;simpa using this
  have ih:=fun i=>Pd ops rest (acc++[TM acc o]) (by simp at hl⊢;omega) hd' i;have hlow:∀j,j<acc.length->(Ni (o::rest) acc).getD j []=acc.getD j []:=by intro j hj;simp only[Ni];rw[(ih j).1 (by simp;omega)];simp[List.getD_eq_getElem?_getD,List.getElem?_append_left hj]
  refine⟨hlow i,fun h1 h2=>?_⟩;by_cases e:i=acc.length
  ·subst e;refine⟨o,ho,acc,?_,fun j hj=>(hlow j hj).symm⟩;simp only[Ni];rw[(ih acc.length).1 (by simp)];simp[List.getD_eq_getElem?_getD]
  ·simp only[Ni];exact (ih i).2 (by simp;omega) h2
theorem Mi {ops:List Oper}(hdep:HZ ops=true){D:Nat->Bool}(hD:∀i o,D i=true->ops[i]? = some o->∀e∈o.after.toList,CG e=true->D e.on=true) :∀(i:Nat) (o:Oper),ops[i]? = some o->(∀e∈o.after.toList,CG e=true->D e.on=true)->∀j∈(Aj8 ops).getD i [],D j=true:=by
 intro i
 induction i using Nat.strongRecOn with
 |_ i ih=>
  intro o ho hready j hj;have hlt:i<ops.length:=(List.getElem?_eq_some_iff.1 ho).1;obtain⟨o',ho',pre,h1,h2⟩:=(Pd ops ops [] (by simp) (by simp) i).2 (by simp) hlt;rw[ho]at ho';cases ho';have h1:(Aj8 ops).getD i []=TM pre o:=h1;rw[h1]at hj;unfold TM at hj;have hj:=Nh hj;rw[List.mem_flatMap]at hj;obtain⟨e,he,hj⟩:=hj;rw[List.mem_filter]at he;obtain⟨he,hb⟩:=he;have hon:e.on<i:=by
   unfold HZ at hdep;rw[List.all_eq_true]at hdep
   have:=hdep i (by simpa using hlt)
   simp only[ho,List.all_eq_true,Bool.or_eq_true,Bool.not_eq_true',decide_eq_true_eq]at this;rcases this e he with h3|h3
   ·rw[hb]at h3;cases h3
   ·exact h3
  have hDe:=hready e he hb;rcases List.mem_cons.1 hj with rfl|hj
  ·exact hDe
  ·rw[h2 e.on hon]at hj;obtain⟨oe,hoe⟩:∃oe,ops[e.on]? = some oe:=⟨_,List.getElem?_eq_getElem (by omega)⟩;exact ih e.on hon oe hoe (hD e.on oe hDe hoe) j hj
end
end Go.AM
namespace Go.AM
section
variable {S:X1}{P:Program}
theorem Mj {regs:C4}:∀{l:List AV},l.all VL=true->KS regs l=some (l,regs)
 |[],_=>rfl
 |a::r,h=>by simp only[List.all_cons,Bool.and_eq_true]at h;have ih:=Mj (regs:=regs) h.2;cases a<;>simp only[KS,ih]<;>simp[VL]at h
theorem Mk {env env' : Env}{f:Operand}{as:List AV}(h:aev env f=aev env' f):Qt env f as=Qt env' f as:=by unfold Qt;rw[h]
theorem Ml {all:List Oper}{V:Nat->AV}{env:Env}{x:Nat}:∀m,Fu all V env (fun _=>false) x m=get env x
 |0=>rfl
 |m+1=>by simp only[Fu];rw[if_neg (by simp),Ml m]
theorem VN (hS:F4 S P){F:H6}{K:List It}{id:Nat}{ops:Array Oper}{env:Env}{regs:C4}(cls:List Cls)(hmix:P.follows .mixedOrders=true)(hok:Jz ops.toList cls=true)
 (h:KT S P ops.toList cls ops.toList env regs fun env regs=>G S P F (.pop .normal K ⟨env,regs⟩)):G S P F (.code (.region id ops true) K ⟨env,regs⟩):=by
 simp only[G,awp,if_true];generalize ops.toList=all at hok h;simp only[Jz,Bool.and_eq_true,beq_iff_eq,List.all_eq_true,List.mem_range]at hok;obtain⟨⟨hdep,hlen⟩,hpair⟩:=hok;obtain⟨E,R,V,hE0,hR0,hk,hstep⟩:=Sw all all cls 0 env regs _ h hlen;have T:Xs S P all cls E R V:=⟨hstep⟩;have hpr:∀(i j:Nat) (oi oj:Oper),i<j->all[i]? = some oi->all[j]? = some oj->i∈(Aj8 all).getD j [] \/ EA all (cls.getD i .n) (cls.getD j .n) oi oj=true:=by
  intro i j oi oj hij hi hj
  have:=hpair j (List.getElem?_eq_some_iff.1 hj).1 i hij
  simp only[hi,hj,Bool.or_eq_true,List.contains_eq_mem,decide_eq_true_eq]at this;exact this
 let down:(Nat->Bool)->Prop:=fun D=>∀i o,D i=true->all[i]? = some o->∀e∈o.after.toList,CG e=true->D e.on=true
 let Inv:(Nat->Bool)->St->Prop:=fun D s=>down D/\(∀x,get s.env x=Fu all V env D x all.length) /\
  ∀q,∃k,k<=all.length/\(∀i,i<all.length->GJ q (cls.getD i .n)=true->(D i=true↔i<k))/\A1 s.regs q=A1 (R k) q
 refine⟨hmix,hdep,Inv,⟨fun i o hi=>(by cases hi),fun x=>(Ml _).symm,fun q=>⟨0,Nat.zero_le _,fun i _ _=>by simp,by rw[hR0]⟩⟩,?_,?_⟩
 ·intro D i s o ⟨hD,henv,hreg⟩ ho hDi hready;have hin:i<all.length:=(List.getElem?_eq_some_iff.1 ho).1;have hanc:=Mi hdep hD i o ho hready;have hbef:∀j oj,j<i->all[j]? = some oj->D j=true \/ EA all (cls.getD j .n) (cls.getD i .n) oj o=true:=fun j oj hj hoj=>
   (hpr j i oj o hj hoj ho).imp (hanc j) fun h=>h
  have haft:∀j oj,i<j->all[j]? = some oj->D j=true->EA all (cls.getD i .n) (cls.getD j .n) o oj=true:=by
   intro j oj hj hoj hDj;rcases hpr i j o oj hj ho hoj with h1|h1
   ·have:=Mi hdep hD j oj hoj (hD j oj hDj hoj) i h1
    rw[hDi]at this;cases this
   ·exact h1
  have hrd:∀x∈reads all o,get s.env x=get (E i) x:=by
   intro x hx;rw[henv x,Pc T x i (by omega),hE0];refine Cb fun j hj hd=>?_;obtain⟨oj,hoj⟩:∃oj,all[j]? = some oj:=⟨_,List.getElem?_eq_getElem hj⟩;simp only[hoj,Option.bind_some]at hd;by_cases e:j<i
   ·simp only[e,decide_true];rcases hbef j oj e hoj with h1|h1
    ·exact h1
    ·simp only[EA,hd,Bool.and_eq_true,Bool.not_eq_true',List.contains_eq_mem,decide_eq_false_iff_not]at h1;exact absurd hx h1.1.2.1
   ·simp only[e,decide_false];by_cases e2:j=i
    ·subst e2;exact hDi
    ·cases hDj:D j with
     |false=>rfl
     |true=>have h1:=haft j oj (by omega) hoj hDj;simp only[EA,hd,Bool.and_eq_true,Bool.not_eq_true',List.contains_eq_mem,decide_eq_false_iff_not]at h1;exact absurd hx h1.2
  have hops:∀x∈o.op.operands.toList,aev s.env x=aev (E i) x:=fun x hx=>VK fun t ht=>hrd t (List.mem_append_left _ (List.mem_flatMap.2 ⟨x,hx,ht⟩));have hq:∀q,VJ q (cls.getD i .n)=true->A1 s.regs q=A1 (R i) q:=by
   intro q hn;obtain⟨k,hkn,hW,hr⟩:=hreg q;rw[hr];by_cases hki:k<=i
   ·refine (QN T q k i hki (by omega) fun j h1 h2=>?_).symm;cases hw:GJ q (cls.getD j .n)with
    |false=>rfl
    |true=>
     obtain⟨oj,hoj⟩:∃oj,all[j]? = some oj:=⟨_,List.getElem?_eq_getElem (by omega)⟩;rcases hbef j oj h2 hoj with h3|h3
     ·have:=(hW j (by omega) hw).1 h3;omega
     ·simp only[EA,(DF hw hn).1,Bool.not_true,Bool.false_and,Bool.false_eq_true]at h3
   ·refine QN T q i k (by omega) hkn fun j h1 h2=>?_;cases hw:GJ q (cls.getD j .n)with
    |false=>rfl
    |true=>
     have hDj:D j=true:=(hW j (by omega) hw).2 h2;by_cases e:j=i
     ·subst e;rw[hDi]at hDj;cases hDj
     ·obtain⟨oj,hoj⟩:∃oj,all[j]? = some oj:=⟨_,List.getElem?_eq_getElem (by omega)⟩;have h3:=haft j oj (by omega) hoj hDj;simp only[EA,(DF hw hn).2,Bool.not_true,Bool.false_and,Bool.false_eq_true]at h3
  obtain⟨b,hb,hs,hEi⟩:=hstep i o ho;have hdown:down fun j=>if j=i then true else D j:=by
   intro j oj hj hoj e he hbe;by_cases e1:j=i
   ·subst e1;rw[ho]at hoj;cases hoj
    have:=hready e he hbe
    show (if e.on=j then true else D e.on)=true;split
    ·rfl
    ·exact this
   ·have hj' : D j=true:=by
     have hj:(if j=i then true else D j)=true:=hj
     rwa [if_neg e1]at hj
    have:=hD j oj hj' hoj e he hbe
    show (if e.on=i then true else D e.on)=true;split
    ·rfl
    ·exact this
  have henv' : ∀x,get (Mh o.dst (V i) s.env) x=Fu all V env (fun j=>if j=i then true else D j) x all.length:=by
   intro x;rw[Sx];by_cases hd:o.dst=some x
   ·rw[if_pos hd];refine (Pb (by simp) (by simp[ho,hd]) hin fun j h1 h2 h3=>?_).symm;have hne:j≠i:=by omega
    simp only[hne,if_false];obtain⟨oj,hoj⟩:∃oj,all[j]? = some oj:=⟨_,List.getElem?_eq_getElem h2⟩;simp only[hoj,Option.bind_some]at h3;cases hDj:D j with
    |false=>rfl
    |true=>have h4:=haft j oj h1 hoj hDj;simp[EA,hd,h3]at h4
   ·rw[if_neg hd,henv x];refine Cb fun j hj h3=>?_;have hne:j≠i:=by rintro rfl;rw[ho]at h3;exact hd h3
    simp[hne]
  have hInv:∀R',(∀q,GJ q (cls.getD i .n)=true->A1 R' q=A1 (R (i+1)) q)->(∀q,GJ q (cls.getD i .n)=false->A1 R' q=A1 s.regs q)->Inv (fun j=>if j=i then true else D j) (put ⟨s.env,R'⟩ o.dst (V i)):=by
   intro R' h1 h2;refine⟨hdown,?_,fun q=>?_⟩
   ·intro x
    have:=henv' x
    cases hd:o.dst<;>simp only[hd,put,Mh]at this⊢<;>exact this
   ·have hput:(put ⟨s.env,R'⟩ o.dst (V i)).regs=R':=by cases o.dst<;>rfl
    rw[hput];cases hw:GJ q (cls.getD i .n)with
    |false=>
     obtain⟨k,hkn,hW,hr⟩:=hreg q;refine⟨k,hkn,fun j hj hwj=>?_,(h2 q hw).trans hr⟩;have hne:j≠i:=by rintro rfl;rw[hw]at hwj;cases hwj
     simp only[hne,if_false];exact hW j hj hwj
    |true=>
     refine⟨i+1,by omega,fun j hj hwj=>?_,h1 q hw⟩;by_cases e:j=i
     ·simp[e]
     ·simp only[e,if_false];obtain⟨oj,hoj⟩:∃oj,all[j]? = some oj:=⟨_,List.getElem?_eq_getElem hj⟩;constructor
      ·intro hDj;by_cases hlt:i<j
       ·have h3:=haft j oj hlt hoj hDj;simp only[EA,(DF hw (Gc hwj)).1,Bool.not_true,Bool.false_and,Bool.false_eq_true]at h3
       ·omega
      ·intro hlt;rcases hbef j oj (by omega) hoj with h3|h3
       ·exact h3
       ·simp only[EA,(DF hwj (Gc hw)).1,Bool.not_true,Bool.false_and,Bool.false_eq_true]at h3
  obtain⟨RT,hRT,hRT2⟩:∃RT,(∀q,A1 s.regs q=A1 RT q)/\((cls.getD i .n=.r \/ cls.getD i .n=.w)->RT=R i):=by
   by_cases hall:cls.getD i .n=.r \/ cls.getD i .n=.w
   ·exact⟨R i,fun q=>hq q (by rcases hall with h1|h1<;>rw[h1]<;>rfl),fun _=>rfl⟩
   ·exact⟨s.regs,fun _=>rfl,fun h=>absurd h hall⟩
  have hsame:R (i+1)=R i->Inv (fun j=>if j=i then true else D j) (put ⟨s.env,RT⟩ o.dst (V i)):=fun hRi=>
   hInv RT (fun q hw=>by rw[<- hRT q,hq q (Gc hw),hRi]) fun q _=>(hRT q).symm
  have hrun:b=true->wOp S P o (Inv fun j=>if j=i then true else D j) (kp S P K F) ⟨s.env,RT⟩:=by
   intro hbt;rw[hbt,if_pos rfl]at hs;rcases hs with⟨c,ha,hc,hcl,hcx⟩ | ⟨hp,hRi⟩ | ⟨hw,hdet⟩ | ⟨c,x,ha,hc,hvx,hRi⟩
   ·cases hc' : cls.getD i .n with
    |n=>rw[hc']at hcl;have h1:=Nj hcl ha;have ha':=h1.2 RT;rw[<- EB hops]at ha';exact JA ha' hc (hsame h1.1)
    |r=>rw[hc']at hcl;rw[<- EB hops,<- hRT2 (.inl hc')]at ha;refine JA ha hc ?_;have hcl:R (i+1)=R i:=hcl;rw[hcl,<- hRT2 (.inl hc')];exact hsame hcl
    |w=>rw[<- EB hops,<- hRT2 (.inr hc')]at ha;exact JA ha hc (hInv _ (fun _ _=>rfl) fun q hw=>by rw[hc']at hw;cases hw)
    |l js=>
     rw[hc']at hcx;have ha':=hcx.2 RT fun q hj=>by rw[<- hRT q];exact hq q (by rw[hc'];simpa[VJ]using hj)
     rw[<- EB hops]at ha';exact JA ha' hc (hsame hcx.1)
    |a js=>
     rw[hc']at hcx;obtain⟨R3,ha',h3,h4⟩:=hcx RT fun q hj=>by rw[<- hRT q];exact hq q (by rw[hc'];simpa[VJ]using hj)
     rw[<- EB hops]at ha';refine JA ha' hc (hInv R3 (fun q hw=>?_) fun q hw=>?_)
     ·rw[hc']at hw;exact h3 q (by simpa[GJ]using hw)
     ·rw[hc']at hw;rw[h4 q (by simpa[GJ]using hw),hRT q]
   ·obtain⟨c,f,fn,as',args,r',e1,e2,e3,e4,e5,e6,e7⟩:=hp;obtain⟨callee,cargs,types⟩:=c;simp only at e2 e3 e4;subst e2;have hargs:cargs.toList.map (aev s.env)=cargs.toList.map (aev (E i)):=List.map_congr_left fun x hx=>hops x (by rw[e1];simp[Op.operands,Call.operands];exact .inr (by simpa using hx));have hf:aev s.env f=aev (E i) f:=hops f (by rw[e1];simp[Op.operands,Call.operands]);unfold wOp;rw[e1];refine .inl ⟨_,RT,fn,as',by rw[hargs];exact .inl (Mj e3),by rw[Mk hf];exact e4,[],args,[],rfl,e5,rfl,rfl,hS.monoF _ _ _ _ _ ?_ e6⟩;rintro _ _ _ ⟨rfl,rfl,rfl⟩;refine⟨rfl,?_⟩
    have:(K8 (o.dst.getD 0) [] [] ([]:List Obj).length)=[]:=rfl
    rw[this];show Inv _ (put ⟨s.env,RT⟩ o.dst (unA [] r'));rw[<- e7];exact hsame hRi
   ·obtain⟨c,f,as,regs1,fn,as',args,objs,objs',ks,r',ids,e1,e2,e3,e4,e5,e6,e7,e8,e9,e10,e11,e12⟩:=hdet;obtain⟨callee,cargs,types⟩:=c;simp only at e2 e3;subst e2;have hargs:cargs.toList.map (aev s.env)=cargs.toList.map (aev (E i)):=List.map_congr_left fun x hx=>hops x (by rw[e1];simp[Op.operands,Call.operands];exact .inr (by simpa using hx));have hf:aev s.env f=aev (E i) f:=hops f (by rw[e1];simp[Op.operands,Call.operands]);unfold wOp;rw[e1];refine .inl ⟨as,regs1,fn,as',by rw[hargs,hRT2 (.inr hw)];exact .inl e3,by rw[Mk hf];exact e4,ids,args,objs,e8,e5,e6,e9,hS.monoF _ _ _ _ _ ?_ e7⟩;rintro _ _ _ ⟨rfl,rfl,rfl⟩;refine⟨e10,?_⟩;show Inv _ (put ⟨s.env,_⟩ o.dst (unA _ r'));rw[<- e11,<- e12];exact hInv _ (fun _ _=>rfl) fun q h=>by rw[hw]at h;cases h
   ·rw[<- TN hops]at ha;have hfin:=hsame hRi;rw[hvx]at hfin;exact Xt ha hc hfin
  have hskip:b=false->Inv (fun j=>if j=i then true else D j) (put ⟨s.env,RT⟩ o.dst Ak):=by intro hbf;rw[hbf]at hs;simp only[Bool.false_eq_true,if_false]at hs;obtain⟨hv,hRi⟩:=hs;rw[<- hv];exact hsame hRi
  refine hS.eqv s ⟨s.env,RT⟩ _ (fun _=>rfl) hRT ?_;cases hg:o.guard with
  |none=>simp only[Cv,hg,Option.some.injEq]at hb;exact hrun hb.symm
  |some q=>
   obtain⟨j,want⟩:=q;simp only[Cv,hg,Option.map_eq_some_iff]at hb;obtain⟨b0,hy,hb0⟩:=hb;have hsl:get s.env (Ep all j)=get (E i) (Ep all j):=hrd _ (List.mem_append_right _ (by simp[hg]));refine⟨b0,by rw[hsl];exact hy,?_⟩;by_cases hbw:b0=some want
   ·rw[if_pos hbw];exact hrun (by rw[<- hb0];simp[hbw])
   ·rw[if_neg hbw];exact hskip (by rw[<- hb0];simp[hbw])
 ·intro D s ⟨hD,henv,hreg⟩ hall;refine hS.eqv s ⟨E all.length,R all.length⟩ _ (fun x=>?_) (fun q=>?_) hk
  ·show get s.env x=get (E all.length) x;rw[henv x,Pc T x _ (Nat.le_refl _),hE0];exact Cb fun j hj _=>by simp[hall j hj,hj]
  ·obtain⟨k,hkn,hW,hr⟩:=hreg q;rw[hr];refine (QN T q k all.length hkn (Nat.le_refl _) fun j h1 h2=>?_).symm;cases hw:GJ q (cls.getD j .n)with
   |false=>rfl
   |true=>have:=(hW j h2 hw).1 (hall j h2);omega
end
end Go.AM
namespace Go.AM
def clsOf:Op->Cls
 |.store .. | .alloc _ | .box .. | .buildSlice .. | .makeMap .. | .makeSlice .. | .mapUpdate .. | .entryStore .. | .mapEntry ..=>.w
 |.load .. | .indexAddr .. | .lookup ..=>.r
 |.call { callee:=.builtin .len,.. } | .call { callee:=.builtin .cap,.. }=>.r
 |.call { callee:=.builtin .min,.. } | .call { callee:=.builtin .max,.. }=>.n
 |.call _=>.w
 |_=>.n
def isR (env:Env):Op->Bool
 |.load .. | .indexAddr ..=>true
 |.lookup _ _ k _=>isP (aev env k)
 |.call { callee:=.builtin .len,.. }=>true
 |o=>isN env o
def inJ (js:List Nat):AV->Bool
 |.p _=>true
 |.vec i=>js.contains i
 |.vecp i _=>js.contains i
 |_=>false
def adJ (js:List Nat):AV->Bool
 |.reg i _=>js.contains i
 |.elt i _ _ _=>js.contains i
 |_=>false
def isL (js:List Nat)(env:Env):Op->Bool
 |.load _ a=>adJ js (aev env a)
 |.indexAddr _ x _=>adJ js (aev env x)||inJ js (aev env x)
 |.call { callee:=.builtin .len,args,.. }=>args.toList.all fun x=>inJ js (aev env x)
 |_=>false
def isA (js:List Nat)(env:Env)(d:Nat):Op->Bool
 |.alloc _=>js.contains (nid d 0)
 |.box _ _=>js.contains (nid d 0)
 |.store _ a _=>adJ js (aev env a)
 |.call { callee:=.builtin .append,args,.. }=>js.contains (nid d 0)&&args.toList.all fun x=>inJ js (aev env x)
 |_=>false
def ZB (cl:Cls)(env:Env)(d:Nat)(o:Op):Bool:=match cl with
 |.n=>isN env o
 |.r=>isR env o
 |.w=>true
 |.l j=>isL j env o
 |.a j=>isA j env d o
structure SRes:Type 1 where
 conds:List Prop
 cls:List Cls
 rest:List Oper
 env:Env
 regs:C4
def Ae8 (kn:List Nat)(all:List Oper)(env:Env)(o:Oper):Bool:=match o.guard with
 |none=>false
 |some (j,_)=>match kn.contains j with
  |true=>false
  |false=>match get env (Ep all j)with
   |.p (.bb _)=>true
   |_=>false
def KU (P:Program)(kn:List Nat)(all:List Oper):List Cls->List Oper->List Prop->Env->C4->SRes
 |cl::cls,o::rest,c,env,regs=>
  match Ae8 kn all env o with
  |true=>⟨c,cl::cls,o::rest,env,regs⟩
  |false=>match Cv all env o with
  |some true=>match YC o.op&&ZB cl env (o.dst.getD 0) o.op with
   |true=>match aop P env regs (o.dst.getD 0) o.op with
    |none=>⟨c,cl::cls,o::rest,env,regs⟩
    |some ⟨p,v,regs'⟩=>fA v fun v=>fR regs' fun regs'=>fC p c fun c=>
     match o.dst with
     |some d=>Vj d v env fun env=>KU P kn all cls rest c env regs'
     |none=>KU P kn all cls rest c env regs'
   |false=>⟨c,cl::cls,o::rest,env,regs⟩
  |some false=>match o.dst with
   |some d=>Vj d Ak env fun env=>KU P kn all cls rest c env regs
   |none=>KU P kn all cls rest c env regs
  |none=>⟨c,cl::cls,o::rest,env,regs⟩
 |cls,rest,c,env,regs=>⟨c,cls,rest,env,regs⟩
section
variable {S:X1}{P:Program}
theorem Xu {env:Env}{R R' : C4}{d:Nat}{o:Op}{c:List Prop}{v:AV}(hr:isR env o=true)(h:aop P env R d o=some ⟨c,v,R'⟩):R' = R:=by
 have gen:isN env o=true->R' = R:=fun hn=>(Nj hn h).1;cases o with
 |load t a=>
  simp only[aop]at h;split at h
  ·simp only[Option.some.injEq,Out.mk.injEq]at h;exact h.2.2.symm
  ·cases h
 |indexAddr t x i=>
  simp only[aop]at h;split at h
  ·split at h
   ·simp only[Option.some.injEq,Out.mk.injEq]at h;exact h.2.2.symm
   ·cases h
  ·cases h
 |lookup t m k ok=>
  simp only[isR]at hr;cases hk:aev env k<;>simp only[hk,isP,Bool.false_eq_true]at hr;simp only[aop,hk,Gv]at h;split at h
  ·simp only[Option.some.injEq,Out.mk.injEq]at h;exact h.2.2.symm
  ·cases h
 |call cc=>
  obtain⟨callee,args,types⟩:=cc;cases callee with
  |builtin b=>
   cases b with
   |len=>
    simp only[aop]at h;split at h
    ·split at h
     ·simp only[Option.some.injEq,Out.mk.injEq]at h;exact h.2.2.symm
     ·cases h
    ·cases h
   |_=>exact gen hr
  |_=>exact gen hr
 |_=>exact gen hr
theorem EC (regs:C4)(d t:Nat)(x:Obj):A1 (ins d x regs) t=if d=t then some x else A1 regs t:=by
 induction regs with
 |nil=>simp[ins,A1]
 |cons p r ih=>
  obtain⟨i,b⟩:=p;simp only[ins];split
  ·simp only[A1]
  ·split
   ·rename_i h;subst h;simp only[A1];split<;>rfl
   ·rename_i h1 h2;simp only[A1,ih];by_cases h:i=t
    ·simp only[h,if_true];rw[if_neg (by omega)]
    ·simp only[h,if_false]
theorem Sy {js:List Nat}{a:AV}(h:adJ js a=true):∃i∈js,(∃off,a=.reg i off) \/ ∃k n off,a=.elt i k n off:=by
 cases a with
 |reg i off=>exact⟨i,by simpa[adJ]using h,.inl ⟨off,rfl⟩⟩
 |elt i k n off=>exact⟨i,by simpa[adJ]using h,.inr ⟨k,n,off,rfl⟩⟩
 |_=>cases h
section
variable {js:List Nat}{R R2:C4}(hR:∀q∈js,A1 R2 q=A1 R q)
include hR
theorem Xv {t:TypeId}{a:AV}(ha:adJ js a=true):load P R2 t a=load P R t a:=by obtain⟨i,hi,⟨off,rfl⟩ | ⟨k,n,off,rfl⟩⟩:=Sy ha<;>simp only[load,hR i hi]
theorem TO {t:TypeId}{x:AV}{n:Int}(ha:(adJ js x||inJ js x)=true):Dd P R2 t x n=Dd P R t x n:=by
 cases x with
 |vec i=>
  have hi:i∈js:=by simpa[adJ,inJ]using ha
  unfold Dd;cases tk P t with
  |none=>rfl
  |some k=>cases k<;>first|rfl|simp only[hR i hi]
 |vecp i m=>
  have hi:i∈js:=by simpa[adJ,inJ]using ha
  unfold Dd;cases tk P t with
  |none=>rfl
  |some k=>cases k<;>first|rfl|simp only[hR i hi]
 |reg i off=>unfold Dd;cases tk P t with
  |none=>rfl
  |some k=>cases k<;>rfl
 |p y=>unfold Dd;cases tk P t with
  |none=>rfl
  |some k=>cases k<;>cases y<;>rfl
 |elt i k n off=>unfold Dd;cases tk P t with
  |none=>rfl
  |some k=>cases k<;>rfl
 |_=>cases ha
theorem Xw {t:TypeId}{x:AV}(ha:inJ js x=true):UQ P R2 t x=UQ P R t x:=by
 cases x with
 |vec i=>
  have hi:i∈js:=by simpa[inJ]using ha
  unfold UQ;cases tk P t with
  |none=>rfl
  |some k=>cases k<;>first|rfl|simp only[hR i hi]
 |vecp i m=>unfold UQ;cases tk P t with
  |none=>rfl
  |some k=>cases k<;>rfl
 |p y=>unfold UQ;split<;>simp_all
 |_=>cases ha
theorem Pe {k:Nat}{x:AV}(ha:inJ js x=true):elems R2 k x=elems R k x:=by
 cases x with
 |vec i=>
  have hi:i∈js:=by simpa[inJ]using ha
  simp only[elems,hR i hi]
 |vecp i m=>
  have hi:i∈js:=by simpa[inJ]using ha
  simp only[elems,hR i hi]
 |p y=>unfold elems;split<;>simp_all
 |_=>cases ha
theorem VO {e:TypeId}{k:Nat}{x:AV}{q:Nat×(Nat->List PV)×Bool×C4}(ha:inJ js x=true)(h:Ox R e k x=some q) :(Ox R2 e k x=some (q.1,q.2.1,q.2.2.1,R2)/\q.2.2.2=R) \/ ∃j∈js,Ox R2 e k x=some (q.1,q.2.1,q.2.2.1,ins j .dead R2)/\q.2.2.2=ins j .dead R:=by
 cases x with
 |vec i=>
  have hi:i∈js:=by simpa[inJ]using ha
  simp only[Ox]at h⊢;rw[hR i hi]
  right
  refine⟨i,hi,?_⟩;cases hr:A1 R i with
  |none=>simp[hr]at h
  |some o=>
   cases o with
   |vec e' m n f vw=>
    simp only[hr]at h⊢;split at h
    ·rename_i hc;cases h;exact⟨by rw[if_pos hc],rfl⟩
    ·cases h
   |_=>simp[hr]at h
 |vecp i m=>
  have hi:i∈js:=by simpa[inJ]using ha
  simp only[Ox]at h⊢;rw[hR i hi]
  right
  refine⟨i,hi,?_⟩;cases hr:A1 R i with
  |none=>simp[hr]at h
  |some o=>
   cases o with
   |vec e' m n f vw=>
    cases vw with
    |true=>simp[hr]at h
    |false=>
     simp only[hr]at h⊢;split at h
     ·rename_i hc;cases h;exact⟨by rw[if_pos hc],rfl⟩
     ·cases h
   |_=>simp[hr]at h
 |p y=>
  left
  unfold Ox at h⊢;split at h
  ·cases h;exact⟨rfl,rfl⟩
  ·rename_i h1;cases h1
  ·rename_i h1;cases h1
  ·cases h
 |_=>cases ha
theorem VP {t:TypeId}{a x:AV}{c:List Prop}{R' : C4}(ha:adJ js a=true)(h:store P R t a x=some (c,R')):∃i∈js,∃o,R' = ins i o R/\store P R2 t a x=some (c,ins i o R2):=by
 obtain⟨i,hi,hai⟩:=Sy ha;refine⟨i,hi,?_⟩;have h2:=hR i hi;have fin:∀(p:Prop) [Decidable p] (c0:List Prop) (o:Obj),(if p then some (c0,ins i o R)else none)=some (c,R')->∃o',R' = ins i o' R/\(if p then some (c0,ins i o R2)else none)=some (c,ins i o' R2):=by
  intro p _ c0 o h;split at h
  ·rename_i hc;simp only[Option.some.injEq,Prod.mk.injEq]at h;obtain⟨rfl,rfl⟩:=h;exact⟨o,rfl,by rw[if_pos hc]⟩
  ·cases h
 cases hts:tsz P t with
 |none=>simp[store,hts]at h
 |some m=>
  cases hst:AQ x with
  |false=>simp[store,hts,hst]at h
  |true=>
   cases hr:A1 R i with
   |none=>rcases hai with⟨off,rfl⟩ | ⟨k,n,off,rfl⟩<;>simp[store,hts,hst,hr]at h
   |some o=>
    rw[hr]at h2;rcases hai with⟨off,rfl⟩ | ⟨k,n,off,rfl⟩
    ·simp only[store,hts,hst,hr,h2]at h⊢;cases o with
     |cells cs=>exact fin _ _ _ h
     |arr n f=>
      cases x with
      |p y=>cases y with
       |agg ps=>exact fin _ _ _ h
       |_=>exact fin _ _ _ h
      |_=>simp at h
     |_=>simp at h
    ·simp only[store,hts,hst,hr,h2]at h⊢;cases o with
     |vec e k' n' f vw=>
      cases vw with
      |true=>simp at h
      |false=>cases x with
       |p y=>exact fin _ _ _ h
       |_=>simp at h
     |fam e n' jr x0=>
      cases x0 with
      |none=>simp at h
      |some q=>
       cases hl:cellsOf x with
       |nil=>simp[hl]at h
       |cons y l=>cases l with
        |nil=>simp only[hl]at h⊢;exact fin _ _ _ h
        |cons=>simp[hl]at h
     |_=>simp at h
end
theorem Xx {js:List Nat}{env:Env}{R R' : C4}{d:Nat}{o:Op}{c:List Prop}{v:AV}(hr:isL js env o=true)(h:aop P env R d o=some ⟨c,v,R'⟩):R' = R/\∀R2,(∀q∈js,A1 R2 q=A1 R q)->aop P env R2 d o=some ⟨c,v,R2⟩:=by
 cases o with
 |load t a=>
  simp only[isL]at hr;simp only[aop]at h⊢;cases hl:load P R t (aev env a)with
  |none=>simp[hl]at h
  |some q=>obtain⟨c',a'⟩:=q;simp only[hl,Option.some.injEq,Out.mk.injEq]at h;obtain⟨rfl,rfl,rfl⟩:=h;exact⟨rfl,fun R2 h2=>by rw[Xv h2 hr,hl]⟩
 |indexAddr t x i=>
  simp only[isL]at hr;simp only[aop]at h⊢;cases hi:asInt (aev env i)with
  |none=>simp[hi]at h
  |some n=>
   simp only[hi]at h⊢;cases hl:Dd P R t (aev env x) n with
   |none=>simp[hl]at h
   |some q=>obtain⟨c',a'⟩:=q;simp only[hl,Option.some.injEq,Out.mk.injEq]at h;obtain⟨rfl,rfl,rfl⟩:=h;exact⟨rfl,fun R2 h2=>by rw[TO h2 hr,hl]⟩
 |call cc=>
  obtain⟨callee,args,types⟩:=cc;cases callee with
  |builtin b=>
   cases b with
   |len=>
    simp only[isL]at hr;simp only[aop]at h⊢;split at h
    ·rename_i x t hx ht;simp only[hx,List.all_cons,List.all_nil,Bool.and_true]at hr;cases hl:UQ P R t (aev env x)with
     |none=>simp[hl]at h
     |some n=>simp only[hl,Option.some.injEq,Out.mk.injEq]at h;obtain⟨rfl,rfl,rfl⟩:=h;exact⟨rfl,fun R2 h2=>by simp only[Xw h2 hr,hl]⟩
    ·cases h
   |_=>cases hr
  |_=>cases hr
 |_=>cases hr
theorem Xy {js:List Nat}{env:Env}{R R' : C4}{d:Nat}{o:Op}{c:List Prop}{v:AV}(hr:isA js env d o=true)(h:aop P env R d o=some ⟨c,v,R'⟩) :∀R2,(∀q∈js,A1 R2 q=A1 R q)->∃R3,aop P env R2 d o=some ⟨c,v,R3⟩/\(∀q∈js,A1 R3 q=A1 R' q)/\∀q,q ∉ js->A1 R3 q=A1 R2 q:=by
 intro R2 h2;have up:∀{A B:C4}(i:Nat) (x:Obj),i∈js->(∀q∈js,A1 A q=A1 B q)->(∀q,q ∉ js->A1 A q=A1 R2 q)->(∀q∈js,A1 (ins i x A) q=A1 (ins i x B) q)/\∀q,q ∉ js->A1 (ins i x A) q=A1 R2 q:=by intro A B i x hi h1 h2;refine⟨fun q hq=>by rw[EC,EC,h1 q hq],fun q hq=>?_⟩;rw[EC,if_neg (by rintro rfl;exact hq hi),h2 q hq]
 have one:=fun {i:Nat}(x:Obj) (hi:i∈js)=>up i x hi h2 fun _ _=>rfl;cases o with
 |alloc t=>
  have hj:nid d 0∈js:=by simpa[isA]using hr
  simp only[aop,h2 _ hj]at h⊢;split at h
  ·rename_i z h1 h3;split at h
   ·rename_i hz;simp only[Option.some.injEq,Out.mk.injEq]at h;obtain⟨rfl,rfl,rfl⟩:=h;exact⟨_,by simp only[h1,h3,hz,if_true],one _ hj⟩
   ·cases h
  ·cases h
 |box t x=>
  have hj:nid d 0∈js:=by simpa[isA]using hr
  simp only[aop,h2 _ hj]at h⊢;split at h
  ·rename_i h1 h3;simp only[Option.some.injEq,Out.mk.injEq]at h;obtain⟨rfl,rfl,rfl⟩:=h;exact⟨_,by simp only[h1,h3],one _ hj⟩
  ·cases h
 |store t a x=>
  simp only[isA]at hr;simp only[aop]at h⊢;split at h
  ·rename_i hs;simp only[Option.some.injEq,Out.mk.injEq]at h;obtain⟨rfl,rfl,rfl⟩:=h;obtain⟨i,hi,o,rfl,hs2⟩:=VP h2 hr hs;exact⟨_,by simp only[hs2],one _ hi⟩
  ·cases h
 |call cc=>
  obtain⟨callee,args,types⟩:=cc;cases callee with
  |builtin b=>
   cases b with
   |append=>
    simp only[isA,Bool.and_eq_true]at hr;have hj:nid d 0∈js:=by simpa using hr.1
    have hr:=hr.2;simp only[aop,h2 _ hj]at h⊢;split at h
    ·rename_i s x t t2 hx ht;simp only[hx,List.all_cons,List.all_nil,Bool.and_true,Bool.and_eq_true]at hr;split at h
     ·rename_i e k2 hk1 hk2;split at h
      ·rename_i m z hz1 hz2 hz3;split at h
       ·rename_i n g l f vw regs1 hn he htk;split at h
        ·rename_i hc;simp only[Option.some.injEq,Out.mk.injEq]at h;obtain⟨rfl,rfl,rfl⟩:=h;rcases VO h2 hr.1 htk with⟨h3,h4⟩ | ⟨j,hjj,h3,h4⟩
         ·simp only at h3 h4;subst h4;refine⟨ins (nid d 0) (.vec e m (l+n) (AW l f g) vw) R2,?_,one _ hj⟩;simp only[Pe h2 hr.2,hz1,hz2,hz3,hn,he,h3];rw[if_pos hc]
         ·simp only at h3 h4;subst h4;have h5:=one (i:=j) .dead hjj;refine⟨ins (nid d 0) (.vec e m (l+n) (AW l f g) vw) (ins j .dead R2),?_,up _ _ hj h5.1 h5.2⟩;simp only[Pe h2 hr.2,hz1,hz2,hz3,hn,he,h3];rw[if_pos hc]
        ·cases h
       ·cases h
      ·cases h
     ·cases h
    ·cases h
   |_=>cases hr
  |_=>cases hr
 |_=>cases hr
theorem TP {cl:Cls}{env:Env}{R R' : C4}{d:Nat}{o:Op}{c:List Prop}{v:AV}(hr:ZB cl env d o=true)(h:aop P env R d o=some ⟨c,v,R'⟩):clsF cl (isN env o=true) (R' = R)/\clsX P cl env R d o c v R':=by
 cases cl with
 |n=>exact⟨hr,trivial⟩
 |r=>exact⟨Xu hr h,trivial⟩
 |w=>exact⟨trivial,trivial⟩
 |l j=>exact⟨trivial,Xx hr h⟩
 |a j=>exact⟨trivial,Xy hr h⟩
variable {kn:List Nat}{all:List Oper}{k:Env->C4->Prop}
theorem JB:∀(cls:List Cls) (rest:List Oper) (c:List Prop) (env:Env) (regs:C4),D0 (KU P kn all cls rest c env regs).conds ->
 D0 c/\(KT S P all (KU P kn all cls rest c env regs).cls (KU P kn all cls rest c env regs).rest (KU P kn all cls rest c env regs).env (KU P kn all cls rest c env regs).regs k->KT S P all cls rest env regs k)
 |[],[],c,env,regs,h=>⟨h,fun h=>h⟩
 |[],_::_,c,env,regs,h=>⟨h,fun h=>h⟩
 |_::_,[],c,env,regs,h=>⟨h,fun h=>h⟩
 |cl::cls,o::rest,c,env,regs,h=>by
  simp only[KU]at h⊢;cases hst:Ae8 kn all env o with
  |true=>simp only[hst]at h⊢;exact⟨h,fun h=>h⟩
  |false=>
  simp only[hst]at h⊢;cases hg:Cv all env o with
  |none=>simp only[hg]at h⊢;exact⟨h,fun h=>h⟩
  |some b=>
   cases b with
   |true=>
    simp only[hg]at h⊢;cases ha:(YC o.op&&ZB cl env (o.dst.getD 0) o.op)with
    |false=>simp only[ha]at h⊢;exact⟨h,fun h=>h⟩
    |true=>
     simp only[ha]at h⊢;simp only[Bool.and_eq_true]at ha;cases hp:aop P env regs (o.dst.getD 0) o.op with
     |none=>simp only[hp]at h⊢;exact⟨h,fun h=>h⟩
     |some q=>
      obtain⟨p,v,regs'⟩:=q;simp only[hp,Tp,Ze,Ad1]at h⊢;have fin:∀(env' : Env),env' = Mh o.dst v env->(D0 (p++c)/\(KT S P all (KU P kn all cls rest (p++c) env' regs').cls (KU P kn all cls rest (p++c) env' regs').rest (KU P kn all cls rest (p++c) env' regs').env (KU P kn all cls rest (p++c) env' regs').regs k->KT S P all cls rest env' regs' k)) ->
       D0 c/\(KT S P all (KU P kn all cls rest (p++c) env' regs').cls (KU P kn all cls rest (p++c) env' regs').rest (KU P kn all cls rest (p++c) env' regs').env (KU P kn all cls rest (p++c) env' regs').regs k->KT S P all (cl::cls) (o::rest) env regs k):=by
       rintro env' rfl ⟨h1,h2⟩;obtain⟨h3,h4⟩:=(BX _ _).1 h1;exact⟨h3,fun hs=>⟨true,hg,by rw[if_pos rfl];exact⟨v,regs', .inl ⟨p,hp,h4,TP ha.2 hp⟩,h2 hs⟩⟩⟩
      cases hd:o.dst with
      |some d=>simp only[hd,FX]at h⊢;exact fin _ (by simp[hd,Mh]) (JB cls rest _ _ _ h)
      |none=>simp only[hd]at h⊢;exact fin _ (by simp[hd,Mh]) (JB cls rest _ _ _ h)
   |false=>
    simp only[hg]at h⊢;cases hd:o.dst with
    |some d=>simp only[hd,FX]at h⊢;obtain⟨h1,h2⟩:=JB cls rest _ _ _ h;exact⟨h1,fun hs=>⟨false,hg,by simp only[Bool.false_eq_true,if_false,hd,Mh];exact h2 hs⟩⟩
    |none=>simp only[hd]at h⊢;obtain⟨h1,h2⟩:=JB cls rest _ _ _ h;exact⟨h1,fun hs=>⟨false,hg,by simp only[Bool.false_eq_true,if_false,hd,Mh];exact h2 hs⟩⟩
theorem s_go {cls cls' : List Cls}{rest rest' : List Oper}{c:List Prop}{env env' : Env}{regs regs' : C4}(h:KU P kn all cls rest [] env regs=⟨c,cls',rest',env',regs'⟩)(hc:D0 c)(hk:KT S P all cls' rest' env' regs' k):KT S P all cls rest env regs k:=by
 have:=JB (S:=S) (kn:=kn) (k:=k) cls rest [] env regs (by rw[h];exact hc)
 rw[h]at this;exact this.2 hk
theorem s_end {cls:List Cls}{env:Env}{regs:C4}(h:k env regs):KT S P all cls [] env regs k:=by cases cls<;>exact h
theorem Ae9 {cl:Cls}{cls:List Cls}{o:Oper}{rest:List Oper}{env:Env}{regs:C4}{c:Call}{f:Operand}{fn:FuncId}{as' args:List AV}{r:AV}(hg:Cv all env o=some true)(ho:o.op=.call c)(hf:c.callee=.value f)
 (ha:((c.args.toList.map (aev env)).all VL)=true) (hw:Qt env f (c.args.toList.map (aev env))=some (fn,as')) (hr:BN [] as' = some args) (hF:Vl S fn args r)
 (hk:KT S P all cls rest (Mh o.dst (unA [] r) env) regs k):KT S P all (cl::cls) (o::rest) env regs k:=
 ⟨true,hg,by rw[if_pos rfl];exact⟨_,regs,.inr (.inl ⟨⟨c,f,fn,as',args,r,ho,hf,ha,hw,hr,hF,rfl⟩,rfl⟩),hk⟩⟩
theorem ZC {cls:List Cls}{o:Oper}{rest:List Oper}{env:Env}{regs regs1:C4}{c:Call}{f:Operand}{as:List AV}{fn:FuncId}{as' args:List AV}{objs objs' : List Obj}{ks:List Bool}{r:AV}(ids:List Nat)(hg:Cv all env o=some true)(ho:o.op=.call c)(hf:c.callee=.value f)
 (ha:KS regs (c.args.toList.map (aev env))=some (as,regs1)) (hw:Qt env f as=some (fn,as')) (hr:BN ids as' = some args) (hob:H8 ids regs1 ids=some objs) (hF:FunO S fn args objs r objs' ks)
 (hd:F0 ids=true) (hy:Df objs=true) (hn:BW regs1 ids ks (o.dst.getD 0) objs'.length=true)
 (hk:KT S P all cls rest (Mh o.dst (unA (K8 (o.dst.getD 0) ids ks objs'.length) r) env) (UR (K8 (o.dst.getD 0) ids ks objs'.length) (K8 (o.dst.getD 0) ids ks objs'.length) objs' (K9 ids ks regs1)) k) :
 KT S P all (.w::cls) (o::rest) env regs k:=
 ⟨true,hg,by rw[if_pos rfl];exact⟨_,_,.inr (.inr (.inl ⟨rfl,c,f,as,regs1,fn,as',args,objs,objs',ks,r,ids,ho,hf,ha,hw,hr,hob,hF,hd,hy,hn,rfl,rfl⟩)),hk⟩⟩
theorem Xz {cl:Cls}{cls:List Cls}{o:Oper}{rest:List Oper}{env:Env}{regs:C4}{c:List Prop}{x:PV}(hg:Cv all env o=some true)(ha:Oy P env o.op=some (c,x))(hc:D0 c)
 (hk:KT S P all cls rest (Mh o.dst (.p x) env) regs k):KT S P all (cl::cls) (o::rest) env regs k:=
 ⟨true,hg,by rw[if_pos rfl];exact⟨_,regs,.inr (.inr (.inr ⟨c,x,ha,hc,rfl,rfl⟩)),hk⟩⟩
def Aj9 (o:Op):Cls:=match o with
 |.buildSlice ..=>.n
 |o=>clsOf o
theorem XA (hS:F4 S P){F:H6}{K:List It}{id:Nat}{ops:Array Oper}{st:St}{cls:List Cls}(hmix:P.follows .mixedOrders=true)(hcls:ops.toList.map (fun o=>Aj9 o.op)=cls)(hok:Jz ops.toList cls=true)
 (h:KT S P ops.toList cls ops.toList st.env st.regs fun env regs=>G S P F (.pop .normal K ⟨env,regs⟩)):G S P F (.code (.region id ops true) K st):=
 VN hS cls hmix hok h
end
end Go.AM
namespace Go.AM
section
variable {S:X1}{P:Program}{F:H6}{K:List It}{st:St}
theorem HH (hS:F4 S P){f:FuncId}{fn:Func}{code:Code}{args:List AV}{objs:List Obj}{Q:Je->List Obj->List Bool->Prop}{rs:List ResultVar}(hf:P.funcs[f]? = some fn)(hc:fn.body=some code)(hn:args.length<=fn.ntmps)(ho:objs.length<1000)
 (hrs:fn.results.toList=rs) (hco:X2 fn.ntmps code=true) (hnm:(fn.name == "runtime.NumGoroutine")=false)
 (h:G S P (AX S P objs.length rs Q) (.code code [] { env:=argEnv args,regs:=objRegs objs })):S.F f args objs Q:=by
 subst hrs;exact hS.func f fn code args objs _ hf hc hnm hco hn ho (hS.refl _ _ h)
theorem ZD (hS:F4 S P){all rest:List Oper}{o:Oper}{c:Call}{f:Operand}{j:Nat}{xs ys:List PV}{regs:C4}{rest0:List (List PV)}
 (hg:By all st.env o=some true) (ho:o.op=.call c) (hf:c.callee=.value f) (hy:aev st.env f=.yf j) (hv:Hv st.regs (c.args.toList.map (aev st.env))=some (xs,regs))
 (hr:A1 regs j=some (.yld (ys::rest0) true)) (hon:DC j regs=true) (hle:Zc xs ys)
 (hk:∀b:Bool,G S P F (.ops all rest K (put { st with regs:=ins j (.yld (if b then rest0 else []) b) regs } o.dst (.p (.bb b))))):G S P F (.ops all (o::rest) K st):=by
 refine Dg hS hg ?_;unfold wOp;obtain⟨callee,cargs,types⟩:=c;simp only at hf hv;subst hf;rw[ho];exact .inr ⟨j,xs,regs,ys,rest0,hy,hv,hr,hon,hle,hk⟩
theorem XB (hS:F4 S P){all rest:List Oper}{o:Oper}{c:Call}{rv:Operand}{m:String}{as:List AV}{regs:C4}{t:TypeId}{y:PV}{fn:FuncId}{args:List AV}{r:AV}
 (hg:By all st.env o=some true) (ho:o.op=.call c) (hf:c.callee=.invoke rv m) (ha:KS st.regs (c.args.toList.map (aev st.env))=some (as,regs)) (hrv:aev st.env rv=.p (.iface t y)) (hm:Oz P t m=some fn)
 (hr:BN [] (.p y::as)=some args) (hF:Vl S fn args r)
 (hk:G S P F (.ops all rest K (put { env:=st.env,regs:=regs } o.dst (unA [] r)))):G S P F (.ops all (o::rest) K st):=by
 refine Dg hS hg ?_;unfold wOp;obtain⟨callee,cargs,types⟩:=c;simp only at hf ha;subst hf;rw[ho];refine⟨as,regs,t,y,fn,ha,hrv,hm,[],args,[],rfl,hr,rfl,rfl,hS.monoF _ _ _ _ _ ?_ hF⟩;rintro _ _ _ ⟨rfl,rfl,rfl⟩;exact⟨rfl,hk⟩
theorem ZE (hS:F4 S P){all rest:List Oper}{o:Oper}{x:Operand}{t:TypeId}{y:PV}(hg:By all st.env o=some true)(ho:o.op=.panic x)(hx:aev st.env x=.p (.iface t y))(hk:G S P F (.pop (.panic (.iface t y)) K st)):G S P F (.ops all (o::rest) K st):=by refine Dg hS hg ?_;unfold wOp;rw[ho];exact⟨t,y,hx,hk⟩
def DH (S:X1)(f:FuncId)(first caps:List AV)(objs:List Obj)(L:List (List PV)):Prop:=
 S.F f (first ++ .yf objs.length::caps) (objs++[.yld L true]) fun r objs' ks=>∃b,objs'[objs.length]? = some (.yld [] b)/\ks[objs.length]? = some true/\∃a,r=.ret a
def An (S:X1)(P:Program)(body:Code)(gh:Nat)(ts:List Nat)(next:St->Prop)(Q:H6):H6
 |.normal,s=>S.up s fun s=>awp S P body (CH S gh ts next Q) s
 |_,_=>False
theorem G_asg (hS:F4 S P){body:Code}{gh:Nat}{ts:List Nat}{next:St->Prop}{Q:H6}(h:G S P (CH S gh ts next Q) (.code body [] st)):G S P (An S P body gh ts next Q) (.pop .normal [] st):=
 hS.refl _ _ h
def XC {X:Type}(s:X->St)(J:List (List PV)->X->Prop)(rest:List (List PV))(t:St):Prop:=∃x,t=s x/\J rest x
theorem VQ (hS:F4 S P){g:Operand}{ps:Array Tmp}{asg body:Code}{f:FuncId}{first caps as bs:List AV}{objs:List Obj}(ids ts:List Nat)(gh:Nat)(L:List (List PV)){X:Type}(s:X->St)(J:List (List PV)->X->Prop)(x0:X)(idl:List (Nat×Nat))
 (hp:CF st.env g=some (f,first,caps)) (hfn:∃fn,P.funcs[f]? = some fn/\fn.body.isSome=true/\(fn.name == "runtime.NumGoroutine")=false) (hob:H8 ids st.regs ids=some objs) (hny:Df objs=true) (hd:F0 ids=true) (hr1:BN ids first=some as) (hr2:BN ids caps=some bs) (hol:objs.length=ids.length)
 (hgh:gh<1000) (hng:A1 st.regs gh=none) (hil:ids.length<1000) (hts:F0 ts=true) (hlen:∀ys∈L,ys.length=ps.size)
 (hF:DH S f as bs objs L) (hle:Le idl ⟨R8 ts (ts.map (get st.env)),K9 ids (ids.map fun _=>false) st.regs⟩ (s x0)) (h0:J L x0) (hk:∀x,(s x).env.map (·.1)=ts) (hn:∀x,A1 (s x).regs gh=none)
 (hround:∀ys rest x,J (ys::rest) x->G S P (An S P body gh ts (XC s J rest) (kp S P K F)) (.code asg [] ⟨Gx ps.toList ys (s x).env,ins gh (.ghost ((s x).env.map (·.2))) (s x).regs⟩))
 (hend:∀x,J [] x->G S P F (.pop .normal K (s x))):G S P F (.code (.rangeFunc g ps asg body) K st):=by
 have hdup:∀{l:List Nat},F0 l=true->l.Nodup:=by
  intro l
  induction l with
  |nil=>intro _;exact List.nodup_nil
  |cons a r ih=>intro h;simp only[F0,Bool.and_eq_true,Bool.not_eq_true',List.contains_eq_mem,decide_eq_false_iff_not]at h;exact List.nodup_cons.2 ⟨h.1,ih h.2⟩
 refine⟨f,first,caps,as,bs,objs,ids,ts,gh,L,XC s J,fun _ r=>∃a,r=.ret a,hp,hfn,hny,hd,hr1,hr2,hob,hgh,hng,hil,hdup hts,hlen,hS.le idl _ _ _ hle ⟨hk x0,hn x0,x0,rfl,h0⟩,?_,?_,?_⟩
 ·rintro ys rest _ _ _ ⟨x,rfl,hJ⟩;have h:=hround ys rest x hJ;have e:An S P body gh ts (XC s J rest) (kp S P K F)=fun e s'=>match e with
   |.normal=>S.up s' fun s'=>awp S P body (CH S gh ts (XC s J rest) (kp S P K F)) s'
   |_=>False:=by funext e s';cases e<;>rfl
  rw[e]at h;exact h
 ·rintro _ r _ _ ⟨x,rfl,hJ⟩ ⟨a,rfl⟩;exact hend x hJ
 ·rw[<- hol];refine hS.monoF _ _ _ _ _ ?_ hF;rintro r o ks ⟨b,h1,h2,h3⟩;exact⟨b,h1,h2,h3,fun _=>h3⟩
theorem QO (hS:F4 S P){gh:Nat}{ts:List Nat}{X:Type}{s:X->St}{J:List (List PV)->X->Prop}{rest:List (List PV)}{Q:H6}(st1:St){cs:List AV}(x:X)(idl:List (Nat×Nat))(hle:Le idl st st1)(hg:A1 st1.regs gh=some (.ghost cs))(hl:cs.length=ts.length)(hd:A1 (del gh st1.regs) gh=none)
 (he:(⟨R8 ts cs,del gh st1.regs⟩:St)=s x) (hJ:J rest x):G S P (CH S gh ts (XC s J rest) Q) (.pop .normal [] st):=
 hS.le idl _ _ _ hle ⟨cs,hg,hl,hd,x,he,hJ⟩
theorem Sz (hS:F4 S P){gh:Nat}{ts:List Nat}{next:St->Prop}{e:Jd}(he:match e with | .normal | .panic _=>False|_=>True)(st1:St){cs:List AV}(idl:List (Nat×Nat))(hle:Le idl st st1)(hg:A1 st1.regs gh=some (.ghost cs))(hl:cs.length=ts.length)(hd:A1 (del gh st1.regs) gh=none)
 (hk:G S P F (.pop e K ⟨R8 ts cs,del gh st1.regs⟩)):G S P (CH S gh ts next (kp S P K F)) (.pop e [] st):=by
 cases e with
 |normal=>exact he.elim
 |panic x=>exact he.elim
 |exit id=>exact hS.le idl _ _ _ hle ⟨cs,hg,hl,hd,hk⟩
 |goto t=>exact hS.le idl _ _ _ hle ⟨cs,hg,hl,hd,hk⟩
 |ret=>exact hS.le idl _ _ _ hle ⟨cs,hg,hl,hd,hk⟩
end
end Go.AM
namespace Go.AM
theorem Nk {n:Nat}(h:n<2 ^ 32):IntKind.u32.wrap (n:Int)=n:=by have h1:((n:Int) % (2 ^ 32:Int))=n:=Int.emod_eq_of_lt (by omega) (by omega);unfold IntKind.wrap;simp only[IntKind.bits,IntKind.signed,h1,Bool.false_and,Bool.false_eq_true,if_false]
abbrev u32 (x:BitVec 32):PV:=.v (.int .u32 x.toNat)
theorem Gd (x:BitVec 32):BitVec.ofInt 32 (x.toNat:Int)=x:=by
 apply BitVec.eq_of_toNat_eq;rw[BitVec.toNat_ofInt]
 have:=x.isLt
 omega
theorem JC (x y:BitVec 32):D9 .and .u32 x.toNat y.toNat=((x &&& y).toNat:Int):=by simp only[D9,IntKind.bits,Gd];exact Nk (x &&& y).isLt
theorem VR (x y:BitVec 32):D9 .or .u32 x.toNat y.toNat=((x ||| y).toNat:Int):=by simp only[D9,IntKind.bits,Gd];exact Nk (x ||| y).isLt
theorem TQ (x y:BitVec 32):D9 .andNot .u32 x.toNat y.toNat=((x &&& ~~~ y).toNat:Int):=by simp only[D9,IntKind.bits,Gd];exact Nk (x &&& ~~~ y).isLt
theorem YK (x:BitVec 32)(n:Nat):shI .shr .u32 x.toNat n=((x >>> n).toNat:Int):=by
 simp only[shI,IntKind.bits,Int.toNat_natCast];have hx:=x.isLt;rw[BitVec.toNat_ushiftRight,Nat.shiftRight_eq_div_pow];have e:((2:Int) ^ (min n 32))=((2 ^ (min n 32):Nat):Int):=by norm_cast
 rw[e,Int.fdiv_eq_ediv_of_nonneg _ (Int.natCast_nonneg _),<- Int.natCast_ediv];congr 1;by_cases h:n<=32
 ·rw[Nat.min_eq_left h]
 ·rw[Nat.min_eq_right (by omega),Nat.div_eq_of_lt hx,Nat.div_eq_of_lt];exact Nat.lt_of_lt_of_le hx (Nat.pow_le_pow_right (by omega) (by omega))
end Go.AM
namespace Go.AM
theorem FB {P:Program}{f:FuncId}{args:List PV}{r:AV}(hent:∀as w,(callFunc f as).run P w=.ok (.enter f as) w)
 (h:∀(w:World) (Pi:Nat->Nat->Prop) (vs:Array Value),TabOk P w Pi->(∀b off,Pi b off->b<w.heap.size)->vs.size=args.length->(∀i,i<args.length->RepP w Pi (vs.getD i undef) (args.getD i default)) ->
  Calls P f vs w fun e w'=>∃v,e=.returned v/\RowKit.Below w.heap.size w w' /\ ∀live rho,RepA w' Pi live rho v r):Vl (Ft P) f (args.map .p) r:=by
 intro 𝒢 C w vs rho hG hs hsz;have h0:=h w (Prv C.X (A1 (objRegs [])) rho) vs ((𝒢.tab C hG).keeps hs.keep) (fun b off hp=>by
  rcases hp with hp|⟨j,o,hj,_⟩
  ·exact hs.hp.bound b off hp
  ·simp[objRegs,objRegs.go,A1]at hj) (by simpa using hsz) (fun i hi=>by
  have:=hs.env i
  rw[Ab]at this;have e:(args.map AV.p).getD i .top=.p (args.getD i default):=by simp[hi]
  rw[e]at this;exact this.toP)
 refine⟨_,_,hent _ _,callsIn_wide.2 (h0.mono ?_)⟩;rintro e w' ⟨v,rfl,hb,hv⟩;have hk:Keeps w (Prv C.X (A1 (objRegs [])) rho) w' (Prv C.X (A1 (objRegs [])) rho):=fun b o v hp hc=>⟨by rw[<- hc];exact World.cell?_of_block (hb.block b (World.block_lt_of_cell? w ⟨b,o,none⟩ hc)),hp⟩
 refine⟨C,.ret r,[],[],rho,hG,⟨rfl,rfl,rfl⟩,?_,⟨v,rfl,hv _ _⟩,fun i hi=>by simp at hi⟩;have hno:∀j,A1 (objRegs []) j=none:=fun j=>by simp[objRegs,objRegs.go,A1]
 refine⟨⟨fun j o hj=>by simp[hno]at hj,fun i j oi oj b hj=>by simp[hno]at hj,fun j o b off hj=>by simp[hno]at hj,fun b off hp=>Nat.lt_of_lt_of_le (hs.hp.bound b off hp) hb.size⟩,hs.ext.trans ⟨hb.os,hb.output⟩,Nat.le_trans hs.size hb.size,fun b hlt hE=>?_,hs.keep.trans hk,fun b hbo=>?_,fun j r b hj=>by simp[hno]at hj⟩
 ·rw[hb.block b (Nat.lt_of_lt_of_le hlt hs.size)];exact hs.same b hlt hE
 ·obtain⟨j,o,hj,_⟩:=hbo;simp[hno]at hj
theorem GK {P:Program}{f:FuncId}{args:List PV}{r:AV}(hent:∀as w,(callFunc f as).run P w=.ok (.enter f as) w)
 (h:∀(w:World) (Pi:Nat->Nat->Prop) (vs:Array Value),(∀b off,Pi b off->b<w.heap.size)->vs.size=args.length->(∀i,i<args.length->RepP w Pi (vs.getD i undef) (args.getD i default)) ->
  Calls P f vs w fun e w'=>∃v,e=.returned v/\RowKit.Below w.heap.size w w' /\ ∀live rho,RepA w' Pi live rho v r):Vl (Ft P) f (args.map .p) r:=
 FB hent fun w Pi vs _=>h w Pi vs
end Go.AM
namespace Go.AM
open Go.RowKit Go.ChangeShapes
def Ak0 (W:World):Ctx:={ X:=fun _ _=>False,w0:=W,E0:=fun _=>False,Pi0:=fun _ _=>False,rho0:=fun _=>undef,Y:=fun _ _=>False,yv:=undef }
theorem ZF {W:World}{vs:Array Value}{args:List PV}(hsz:vs.size=args.length)(hr:∀i,i<args.length->RepP W (fun _ _=>False) (vs.getD i undef) (args.getD i default)) :Sat (Ak0 W) ⟨argEnv (args.map .p),objRegs []⟩ ⟨vs,[]⟩ W (fun _=>undef):=by
 have hno:∀j,A1 (objRegs []) j=none:=fun j=>by simp[objRegs,objRegs.go,A1]
 have hprv:∀b o,¬Prv (Ak0 W).X (A1 (objRegs [])) (fun _=>undef) b o:=fun b o h=>by
  rcases h with h|⟨j,o',hj,_⟩
  ·exact h
  ·simp[hno]at hj
 refine⟨⟨⟨fun j o hj=>by simp[hno]at hj,fun i j oi oj b hj=>by simp[hno]at hj,fun j o b off hj=>by simp[hno]at hj,fun b off hp=>hp.elim⟩,Ext.refl _,Nat.le_refl _,fun _ _ _=>rfl,fun b o v _ hc=>⟨hc,hprv b o⟩,fun b hb=>?_,fun j r b hj=>by simp[hno]at hj⟩,fun t=>?_,fun j _ hl=>?_,List.nodup_nil,fun d hd=>by cases hd⟩
 ·obtain⟨j,o,hj,_⟩:=hb;simp[hno]at hj
 ·show RepA W _ _ _ (vs.getD t undef) (get (argEnv (args.map .p)) t);rw[Ab];by_cases ht:t<args.length
  ·have e:(args.map AV.p).getD t .top=.p (args.getD t default):=by simp[ht]
   rw[e];exact .p _ _ ((hr t ht).keeps fun b o v _ hc=>⟨hc,hprv b o⟩)
  ·have e:(args.map AV.p).getD t .top=.top:=by simp[Nat.le_of_not_lt ht]
   rw[e];exact .top _
 ·obtain⟨o,ho⟩:=hl
structure Af0 (W w' : World):Prop where
 os:w'.os=W.os
 output:w'.output=W.output
 size:W.heap.size<=w'.heap.size
 block:∀b,b<W.heap.size->w'.heap[b]? = W.heap[b]?
theorem MN {P:Program}{f:FuncId}{args:List PV}(hent:∀as w,(callFunc f as).run P w=.ok (.enter f as) w)(h:Vl (Ft P) f (args.map .p) (.p (.bb true)))
 {W:World}{vs:Array Value}(hT:TabOk P W fun _ _=>False) (hsz:vs.size=args.length) (hr:∀i,i<args.length->RepP W (fun _ _=>False) (vs.getD i undef) (args.getD i default)) :
 Calls P f vs W fun e w'=>e=.returned (.bool true)/\Af0 W w':=by
 obtain⟨nx,w1,h1,h2⟩:=h (Prot.triv P (Ak0 W) (fun _ _ h=>h) hT) (Ak0 W) W vs _ rfl (ZF hsz hr) (by simpa using hsz);rw[hent]at h1;cases h1;refine (callsIn_wide.1 h2).mono ?_;rintro e w' ⟨C',r,objs',ks,rho',rfl,⟨rfl,rfl,rfl⟩,hE,⟨v,rfl,hv⟩,_⟩;cases hv with
 |p _ _ hp=>cases hp;exact⟨rfl,hE.ext.1,hE.ext.2,hE.size,fun b hb=>hE.same b hb fun h=>h⟩
section
variable {H:Type}{enc:TypeId×Value->H}{P:Program}
theorem XD {W w' : World}(h:Af0 W w')(may:MemPlace->Prop):W.keptBut w' may:=by
 refine⟨h.os,h.output,fun i hi=>?_⟩;rw[h.block i hi];generalize W.heap[i]? = o;cases o with
 |none=>trivial
 |some o=>cases o<;>first|exact⟨rfl,rfl,rfl,fun _ _=>rfl⟩ | exact .inr ⟨rfl,rfl⟩ | rfl
theorem VT {W w' : World}(h:Af0 W w'){p:MemPlace}(hp:p.block<W.heap.size):W.sameAt w' p:=by have hb:RowKit.Below W.heap.size W { w' with tape:=W.tape }:=⟨h.os,rfl,h.output,h.size,fun k hk=>h.block k hk⟩;exact hb.same hp
theorem Ij {W w' : World}(hk:Af0 W w')(hl:laidOutB P=true){sp:Nat->Bool}:∀{ts:List TypeId}{vs:List Value}{ds:List (DataW H)}{ps:List MemPlace},(∀t∈ts,P.readableRec t=true/\t<P.types.size) ->
 (∀p∈ps,p.block<W.heap.size)->(∀p∈ps,sp p.block=true)->DataW.TrodAll enc P W 0 (fun _=>true) true ts vs ds ps->DataW.TrodAll enc P w' 0 sp true ts vs ds ps
 |[],[],[],_,_,_,_,h=>h
 |t::ts,v::vs,d::ds,_,hr,hlt,hs,⟨p,q,h1,h2,e⟩=>by subst e;refine⟨p,q,?_,Ij hk hl (fun t ht=>hr t (List.mem_cons.2 (.inr ht))) (fun x hx=>hlt x (List.mem_append_right _ hx)) (fun x hx=>hs x (List.mem_append_right _ hx)) h2,rfl⟩;exact WideElems.Trod_stays hl (hr t (by simp)).1 (hr t (by simp)).2 h1 (fun x hx=>VT hk (hlt x (List.mem_append_left _ hx))) (fun x hx=>hs x (List.mem_append_left _ hx))
theorem WQ {f:Func}{s:ChangeSpec}{tb:TypeId}{W W' : World}{args:Array Value}{ds gs:List (DataW H)}{before:List MemPlace}(hvars:s.vars=[])(hres:f.resultTypes = #[tb])(htb:P.underlying tb=some .bool)(hl:laidOutB P=true)
 (hread:∀t∈f.params.toList,P.readableRec t=true/\t<P.types.size) (hW:DataW.Whole enc P f.params.toList s.vars false W args.toList ds gs before)
 (hfn:s.fn H ds={ results:=[.lit (.bool true)],args:=ds,vars:=[] }) (hk:Af0 W W'):s.post enc P f false true false false W args (.bool true) W':=by
 have hlt:∀p∈before,p.block<W.heap.size:=fun p hp=>hW.lt p hp;have hW0:=hW;obtain⟨p,q,hA,hV,rfl,hz,hn⟩:=hW;rw[hvars]at hV;obtain⟨rfl,rfl⟩:=trodVars_none hV;simp only[List.append_nil]at hlt hW0;have hA' : ∀sp:Nat->Bool,(∀x∈p,sp x.block=true)->DataW.TrodAll enc P W' 0 sp true f.params.toList args.toList (s.fn H (ds++[])).args p:=fun sp hsp=>by rw[List.append_nil,hfn];exact Ij hk hl hread hlt hsp hA
 have hR:∀(b:Nat) (sp:Nat->Bool) (hd:Bool),DataW.TrodAll enc P W' b sp hd f.resultTypes.toList ((Value.bool true).resultList f.resultTypes.size) (s.fn H (ds++[])).results []:=fun b sp hd=>by rw[List.append_nil,hfn,hres];exact⟨[],[],shut_bool htb _,rfl,rfl⟩
 have hV' : ∀sp:Nat->Bool,DataW.TrodVars enc P W' sp s.vars (s.fn H (ds++[])).vars []:=fun sp=>by rw[List.append_nil,hfn,hvars];rfl
 refine⟨ds,[],p,[],p,[],hW0,hR _ _ _,hA' _ (fun x hx=>by simpa using hlt x hx),hV' _,XD hk _,fun _=>?_⟩;refine⟨ok_one hres rfl (by simp[Value.okWide,htb,Cell.okWide,Cell.ok]),_,_,([]++p)++[],⟨[]++p,[],trodAll_append (hA' _ fun _ _=>rfl) (hR _ _ _),hV' _,rfl,?_,?_⟩,?_⟩
 ·intro b off hp;have hp' : MemPlace.cell b off∈p:=by simpa using hp
  have:=hz b off (by simpa using hp')
  have hb:=hlt _ hp';simp only[MemPlace.block]at hb;simp only[World.frozen?,hk.block b hb]at this⊢;exact this
 ·intro ha
  have:=hn ha
  simpa using this
 ·intro p' hp _;simpa using hp
end
end Go.AM
namespace Go.AM
open Go.RowKit Go.ChangeShapes Go.Deep
def Qr (l:List Nat):Nat:=l.foldr (· + ·) 0
theorem Pf (a:Nat)(l:List Nat):Qr (a::l)=a+Qr l:=rfl
structure Bulk {H:Type}(B:DataW H->Nat):Prop where
 int:∀k n,1<=B (.lit (.int k n))
 bool:∀b,1<=B (.lit (.bool b))
 str:∀l,l.length+1<=B (.lit (.string l))
 nil:1<=B .nil
 slice:∀es sp,Qr (es.map B)+1<=B (.slice es sp)
 agg:∀ps,Qr (ps.map B)+1<=B (.agg ps)
mutual
inductive Ge (P:Program):Nat->TypeId->List PV->Prop
 |int {m:Nat}{t:TypeId}{k:IntKind}{n:Int}(ht:P.underlying t=some (.int k)) (hw:(Lit.int k n).wf=true) (hm:1<=m):Ge P m t [.v (.int k n)]
 |bool {m:Nat}{t:TypeId}{b:Bool}(ht:P.underlying t=some .bool) (hm:1<=m):Ge P m t [.bb b]
 |str {m:Nat}{t:TypeId}{l:List UInt8}(ht:P.underlying t=some .string) (hm:l.length+1<=m):Ge P m t [.str l]
 |slice {m:Nat}{t e:TypeId}{n:Nat}{f:Nat->List PV}(ms:Nat->Nat) (ht:P.underlying t=some (.slice e)) (hl:∀i,i<n->(f i).length=P.cellsOf e) (h:∀i,i<n->Ge P (ms i) e (f i))
  (hm:Qr ((List.range n).map ms)+1<=m):Ge P m t [.sl false (P.cellsOf e) n f]
 |arr {m m' : Nat}{t e:TypeId}{n:Nat}{pvs:List PV}(ht:P.underlying t=some (.array n e)) (h:ED P m (List.replicate n e) pvs) (hm:m+1<=m'):Ge P m' t pvs
 |struct {m m' : Nat}{t:TypeId}{fs:Array Field}{pvs:List PV}(ht:P.underlying t=some (.struct fs)) (h:ED P m (fs.toList.map (·.type)) pvs) (hm:m+1<=m'):Ge P m' t pvs
inductive ED (P:Program):Nat->List TypeId->List PV->Prop
 |nil {m:Nat}:ED P m [] []
 |cons {a b m:Nat}{t:TypeId}{ts:List TypeId}{p q:List PV}(h:Ge P a t p) (h' : ED P b ts q) (hm:a+b<=m):ED P m (t::ts) (p++q)
end
def CRep (W:World)(cs:List Value)(pvs:List PV):Prop:=
 cs.length=pvs.length/\∀i,i<pvs.length->RepP W (fun _ _=>False) (cs.getD i undef) (pvs.getD i default)/\(cs.getD i undef).oneCell' = true
theorem Pg {α : Type}(a b:List α)(d : α){i:Nat}(h:i<a.length):(a++b).getD i d=a.getD i d:=by simp[List.getD_eq_getElem?_getD,List.getElem?_append_left h]
theorem Ph {α : Type}(a b:List α)(d : α){i:Nat}(h:a.length<=i):(a++b).getD i d=b.getD (i-a.length) d:=by simp[List.getD_eq_getElem?_getD,List.getElem?_append_right h]
theorem CRep.append {W:World}{a b:List Value}{p q:List PV}(h:CRep W a p)(h' : CRep W b q):CRep W (a++b) (p++q):=by
 refine⟨by simp[h.1,h'.1],fun i hi=>?_⟩;by_cases hlt:i<p.length
 ·rw[Pg _ _ _ (by rw[h.1];exact hlt),Pg _ _ _ hlt];exact h.2 i hlt
 ·have hlt' : i-p.length<q.length:=by simp at hi;omega
  rw[Ph _ _ _ (by rw[h.1];omega),Ph _ _ _ (by omega),h.1];exact h'.2 _ hlt'
theorem CRep.one {W:World}{v:Value}{x:PV}(h:RepP W (fun _ _=>False) v x)(h1:v.oneCell' = true):CRep W [v] [x]:=by
 refine⟨rfl,fun i hi=>?_⟩;obtain rfl:i=0:=by simpa using hi
 exact⟨h,h1⟩
def Yu (P:Program)(T:List TypeId):Bool:=T.all fun t=>match P.underlying t with
 |some (.int _)|some .bool|some .string=>true
 |some (.slice e)=>T.contains e&&decide (0<P.cellsOf e)
 |some (.array _ e)=>T.contains e
 |some (.struct fs)=>fs.toList.all fun f=>T.contains f.type
 |_=>false
section
variable {H:Type}{enc:TypeId×Value->H}{P:Program}{W:World}
theorem Mm {B:DataW H->Nat}{r:TypeId->List Value->Option (DataW H×List MemPlace)}(T:TypeId->Prop)
 (ih:∀t cs x,T t->r t cs=some x->∃pvs,CRep W cs pvs/\Ge P (B x.1) t pvs) :
 ∀(fs:List Field) (xs:List (DataW H×List MemPlace)) (cs:List Value) (base:Nat),(∀f∈fs,T f.type)->cs.length=(fs.map fun f=>P.cellsOf f.type).sum ->
  (∀(j:Nat) f,fs[j]? = some f->f.offset=base+((fs.take j).map fun f=>P.cellsOf f.type).sum)->xs.length=fs.length ->
  (∀(i:Nat) f,fs[i]? = some f->r f.type ((cs.drop (f.offset-base)).take (P.cellsOf f.type))=xs[i]?) ->
  ∃pvs,CRep W cs pvs/\ED P (Qr (xs.map fun x=>B x.1)) (fs.map (·.type)) pvs
 |[],xs,cs,base,_,hl,_,hx,_=>by obtain rfl:xs=[]:=List.eq_nil_of_length_eq_zero hx;obtain rfl:cs=[]:=List.eq_nil_of_length_eq_zero (by simpa using hl);exact⟨[],⟨rfl,fun i hi=>absurd hi (by simp)⟩,.nil⟩
 |f::fs,xs,cs,base,hT,hl,ho,hx,hr=>by
  cases xs with
  |nil=>simp at hx
  |cons x xs=>
   have h0:=ho 0 f rfl;simp only[List.take_zero,List.map_nil,List.sum_nil,Nat.add_zero]at h0;have hr0:=hr 0 f rfl;rw[h0,Nat.sub_self,List.drop_zero]at hr0;obtain⟨p,hp,hs⟩:=ih _ _ _ (hT f (by simp)) hr0;simp only[List.map_cons,List.sum_cons]at hl;obtain⟨q,hq,hs'⟩:=Mm T ih fs xs (cs.drop (P.cellsOf f.type)) (base+P.cellsOf f.type) (fun g hg=>hT g (by simp[hg])) (by simp[hl])
    (fun j g hg=>by
     have:=ho (j+1) g (by simpa using hg)
     simp only[List.take_succ_cons,List.map_cons,List.sum_cons]at this;omega) (by simpa using hx)
    (fun i g hg=>by
     have:=hr (i+1) g (by simpa using hg)
     have hog:=ho (i+1) g (by simpa using hg);simp only[List.take_succ_cons,List.map_cons,List.sum_cons]at hog;rw[List.drop_drop,show P.cellsOf f.type+(g.offset-(base+P.cellsOf f.type))=g.offset-base by omega];simpa using this)
   refine⟨p++q,?_,.cons hs hs' (Nat.le_refl _)⟩
   have:=hp.append hq
   rwa [List.take_append_drop]at this
theorem SA {B:DataW H->Nat}{r:TypeId->List Value->Option (DataW H×List MemPlace)}{e:TypeId}(ih:∀cs x,r e cs=some x->∃pvs,CRep W cs pvs/\Ge P (B x.1) e pvs) :∀(n:Nat) (xs:List (DataW H×List MemPlace)) (cs:List Value),cs.length=n*P.cellsOf e->xs.length=n->(∀i,i<n->r e ((cs.drop (i*P.cellsOf e)).take (P.cellsOf e))=xs[i]?) ->
  ∃pvs,CRep W cs pvs/\ED P (Qr (xs.map fun x=>B x.1)) (List.replicate n e) pvs
 |0,xs,cs,hl,hx,_=>by obtain rfl:xs=[]:=List.eq_nil_of_length_eq_zero hx;obtain rfl:cs=[]:=List.eq_nil_of_length_eq_zero (by simpa using hl);exact⟨[],⟨rfl,fun i hi=>absurd hi (by simp)⟩,.nil⟩
 |n+1,xs,cs,hl,hx,hr=>by
  cases xs with
  |nil=>simp at hx
  |cons x xs=>
   have hr0:=hr 0 (by omega);rw[Nat.zero_mul,List.drop_zero]at hr0;obtain⟨p,hp,hs⟩:=ih _ _ hr0;rw[Nat.succ_mul]at hl;obtain⟨q,hq,hs'⟩:=SA ih n xs (cs.drop (P.cellsOf e)) (by simp[hl]) (by simpa using hx) (fun i hi=>by
    have:=hr (i+1) (by omega)
    rw[List.drop_drop,show P.cellsOf e+i*P.cellsOf e=(i+1)*P.cellsOf e by rw[Nat.succ_mul];omega];simpa using this)
   refine⟨p++q,?_,.cons hs hs' (Nat.le_refl _)⟩
   have:=hp.append hq
   rwa [List.take_append_drop]at this
theorem Tk (K:Kids P (· < P.types.size)){B:DataW H->Nat}(hB:Bulk B){T:List TypeId}(hT:Yu P T=true)(hTl:∀t∈T,t<P.types.size):∀(fuel:Nat) (t:TypeId) (cs:List Value) (x:DataW H×List MemPlace),t∈T ->
 DataW.trod enc P W 0 (fun _=>true) true fuel t cs=some x->∃pvs,CRep W cs pvs/\Ge P (B x.1) t pvs:=by
 intro fuel
 induction fuel with
 |zero=>intro t cs x _ h;simp[DataW.trod]at h
 |succ n ih=>
  intro t cs x ht h;have hp:=List.all_eq_true.1 hT t ht;cases hu:P.underlying t with
  |none=>simp[hu]at hp
  |some d=>
   cases d with
   |bool=>obtain⟨b,rfl,rfl⟩:=DataW.trod_bool hu h;exact⟨[.bb b],.one (.bb b) rfl,.bool hu (hB.bool b)⟩
   |int k=>obtain⟨m,rfl,rfl,hw⟩:=DataW.trod_int hu h;exact⟨[.v (.int k m)],.one (.v _) rfl,.int hu hw (hB.int _ _)⟩
   |string=>
    obtain⟨s,rfl,rfl,_⟩:=DataW.trod_string hu h;refine⟨[.str s.data.toList],.one ?_ rfl,.str hu (hB.str _)⟩
    have:=RepP.str (w:=W) (Pi:=fun _ _=>False) s.data.toList
    simpa using this
   |slice e=>
    simp only[hu,Bool.and_eq_true,List.contains_eq_mem,decide_eq_true_eq]at hp;obtain⟨hpe,hpk⟩:=hp;rcases DataW.trod_slice hu h with⟨rfl,rfl⟩ | ⟨a,len,cap,elems,rest,n',hn,rfl,rfl,_,hlen,_,hel,hall,_⟩
    ·exact⟨[.sl false (P.cellsOf e) 0 fun _=>[]],.one (.slnil _ _) rfl,.slice (fun _=>0) hu (fun i hi=>absurd hi (by omega)) (fun i hi=>absurd hi (by omega)) (by simpa[Qr]using hB.nil)⟩
    ·obtain rfl:n' = n:=by omega
     have each:∀i,i<len->∃z:List PV×(Nat×(Nat->Value)),z.1.length=P.cellsOf e/\Ge P z.2.1 e z.1/\z.2.1=B (elems.getD i (.nil,[])).1 /\
      ∀j,j<P.cellsOf e->W.cell? ((a.add (i*P.cellsOf e)).add j)=some (z.2.2 j)/\RepP W (fun _ _=>False) (z.2.2 j) (z.1.getD j default)/\(z.2.2 j).oneCell' = true:=by
      intro i hi;have hk:=hall i hi;have hi' : i<elems.length:=by omega
      rw[List.getElem?_eq_getElem hi']at hk;obtain⟨cs',h1,h2⟩:=Option.bind_eq_some_iff.1 hk;obtain⟨pvs,hc,hs⟩:=ih _ _ _ hpe h2;obtain⟨_,hl',hcell⟩:=World.cells?_some h1;refine⟨(pvs,(_,fun j=>cs'.getD j undef)),by rw[<- hc.1,hl'],hs,?_,fun j hj=>⟨?_,(hc.2 j (by rw[<- hc.1,hl'];exact hj)).1,(hc.2 j (by rw[<- hc.1,hl'];exact hj)).2⟩⟩
      ·simp[List.getD_eq_getElem?_getD,List.getElem?_eq_getElem hi']
      ·rw[hcell j hj];simp[List.getElem?_eq_getElem (show j<cs'.length by omega)]
     obtain⟨z,hz⟩:=choose_lt (α:=List PV×(Nat×(Nat->Value))) each;obtain⟨b,off,sp⟩:=a;have hsp:0<len->sp=none:=fun h0=>by
      have:=((hz 0 h0).2.2.2 0 hpk).1
      simpa[Addr.add]using World.cell?_spot this
     refine⟨[.sl false (P.cellsOf e) len fun i=>(z i).1],.one (.sl false b off cap (P.cellsOf e) len _ (fun i j=>(z i).2.2 j) hlen (fun i hi=>(hz i hi).1) (fun i j hi hj=>?_) (fun i j hi hj=>((hz i hi).2.2.2 j hj).2.1) sp hsp) rfl,
      .slice (fun i=>(z i).2.1) hu (fun i hi=>(hz i hi).1) (fun i hi=>(hz i hi).2.1) ?_⟩
     ·have:=((hz i hi).2.2.2 j hj).1
      obtain rfl:=hsp (by omega);refine⟨?_,fun h=>h,((hz i hi).2.2.2 j hj).2.2⟩;rw[<- this,WideShapes.add_plain,WideShapes.add_plain]
     ·refine Nat.le_trans (Nat.succ_le_succ (Nat.le_of_eq (congrArg Qr ?_))) (hB.slice (elems.map (·.1)) (rest.map (·.1)));apply List.ext_getElem
      ·simp[hel]
      ·intro i h1 h2;simp only[List.length_map,List.length_range]at h1
       have:=(hz i h1).2.2.1
       simp only[List.getElem_map,List.getElem_range,this];simp[List.getD_eq_getElem?_getD,List.getElem?_eq_getElem (show i<elems.length by omega)]
   |array k e=>
    simp only[hu,List.contains_eq_mem,decide_eq_true_eq]at hp;obtain⟨xs,n',hn,rfl,hl,hx,hr⟩:=DataW.trod_array hu h;obtain⟨_,h2⟩:=K.array (hTl t ht) hu;obtain rfl:n' = n:=by omega
    obtain⟨pvs,hc,hs⟩:=SA (B:=B) (W:=W) (r:=DataW.trod enc P W 0 (fun _=>true) true n') (fun cs x hx=>ih e cs x hp hx) k xs cs (by rw[hl,h2]) hx hr;refine⟨pvs,hc,.arr hu hs ?_⟩
    have:=hB.agg (xs.map (·.1))
    simpa[List.map_map,Function.comp_def]using this
   |struct fs=>
    simp only[hu]at hp;obtain⟨xs,n',hn,rfl,hl,hx,hr⟩:=DataW.trod_struct hu h;obtain⟨h1,h2,h3⟩:=K.struct (hTl t ht) hu;obtain rfl:n' = n:=by omega
    obtain⟨pvs,hc,hs⟩:=Mm (B:=B) (W:=W) (r:=DataW.trod enc P W 0 (fun _=>true) true n') (· ∈ T) ih fs.toList xs cs 0 (fun f hf=>by have:=List.all_eq_true.1 hp f hf;simpa using this) (by rw[hl,h2])
     (fun j f hf=>by rw[h3 j f hf];omega) (by simpa using hx) (fun i f hf=>by rw[Nat.sub_zero];exact hr i f (by simpa using hf))
    refine⟨pvs,hc,.struct hu hs ?_⟩
    have:=hB.agg (xs.map (·.1))
    simpa[List.map_map,Function.comp_def]using this
   |_=>simp[hu]at hp
end
end Go.AM
namespace Go.AM
section
variable {S:X1}{P:Program}
theorem QP {d:Option Nat}{k k' : St->Prop}{Q Q' : H6}(hk:∀s,k s->k' s)(hq:∀e s,Q e s->Q' e s)(r:Je)(s:St)(h:HY d k Q r s):HY d k' Q' r s:=by
 cases r with
 |ret a=>exact hk _ h
 |panic x=>exact hq _ _ h
theorem IU (hS:F4 S P){o:Oper}{k k' : St->Prop}{Q Q' : H6}(hk:∀s,k s->k' s)(hq:∀e s,Q e s->Q' e s){st:St}(h:wOp S P o k Q st):wOp S P o k' Q' st:=by
 have hcall:∀d ids f args st,Vc S d ids f args st (HY o.dst k Q)->Vc S d ids f args st (HY o.dst k' Q'):=by rintro d ids f args st ⟨a,ob,h1,h2,h3,h4,h5⟩;exact⟨a,ob,h1,h2,h3,h4,hS.monoF _ _ _ _ _ (fun r o ks ⟨h6,h7⟩=>⟨h6,QP hk hq _ _ h7⟩) h5⟩
 unfold wOp at h⊢;split at h
 ·rcases h with⟨as,regs,f',as',h1,h2,ids,h3⟩ | ⟨j,xs,regs,ys,rest,h1,h2,h3,h4,h5,h6⟩
  ·exact .inl ⟨as,regs,f',as',h1,h2,ids,hcall _ _ _ _ _ h3⟩
  ·exact .inr ⟨j,xs,regs,ys,rest,h1,h2,h3,h4,h5,fun b=>hk _ (h6 b)⟩
 ·obtain⟨as,regs,t,y,f',h1,h2,h3,ids,h4⟩:=h;exact⟨as,regs,t,y,f',h1,h2,h3,ids,hcall _ _ _ _ _ h4⟩
 ·obtain⟨t,y,h1,h2⟩:=h;exact⟨t,y,h1,hq _ _ h2⟩
 ·rcases h with⟨out,h1,h2,h3⟩ | ⟨c,x,h1,h2,h3⟩
  ·exact .inl ⟨out,h1,h2,hk _ h3⟩
  ·exact .inr ⟨c,x,h1,h2,hk _ h3⟩
theorem EE (hS:F4 S P){all:List Oper}{Q Q' : H6}(hq:∀e s,Q e s->Q' e s):∀(rest:List Oper) {st:St},Ht S P all rest Q st->Ht S P all rest Q' st
 |[],st,h=>hq _ _ h
 |o::rest,st,h=>by
  simp only[Ht]at h⊢;refine hS.mono _ _ _ (fun t h=>?_) h;split at h
  ·exact IU hS (fun s=>EE hS hq rest) hq h
  ·obtain⟨b,h1,h2⟩:=h;refine⟨b,h1,?_⟩;split
   ·rename_i hb;rw[if_pos hb]at h2;exact IU hS (fun s=>EE hS hq rest) hq h2
   ·rename_i hb;rw[if_neg hb]at h2;exact EE hS hq rest h2
theorem Mn (hS:F4 S P){all:List Oper}{o:Oper}{k k' : St->Prop}{Q Q' : H6}(hk:∀s,k s->k' s)(hq:∀e s,Q e s->Q' e s){st:St}(h:KX S P all o k Q st):KX S P all o k' Q' st:=by
 unfold KX at h⊢;refine hS.mono _ _ _ (fun t h=>?_) h;split at h
 ·exact IU hS hk hq h
 ·obtain⟨b,h1,h2⟩:=h;refine⟨b,h1,?_⟩;split
  ·rename_i hb;rw[if_pos hb]at h2;exact IU hS hk hq h2
  ·rename_i hb;rw[if_neg hb]at h2;exact hk _ h2
theorem XE (hS:F4 S P){ops:List Oper}{Q:H6}{st:St}(hm:P.follows .mixedOrders=true)(hd:HZ ops=true)(h:S.up st fun s=>WS S P ops Q s):WS S P ops Q st:=by
 refine⟨hm,hd,fun D s=>S.up s fun s'=>∃Inv:(Nat->Bool)->St->Prop,Inv D s' /\
  (∀D i s o,Inv D s->ops[i]? = some o->D i=false->(∀e∈o.after.toList,CG e=true->D e.on=true) ->
   KX S P ops o (Inv fun j=>if j=i then true else D j) Q s) /\
  ∀D s,Inv D s->(∀i,i<ops.length->D i=true)->S.up s (Q .normal),?_,?_,?_⟩
 ·refine hS.mono _ _ _ (fun s hs=>?_) h;obtain⟨_,_,Inv,h1,h2,h3⟩:=hs;exact⟨Inv,h1,h2,h3⟩
 ·intro D i s o hi ho hDi hde
  have:S.up s fun s'=>KX S P ops o (fun t=>S.up t fun t'=>∃Inv:(Nat->Bool)->St->Prop,Inv (fun j=>if j=i then true else D j) t' /\
   (∀D i s o,Inv D s->ops[i]? = some o->D i=false->(∀e∈o.after.toList,CG e=true->D e.on=true) ->
    KX S P ops o (Inv fun j=>if j=i then true else D j) Q s) /\
   ∀D s,Inv D s->(∀i,i<ops.length->D i=true)->S.up s (Q .normal)) Q s':=by
   refine hS.mono _ _ _ (fun s' hs'=>?_) hi;obtain⟨Inv,h1,h2,h3⟩:=hs';exact Mn hS (fun t ht=>hS.refl _ _ ⟨Inv,ht,h2,h3⟩) (fun _ _ h=>h) (h2 D i s' o h1 ho hDi hde)
  unfold KX at this⊢;exact hS.trans _ _ this
 ·intro D s hi hall;refine hS.trans _ _ (hS.mono _ _ _ (fun s' hs'=>?_) hi);obtain⟨Inv,h1,h2,h3⟩:=hs';exact h3 D s' h1 hall
theorem Nl (hS:F4 S P){k k' : St->Prop}{Q Q' : H6}(hk:∀s,k s->k' s)(hq:∀e s,Q e s->Q' e s)(e:Jd)(s:St)(h:thn S k Q e s):thn S k' Q' e s:=by
 cases e with
 |normal=>exact hS.mono _ _ _ hk h
 |_=>exact hq _ _ h
theorem TR (hS:F4 S P){g:Nat}{ts:List Nat}{next:St->Prop}{Q Q' : H6}(hq:∀e s,Q e s->Q' e s)(e:Jd)(s:St)(h:CH S g ts next Q e s):CH S g ts next Q' e s:=by
 cases e with
 |normal=>exact h
 |panic x=>exact h
 |_=>exact hS.mono _ _ _ (fun t ⟨cs,h1,h2,h3,h4⟩=>⟨cs,h1,h2,h3,hq _ _ h4⟩) h
theorem Ao (hS:F4 S P):∀(c:Code) {Q Q' : H6},(∀e s,Q e s->Q' e s)->∀{st:St},awp S P c Q st->awp S P c Q' st
 |.skip,Q,Q',hq,st,h=>hq _ _ h
 |.label _,Q,Q',hq,st,h=>hq _ _ h
 |.region _ ops draw,Q,Q',hq,st,h=>by
  unfold awp at h⊢;split
  ·rename_i hb;rw[if_pos hb]at h;obtain⟨h1,h2,Inv,h3,h4,h5⟩:=h;exact⟨h1,h2,Inv,h3,fun D i s o a b c d=>Mn hS (fun _ h=>h) hq (h4 D i s o a b c d),fun D s a b=>hS.mono _ _ _ (fun t=>hq _ t) (h5 D s a b)⟩
  ·rename_i hb;rw[if_neg hb]at h;exact EE hS hq _ h
 |.seq a b,Q,Q',hq,st,h=>Ao hS a (Nl hS (fun s=>Ao hS b hq) hq) h
 |.cond c t e,Q,Q',hq,st,h=>by
  obtain⟨b,h1,h2⟩:=h;refine⟨b,h1,?_⟩;split
  ·rename_i hb;rw[if_pos hb]at h2;exact Ao hS t hq h2
  ·rename_i hb;rw[if_neg hb]at h2;exact Ao hS e hq h2
 |.block id b,Q,Q',hq,st,h=>Ao hS b (fun e s h=>by
  cases e with
  |exit i=>simp only[blk]at h⊢;split at h<;>simp_all
  |_=>exact hq _ _ h) h
 |.loop b,Q,Q',hq,st,h=>by
  obtain⟨X,s,J,m,h1,h2⟩:=h;refine⟨X,s,J,m,h1,fun x hx=>Ao hS b (fun e t h=>?_) (h2 x hx)⟩;cases e with
  |normal=>exact h
  |_=>exact hq _ _ h
 |.scope b,Q,Q',hq,st,h=>Ao hS b (fun e s h=>by
  cases e with
  |goto l=>exact h
  |_=>exact hq _ _ h) h
 |.exit id,Q,Q',hq,st,h=>hq _ _ h
 |.goto l,Q,Q',hq,st,h=>hq _ _ h
 |.ret,Q,Q',hq,st,h=>hq _ _ h
 |.rangeFunc g ps asg body,Q,Q',hq,st,h=>by
  obtain⟨f,first,caps,as,bs,objs,ids,ts,gh,L,I,Fin,h1,h2,h3,h4,h5,h6,h7,h8,h9,h10,h11,h12,h13,h14,h15,h16⟩:=h;refine⟨f,first,caps,as,bs,objs,ids,ts,gh,L,I,Fin,h1,h2,h3,h4,h5,h6,h7,h8,h9,h10,h11,h12,h13,?_,?_,h16⟩
  ·intro ys rest s a b c;refine Ao hS asg (fun e t h=>?_) (h14 ys rest s a b c);cases e with
   |normal=>exact hS.mono _ _ _ (fun t h=>Ao hS body (TR hS hq) h) h
   |_=>exact h
  ·intro s r a b c d
   have:=h15 s r a b c d
   cases r with
   |ret v=>exact hq _ _ this
   |panic x=>exact hq _ _ this
 |.refuse _,Q,Q',hq,st,h=>h
theorem XF (hS:F4 S P){F:H6}(hF:∀s,S.up s (F .normal)->F .normal s):∀(K:List It) (s:St),S.up s (kp S P K F .normal)->kp S P K F .normal s
 |[],s,h=>hF s h
 |.code c::K,s,h=>hS.trans _ _ (hS.mono _ _ _ (fun t h=>h) h)
 |.blk id::K,s,h=>XF hS hF K s h
 |.lp X s' J m n::K,s,h=>hS.trans _ _ h
 |.mid M::K,s,h=>hS.trans _ _ h
 |.scp::K,s,h=>XF hS hF K s h
theorem Af1 (hS:F4 S P){F:H6}(hF:∀s,S.up s (F .normal)->F .normal s){K:List It}{M:St->Prop}(hM:∀t,M t->G S P F (.pop .normal K t))(e:Jd)(s:St)(h:kp S P (.mid M::K) F e s):kp S P K F e s:=by
 cases e with
 |normal=>exact XF hS hF K s (hS.mono _ _ _ hM h)
 |_=>exact h
end
end Go.AM
namespace Go.AM
section
variable {S:X1}{P:Program}{F:H6}{K:List It}{st:St}
theorem SB (hS:F4 S P){all rest:List Oper}{o:Oper}{t:TypeId}{m k:Operand}{ok:Bool}{key:PV}{regs:C4}{j:Nat}{es:List (PV×PV)}{kt e:TypeId}{x:PV}{b:Bool}{fd:Option PV}
 (hg:By all st.env o=some true) (ho:o.op=.lookup t m k ok) (hv:Gv st.regs (aev st.env k)=some (key,regs)) (hm:aev st.env m=.mref j) (hr:A1 regs j=some (.map es))
 (ht:tk P t=some (.map kt e)) (hk:ID P kt key=true) (hf:find (KW P kt) key es=some fd) (hx:(match fd with|some x=>some (x,true)|none=>(Jc P e).map fun z=>(z,false))=some (x,b)) (hc:D0 (MO P kt))
 (hn:G S P F (.ops all rest K (put { st with regs:=regs } o.dst (if ok then .tup [.p x,.bool b]else .p x)))):G S P F (.ops all (o::rest) K st):=by
 refine YE hS (out:=⟨MO P kt,if ok then .tup [.p x,.bool b]else .p x,regs⟩) hg ?_ (fun c hc'=>by rw[ho]at hc';cases hc') (fun x hx'=>by rw[ho]at hx';cases hx') hc hn;rw[ho];simp only[aop,hv,hm,Hw,ht,hk,hr,hf];cases fd with
 |some y=>simp only[Option.some.injEq,Prod.mk.injEq]at hx;obtain⟨rfl,rfl⟩:=hx;rfl
 |none=>
  simp only at hx⊢;cases hz:Jc P e with
  |none=>simp[hz]at hx
  |some z=>simp only[hz,Option.map_some,Option.some.injEq,Prod.mk.injEq]at hx;obtain⟨rfl,rfl⟩:=hx;rfl
theorem QR (hS:F4 S P){all rest:List Oper}{o:Oper}{t:TypeId}{m k x:Operand}{key y:PV}{regs:C4}{j:Nat}{es es' : List (PV×PV)}{kt e:TypeId}
 (hg:By all st.env o=some true) (ho:o.op=.mapUpdate t m k x) (hk0:aev st.env k=.p key) (hv:Gv st.regs (aev st.env x)=some (y,regs)) (hm:aev st.env m=.mref j) (hr:A1 regs j=some (.map es))
 (ht:tk P t=some (.map kt e)) (hk:ID P kt (nP key)=true) (hu:upd (KW P kt) (nP key) y es=some es') (hc:D0 (MO P kt))
 (hn:G S P F (.ops all rest K (put { st with regs:=ins j (.map es') regs } o.dst Tm))):G S P F (.ops all (o::rest) K st):=by
 refine YE hS (out:=⟨MO P kt,Tm,ins j (.map es') regs⟩) hg ?_ (fun c hc'=>by rw[ho]at hc';cases hc') (fun x hx'=>by rw[ho]at hx';cases hx') hc hn;rw[ho];simp only[aop,hv,hm,hk0,ht,hk,hr,hu]
end
end Go.AM
