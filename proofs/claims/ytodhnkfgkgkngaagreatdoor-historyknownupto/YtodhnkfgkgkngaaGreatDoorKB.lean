/- Part 2. -/
import Derived.Test.YtodhnkfgkgkngaaGreatDoorKA
import Derived.Laws.BytesString
import Derived.Laws.StructEq
import Derived.ChangeKeysEq
import Derived.RangeFuncRecord
import Derived.Lib.TrailingZeros
set_option linter.defProp false
set_option linter.unusedSimpArgs false
set_option linter.unusedVariables false
set_option linter.unusedSectionVars false
namespace Go.AM
def Wg:=@Bool.false_eq_true
def Wi:=@Go.Result.andThen_ok
def Wj:=@Option.isSome_iff_exists
def Wl:=@List.mem_append_right
def Wq:=@List.mem_of_getElem?
def Wr:=@List.mem_cons_of_mem
def Ws:=@Bool.not_eq_true'
def Wt:=@List.mem_append_left
def Wu:=@Go.Sem.run_bind
def Ww:=@Option.some.inj
def WD:=@Go.Sem.run_pure
def WF:=@List.map_congr_left
def WH:=@List.mem_cons
def WL:=@List.nodup_cons
def WM:=@List.contains_eq_mem
def WR:=@List.getElem?_cons_zero
def WX:=@Option.getD_none
def WZ:=@List.mem_iff_getElem?
def Xc:=@Function.comp_def
def Xe:=@Array.getElem?_modify
def Xf:=@Array.getElem?_append
def Xj:=@List.nodup_nil
def Xl:=@List.drop_eq_nil_of_le
def Xn:=@Classical.byContradiction
def Xo:=@List.mem_iff_getElem
def Xp:=@Array.getElem?_setIfInBounds_ne
def Xq:=@Bool.or_eq_true
def Xx:=@List.map_map
def Xz:=@Array.getElem_modify
def XF:=@List.append_nil
def XG:=@List.all_cons
def XH:=@Option.bind_eq_some_iff
def XJ:=@List.getElem?_cons_succ
def XK:=@List.getElem?_set_self
def XN:=@List.mem_range
def XS:=@List.getElem?_set_ne
def XU:=@Bool.not_true
def XX:=@List.length_nil
def XY:=@List.take_succ_cons
def XZ:=@List.foldl_cons
def Ya:=@Array.getElem?_push
def Yb:=@List.getElem?_concat_length
def Yd:=@Array.toList_setIfInBounds
def Ye:=@List.drop_eq_getElem_cons
def Yf:=@List.drop_drop
def Yn:=@Array.mem_of_getElem?
def Yp:=@Option.map_none
def Yq:=@List.length_set
def Yy:=@Array.foldl_toList
def YC:=@Int.toNat_le
section
variable {P:Program}{C:Ctx}{st:St}{a:Act}{w:World}{rho:Nat->Value}{o:Oper}{out:Out}{d:Nat}
theorem LB (h:Sat C st a w rho){t:TypeId}{x ix:Operand}(ho:o.op=.indexAddr t x ix)(he:aop P st.env st.regs d o.op=some out)(hc:C4 out.cond):OpOk P C o st a w rho out:=by
 rw[ho]at he;simp only[aop]at he;split at he
 .rename_i i hi;split at he
  .rename_i c y hy;cases he;obtain⟨ik,r⟩:=U7 (h.aev ix) hi;have hx:=h.aev x;unfold BK at hy;split at hy
   .
    rename_i n e j oo hk l;split at hy
    .rename_i m hm;cases hy;rw[l]at hx;generalize g:a.eval x=v at hx;cases hx with
     |reg j off b hl hr=>refine OpOk.pure h (v:=.pointer (some ⟨b,oo+i.toNat*m,none⟩)) ?_ (.reg j _ b hl hr);have h1:(0<=i/\i<(n:Int)):=hc;simp[execOp,ho,Instr.indexAt,r,asIntOf,U6 w (Hq hk),g,Instr.sureAddr,h1,EX w hm,WU]
    cases hy
   .rename_i n e cs hk l;split at hy
    .rename_i m hm;cases hy;rw[l]at hx;have hx:=hx.toP;generalize g:a.eval x=v at hx;cases hx with
     |ptr b off cs c hcell hrep=>
      refine OpOk.pure h (v:=.pointer (some ⟨b,off+i.toNat*m,none⟩)) ?_ (.p _ _ (.ptr b _ _ (fun j=>c (i.toNat*m+j)) (fun j q=>?_) fun j q=>?_))
      .have h1:(0<=i/\i<(n:Int)):=hc;simp[execOp,ho,Instr.indexAt,r,asIntOf,U6 w (Hq hk),g,Instr.sureAddr,h1,EX w hm,WU]
      .simp only[Wm]at q
       have:=hcell (i.toNat*m+j) (by omega)
       rwa [<- XD]at this
      simp only[Wm]at q
      have:=hrep (i.toNat*m+j) (by omega)
      simpa[VW,WT]using this
    cases hy
   .rename_i e nn k n f hk l;split at hy
    .rename_i hm;cases hy;rw[l]at hx;have hx:=hx.toP;have h1:(0<=i/\i<(n:Int)):=hc;generalize g:a.eval x=v at hx;cases hx with
     |slnil=>omega
     |sl _ b off cap _ _ _ c hn hlen hcell hrep sp hsp=>
      have u:i.toNat<n:=by omega
      obtain rfl:=hsp (by omega);refine OpOk.pure h (v:=.pointer (some ⟨b,off+i.toNat*k,none⟩)) ?_ (.p _ _ (.ptr b _ _ (fun j=>c i.toNat j) (fun j q=>?_) fun j q=>?_))
      .simp[execOp,ho,Instr.indexAt,r,asIntOf,U6 w (H4 hk),g,h1,EX w hm,WU]
      .rw[hlen _ u]at q;exact hcell _ _ u q
      rw[hlen _ u]at q;exact hrep _ _ u q
    cases hy
   .rename_i e j hk l;split at hy
    .rename_i e' k n f vw q;split at hy
     .rename_i hm;cases hy;rw[l]at hx;have h1:(0<=i/\i<(n:Int)):=hc;generalize g:a.eval x=v at hx;cases hx with
      |vec j base nn cap hl hr=>
       have z:=h.hp.holds j _ q;rw[hr]at z;rcases z with⟨_,rfl⟩ | ⟨b,cap',c,s,_⟩
       .omega
       cases s;refine OpOk.pure h (v:=.pointer (some ⟨b,i.toNat*k+0,none⟩)) ?_ (.elt j k _ _ b _ cap hl hr);simp[execOp,ho,Instr.indexAt,r,asIntOf,U6 w (H4 hk),g,h1,EX w hm,WU]
     cases hy
    .rename_i e' n jr x0 q;split at hy
     .rename_i hm;cases hy;rw[l]at hx;have h1:(0<=i/\i<(n:Int)):=hc;generalize g:a.eval x=v at hx;cases hx with
      |vec j base nn cap hl hr=>
       obtain⟨rv,_,_,z⟩:=h.hp.holds j _ q;rw[hr]at z;rcases z with⟨_,rfl⟩ | ⟨b,cap',c,s,_⟩
       .omega
       cases s;refine OpOk.pure h (v:=.pointer (some ⟨b,i.toNat*1+0,none⟩)) ?_ (.elt j 1 _ _ b _ cap hl hr);simp[execOp,ho,Instr.indexAt,r,asIntOf,U6 w (H4 hk),g,h1,EX w hm,WU]
     cases hy
    cases hy
   .rename_i e j m0 hk l;split at hy
    .rename_i e' k n f vw q;split at hy
     .rename_i hm;cases hy;rw[l]at hx;have h1:(0<=i/\i<(m0:Int)/\m0<=n):=hc;generalize g:a.eval x=v at hx;cases hx with
      |vecp j _ base nn cap hl hr hmn=>
       have z:=h.hp.holds j _ q;rw[hr]at z;rcases z with⟨_,rfl⟩ | ⟨b,cap',c,s,_⟩
       .omega
       cases s;refine OpOk.pure h (v:=.pointer (some ⟨b,i.toNat*k+0,none⟩)) ?_ (.elt j k _ _ b _ cap hl hr);simp[execOp,ho,Instr.indexAt,r,asIntOf,U6 w (H4 hk),g,h1.1,h1.2.1,EX w hm,WU]
     cases hy
    cases hy
   cases hy
  cases he
 cases he
theorem RA (h:Sat C st a w rho){t:TypeId}{x ix:Operand}(j:o.op=.index t x ix)(b:aop P st.env st.regs d o.op=some out)(hc:C4 out.cond):OpOk P C o st a w rho out:=by
 rw[j]at b;simp only[aop]at b;split at b
 .rename_i i hi;split at b
  .rename_i c y hy;cases b;obtain⟨ik,g⟩:=U7 (h.aev ix) hi;have hx:=h.aev x;unfold SL at hy;split at hy
   .rename_i l hk f;cases hy;rw[f]at hx;have h1:(0<=i/\i<(l.length:Int)):=hc;refine OpOk.pure h (v:=.int .u8 ((l.getD i.toNat 0).toNat:Nat)) ?_ (.p _ _ (.v _));have q:i.toNat<l.length:=by omega
    simp[execOp,j,Instr.index,g,asIntOf,U6 w (Ed hk),hx.toP.toStr,h1.1,bget,q,VW]
   .rename_i n e cs hk f;split at hy
    .rename_i m hm;split at hy
     .rename_i c' y' r;cases hy;rw[f]at hx;have hx:=hx.toP;obtain⟨s,z⟩:=(Hk _ _).1 hc;generalize a0:a.eval x=v at hx;cases hx with
      |agg vs cs hs h1 hrep=>obtain⟨u,hu,hr⟩:=JA (rho:=rho) (live:=Lv (A2 st.regs)) hs h1 hrep r s;exact OpOk.pure h (by simp[execOp,j,Instr.index,g,asIntOf,U6 w (Hq hk),a0,z,EX w hm,hu]) hr
     cases hy
    cases hy
   cases hy
  cases b
 cases b
theorem Y0 {x:Value}{k:IntKind}{i:Int}(hx:x=.int k i){y:Nat}(h:0<=i/\i<=y)(code:BoundsCode):(Instr.sliceBound x y code).run P w=.ok i.toNat w:=by subst hx;simp[Instr.sliceBound,asIntOf,h]
def O3 (v:Option Value)(i:Option Int):Prop:=(v=none/\i=none) \/ ∃k n,v=some (.int k n)/\i=some n
theorem AG {isS:Bool}{len cap:Nat}{lo a:Option Value}{l h:Option Int}(hl:O3 lo l)(b:O3 a h)(hc:0<=l.getD 0/\l.getD 0<=h.getD len/\h.getD len<=cap) :(Instr.sliceBounds isS len cap lo a none).run P w=.ok ((l.getD 0).toNat,(h.getD len).toNat,cap) w:=by
 have c:0<=h.getD len:=by omega
 rcases hl with⟨rfl,rfl⟩ | ⟨k,n,rfl,rfl⟩<;>rcases b with⟨rfl,rfl⟩ | ⟨k',n',rfl,rfl⟩<;>simp only[WX,Wd]at hc c⊢
 .simp[Instr.sliceBounds]
 .simp[Instr.sliceBounds,Y0 (P:=P) (w:=w) (k:=k') (i:=n') rfl (show 0<=n' /\ n' <= (cap:Int) by omega)]
 .simp[Instr.sliceBounds,Y0 (P:=P) (w:=w) (k:=k) (i:=n) rfl (show 0<=n/\n<=(len:Int) by omega)]
 simp[Instr.sliceBounds,Y0 (P:=P) (w:=w) (k:=k') (i:=n') rfl (show 0<=n' /\ n' <= (cap:Int) by omega),Y0 (P:=P) (w:=w) (k:=k) (i:=n) rfl (show 0<=n/\n<=(n'.toNat:Int) by omega)]
theorem N1 {t e:TypeId}{k:Nat}(b:tk P t=some (.slice e))(hm:tsz P e=some k){base:Option Addr}{len cap:Nat}{lo a:Option Value}{l h:Option Int}(hl:O3 lo l)(c:O3 a h)
 (hc:0<=l.getD 0/\l.getD 0<=h.getD len/\h.getD len<=cap) :
 (Instr.sliceAt t (.slice base len cap) lo a none).run P w=.ok (.slice (if cap=(l.getD 0).toNat then base else base.map (·.add ((l.getD 0).toNat*k))) ((h.getD len).toNat-(l.getD 0).toNat) (cap-(l.getD 0).toNat)) w:=by
 have hb:=AG (P:=P) (w:=w) (isS:=true) hl c hc;simp[Instr.sliceAt,U6 w (H4 b),Instr.slice,hb,EX w hm]
theorem Kf {t:TypeId}(b:tk P t=some .str){s:List UInt8}{lo a:Option Value}{l h:Option Int}(hl:O3 lo l)(c:O3 a h)(hc:0<=l.getD 0/\l.getD 0<=h.getD s.length/\h.getD s.length<=s.length) :(Instr.sliceAt t (.string ⟨s.toArray⟩) lo a none).run P w=.ok (.string ⟨((s.take (h.getD s.length).toNat).drop (l.getD 0).toNat).toArray⟩) w:=by have hb:=AG (P:=P) (w:=w) (isS:=false) hl c hc;simp[Instr.sliceAt,U6 w (Ed b),Instr.slice,IP,hb,Rx]
theorem Fj {t e:TypeId}{n:Nat}(c:tk P t=some (.arr n e))(hm:tsz P e=some 1){b o:Nat}{lo a:Option Value}{h:Option Int}(hl:O3 lo none)(d:O3 a h)
 (hc:0<=h.getD n/\h.getD n<=n):(Instr.sliceAt t (.pointer (some ⟨b,o,none⟩)) lo a none).run P w=.ok (.slice (some ⟨b,o,none⟩) (h.getD n).toNat n) w:=by
 have hb:=AG (P:=P) (w:=w) (isS:=false) hl d (len:=n) (cap:=n) (by simpa using hc);simp[Instr.sliceAt,U6 w (Hq c),Instr.sureAddr,hb,EX w hm,Addr.add]
theorem Qj {Pi:Nat->Nat->Prop}{b off cap k n l h' : Nat}{sp:Option Nat}{nn:Bool}{f:Nat->List PV}(o:RepP w Pi (.slice (some ⟨b,off,sp⟩) n cap) (.sl nn k n f))(q:l<=h')(s:h' <= n) :RepP w Pi (.slice (if cap=l then some ⟨b,off,sp⟩else some ((⟨b,off,sp⟩:Addr).add (l*k))) (h' - l) (cap-l)) (.sl nn k (h' - l) (fun i=>f (l+i))):=by
 cases o with
 |sl _ _ _ _ _ _ _ c hn hlen hcell hrep _ hsp=>
  have e:∃off' sp',(if cap=l then some (⟨b,off,sp⟩:Addr)else some ((⟨b,off,sp⟩:Addr).add (l*k)))=some ⟨b,off',sp'⟩/\(h' - l≠0->off' = off+l*k/\sp' = none):=by
   split
   .exact⟨off,sp,rfl,fun h=>by omega⟩
   by_cases d:l*k=0
   .exact⟨off,sp,by simp[Addr.add,d],fun h=>⟨by omega,hsp (by omega)⟩⟩
   exact⟨off+l*k,none,by simp[Addr.add,d],fun _=>⟨rfl,rfl⟩⟩
  obtain⟨off',sp',r,g⟩:=e;rw[r];refine .sl nn b off' (cap-l) k (h' - l) _ (fun i j=>c (l+i) j) (by omega) (fun i m=>hlen _ (by omega)) (fun i j m a=>?_) (fun i j m a=>hrep _ _ (by omega) a) sp' (fun h=>(g (by omega)).2)
  have:=hcell (l+i) j (by omega) a
  rw[(g (by omega)).1,show off+l*k+i*k+j=off+(l+i)*k+j by rw[XM];omega];exact this
theorem FT {Pi:Nat->Nat->Prop}{base:Option Addr}{len cap k n l h' : Nat}{nn:Bool}{f:Nat->List PV}(d:RepP w Pi (.slice base len cap) (.sl nn k n f))(a:l<=h')(g:h' <= n) :RepP w Pi (.slice (if cap=l then base else base.map (·.add (l*k))) (h' - l) (cap-l)) (.sl nn k (h' - l) (fun i=>f (l+i))):=by
 cases d with
 |slnil=>
  obtain rfl:h' = 0:=by omega
  obtain rfl:l=0:=by omega
  simpa using RepP.slnil (w:=w) (Pi:=Pi) k _
 |sl _ b off cap _ _ _ c hn hlen hcell hrep sp hsp=>exact Qj (.sl nn b off cap k _ f c hn hlen hcell hrep sp hsp) a g
theorem U8 (h:Sat C st a w rho){x:Option Operand}{i:Option (Option Int)}(b:x.map (fun o=>asInt (aev st.env o))=i):(i=none->O3 (x.map a.eval) none)/\∀n,i=some (some n)->O3 (x.map a.eval) (some n):=by
 subst b;cases x with
 |none=>exact⟨fun _=>.inl ⟨rfl,rfl⟩,fun n h=>by simp at h⟩
 |some o=>refine⟨fun h=>by simp at h,fun n hn=>?_⟩;simp only[Wf,VX]at hn;obtain⟨k,hk⟩:=U7 (h.aev o) hn;exact .inr ⟨k,n,by simp[hk],rfl⟩
theorem LC (h:Sat C st a w rho){t:TypeId}{v:Value}{x:AV}(o:RS C st w rho v x){lo hi:Option Value}{l q:Option Int}(hl:O3 lo l)(d:O3 hi q){c:List Prop}{y:AV}{R' : B5}
 (g:BL P st.regs t x l q=some (c,y,R')) (hc:C4 c):∃u,(Instr.sliceAt t v lo hi none).run P w=.ok u w/\Sat C { st with regs:=R' } a w rho/\Kp C st.regs R' w w rho rho/\RepA w (Prv C.X (A2 R') rho) (Lv (A2 R')) rho u y:=by
 unfold BL at g;split at g
 .
  rename_i s hk;have o:=o.toP.toStr;subst o;have fin:∀(l' h' : Option Int),O3 lo l' -> O3 hi h' -> (0<=l'.getD 0/\l'.getD 0<=h'.getD s.length/\h'.getD s.length<=s.length)->y=.p (.str ((s.take (h'.getD s.length).toNat).drop (l'.getD 0).toNat))->R' = st.regs ->
   ∃u,(Instr.sliceAt t (.string ⟨s.toArray⟩) lo hi none).run P w=.ok u w/\Sat C { st with regs:=R' } a w rho/\Kp C st.regs R' w w rho rho/\RepA w (Prv C.X (A2 R') rho) (Lv (A2 R')) rho u y:=by
   rintro l' h' h1 h2 h3 rfl rfl;exact⟨_,Kf hk h1 h2 h3,h,Kp.refl _ _ _ _,.p _ _ (.str _)⟩
  split at g<;>cases g
  .exact fin _ _ hl d (by simp only[C4,WX]at hc⊢;omega) (by simp) rfl
  .exact fin _ _ hl d (by simp only[C4,Wd,WX]at hc⊢;omega) (by simp) rfl
  .exact fin _ _ hl d (by simp only[C4,Wd,WX]at hc⊢;omega) (by simp) rfl
  exact fin _ _ hl d (by simp only[C4,Wd]at hc⊢;omega) (by simp) rfl
 .
  rename_i e nn k n f hk;split at g
  .rename_i hm;have o:=o.toP;obtain⟨base,len,cap,rfl,hlen,r⟩:∃base len cap,v=.slice base len cap/\len=n/\n<=cap:=by
    cases o with
    |slnil=>exact⟨_,_,_,rfl,rfl,Wp _⟩
    |sl _ b off cap _ _ _ c hn=>exact⟨_,_,_,rfl,rfl,hn⟩
   subst hlen;have fin:∀(l' h' : Option Int),O3 lo l' -> O3 hi h' -> (0<=l'.getD 0/\l'.getD 0<=h'.getD len/\h'.getD len<=len)->y=.p (.sl nn k ((h'.getD len).toNat-(l'.getD 0).toNat) (fun i=>f ((l'.getD 0).toNat+i)))->R' = st.regs ->
    ∃u,(Instr.sliceAt t (.slice base len cap) lo hi none).run P w=.ok u w/\Sat C { st with regs:=R' } a w rho/\Kp C st.regs R' w w rho rho/\RepA w (Prv C.X (A2 R') rho) (Lv (A2 R')) rho u y:=by
    rintro l' h' h1 h2 h3 rfl rfl;refine⟨_,N1 hk hm h1 h2 (by omega),h,Kp.refl _ _ _ _,.p _ _ ?_⟩;exact FT o (by omega) (by omega)
   split at g<;>cases g
   .exact fin _ _ hl d (by simp only[C4,WX]at hc⊢;omega) (by simp) rfl
   .exact fin _ _ hl d (by simp only[C4,Wd,WX]at hc⊢;omega) (by simp) rfl
   .exact fin _ _ hl d (by simp only[C4,Wd,WX]at hc⊢;omega) (by simp) rfl
   exact fin _ _ hl d (by simp only[C4,Wd]at hc⊢;omega) (by simp) rfl
  cases g
 .
  rename_i e hk;split at g
  .rename_i k hm;cases g;have h1:l.getD 0=0/\q.getD 0=0:=hc;have o:=o.toP.toV;subst o;have hz:q.getD ((0:Nat):Int)=0:=by simpa using h1.2
   refine⟨_,N1 hk hm hl d (len:=0) (cap:=0) (by omega),h,Kp.refl _ _ _ _,.p _ _ ?_⟩;rw[hz,h1.1];simpa using RepP.v (w:=w) (Pi:=PiS C st rho) (.slice none 0 0)
  cases g
 .
  rename_i m e cs hk;split at g
  .rename_i b;split at g
   .rename_i hm;obtain⟨hm,rfl⟩:=hm;cases g;have hc:0<=b/\b<=(cs.length:Int):=hc;cases o.toP with
    |ptr bb off _ c hcc q=>
     refine⟨_,Fj hk hm hl d hc,h,Kp.refl _ _ _ _,.p _ _ (.sl true bb off cs.length 1 b.toNat _ (fun i _=>c i) (by omega) (fun _ _=>rfl) (fun i j hi hj=>?_) (fun i j hi hj=>?_) none fun _=>rfl)⟩
     .obtain rfl:j=0:=by omega
      simpa using hcc i (by omega)
     obtain rfl:j=0:=by omega
     simpa using q i (by omega)
   cases g
  .split at g
   .rename_i hm;obtain⟨hm,rfl⟩:=hm;cases g;cases o.toP with
    |ptr bb off _ c hcc q=>
     refine⟨_,Fj hk hm hl d (by simp),h,Kp.refl _ _ _ _,.p _ _ (.sl true bb off cs.length 1 cs.length _ (fun i _=>c i) (Wp _) (fun _ _=>rfl) (fun i j hi hj=>?_) (fun i j hi hj=>?_) none fun _=>rfl)⟩
     .obtain rfl:j=0:=by omega
      simpa using hcc i (by omega)
     obtain rfl:j=0:=by omega
     simpa using q i (by omega)
   cases g
  cases g
 .
  rename_i e j hk;split at g
  .rename_i e' k n f vw hj;split at g
   .rename_i hm;obtain⟨hm,rfl⟩:=hm;cases o with
    |vec j base len cap hlv hr=>
    have r:len<=cap/\len=n:=by
     have q:=h.hp.holds j _ hj;rw[hr]at q;rcases q with⟨hn,rfl⟩ | ⟨b,cap',c,hb',_,hncap,_⟩
     .cases hn;exact⟨Wp _,rfl⟩
     cases hb';exact⟨hncap,rfl⟩
    obtain⟨r,rfl⟩:=r;obtain⟨hv1,hv2,hv3⟩:=h.viewed hj;have hsl:=hv1.sl (j:=j) (m:=len) (e:=e') (k:=k) (n:=len) (f:=f) (by simp[A3]) hr (Wp _);have z:(if cap=((none:Option Int).getD 0).toNat then base else base.map (·.add (((none:Option Int).getD 0).toNat*k)))=base:=by
     cases base with
     |none=>simp
     |some ad=>simp[Addr.add]
    split at g<;>cases g
    .refine⟨_,N1 hk hm hl d (len:=len) (cap:=cap) (by simp only[C4,WX]at hc⊢;omega),h,Kp.refl _ _ _ _,?_⟩;rw[z];simpa using RepA.vec (w:=w) (Pi:=PiS C st rho) j base len cap hlv hr
    .refine⟨_,N1 hk hm hl d (len:=len) (cap:=cap) (by simp only[C4,Wd,WX]at hc⊢;omega),h,Kp.refl _ _ _ _,?_⟩;rw[z];simp only[C4]at hc
     have:=RepA.vecp (w:=w) (Pi:=PiS C st rho) j _ base len cap hlv hr (YC.2 hc.2)
     simpa using this
    .refine⟨_,N1 hk hm hl d (len:=len) (cap:=cap) (by simp only[C4,Wd,WX]at hc⊢;omega),hv1,⟨hv2,hv3⟩,.p _ _ ?_⟩;simp only[C4]at hc
     have:=FT hsl (l:=Int.toNat _) (h':=len) (YC.2 hc.2) (Wp _)
     simpa using this
    refine⟨_,N1 hk hm hl d (len:=len) (cap:=cap) (by simp only[C4,Wd]at hc⊢;omega),hv1,⟨hv2,hv3⟩,.p _ _ ?_⟩;simp only[C4]at hc
    have:=FT hsl (l:=Int.toNat _) (h':=Int.toNat _) (Int.toNat_le_toNat hc.2.1) (YC.2 hc.2.2)
    simpa using this
   cases g
  cases g
 cases g
theorem RB (h:Sat C st a w rho){t:TypeId}{x:Operand}{lo j:Option Operand}(n:o.op=.slice t x lo j none)(b:aop P st.env st.regs d o.op=some out)(hc:C4 out.cond):OpOk P C o st a w rho out:=by
 rw[n]at b;simp only[aop]at b;have fin:∀(l g:Option Int),O3 (lo.map a.eval) l->O3 (j.map a.eval) g->∀c y R',BL P st.regs t (aev st.env x) l g=some (c,y,R')->out=⟨c,y,R'⟩->OpOk P C o st a w rho out:=by rintro l g hl i c y R' hs rfl;obtain⟨u,q,h1,f,r⟩:=LC h (h.aev x) hl i hs hc;exact⟨_,u,w,rho,by simp[execOp,n,q],.inl rfl,h1,f,r⟩
 split at b
 .rename_i h1 f;split at b
  .rename_i hs;cases b;exact fin none none ((U8 h h1).1 rfl) ((U8 h f).1 rfl) _ _ _ hs rfl
  cases b
 .rename_i l h1 f;split at b
  .rename_i hs;cases b;exact fin (some l) none ((U8 h h1).2 l rfl) ((U8 h f).1 rfl) _ _ _ hs rfl
  cases b
 .rename_i l h1 f;split at b
  .rename_i hs;cases b;exact fin none (some l) ((U8 h h1).1 rfl) ((U8 h f).2 l rfl) _ _ _ hs rfl
  cases b
 .rename_i l m h1 f;split at b
  .rename_i hs;cases b;exact fin (some l) (some m) ((U8 h h1).2 l rfl) ((U8 h f).2 m rfl) _ _ _ hs rfl
  cases b
 cases b
end
end Go.AM
namespace Go.AM
section
variable {P:Program}{C:Ctx}{st:St}{a:Act}{w:World}{rho:Nat->Value}{o:Oper}{out:Out}{d:Nat}
theorem DI {Pi:Nat->Nat->Prop}{v:Value}{x:PV}{b:Bool}(h:RepP w Pi v x)(a:Ln x=some b):v=.bool b:=by
 unfold Ln at a;split at a<;>cases a
 .exact h.toBool
 exact h.toV
theorem FU {Pi:Nat->Nat->Prop}{t:TypeId}{k:TK}(hk:tk P t=some k){v u:Value}{x y:PV}(d:RepP w Pi v x)(f:RepP w Pi u y){r:Bool}(c:MK k x y=some r)(D:Nat) :(Op.equalIn (D+1) t v u).run P w=.ok r w:=by
 unfold MK at c;split at c
 .rename_i k' k1 a k2 b;split at c
  .rename_i g;subst g;cases c;rw[d.toInt,f.toInt];exact run_equalIn_int w D t k1 k' a b (Lw hk)
  cases c
 .split at c
  .rename_i a b ha hb;cases c;rw[DI d ha,DI f hb];exact run_equalIn_bool w D t a b (Tu hk)
  cases c
 .cases c;rw[d.toStr,f.toStr,run_equalIn_string w D t _ _ (Ed hk)];simp
 cases c
theorem LD {n:Nat}{t:TypeId}{k:TK}{ks:List TK}(hk:tk P t=some k)(h:lay P n t=some ks)(hs:∀fs,k ≠ .struct fs):ks=[k]/\NR k=false:=by
 cases n with
 |zero=>simp[lay]at h
 |succ n=>obtain⟨dd,a,rfl⟩:=V9 hk;simp only[lay,a]at h;cases dd<;>simp at h<;>first|exact⟨h.symm,rfl⟩ | exact Ba rfl (hs _)
theorem Y7:∀{k1 k2:List TK}{a b:List PV}{r:Bool},P6 (k1++k2) a b=some r->∃r1 r2,P6 k1 (a.take k1.length) (b.take k1.length)=some r1/\P6 k2 (a.drop k1.length) (b.drop k1.length)=some r2/\r=(r1&&r2)/\a.length=k1.length+k2.length/\b.length=k1.length+k2.length
 |[],k2,a,b,r,h=>by
  have hl:∀{k:List TK}{a b:List PV}{r:Bool},P6 k a b=some r->a.length=k.length/\b.length=k.length:=by
   intro k
   induction k with
   |nil=>intro a b r h;cases a<;>cases b<;>simp[P6]at h⊢
   |cons k ks ih=>
    intro a b r h;cases a with
    |nil=>simp[P6]at h
    |cons x a=>
     cases b with
     |nil=>simp[P6]at h
     |cons y b=>
      cases ks with
      |nil=>cases a<;>cases b<;>simp[P6]at h⊢
      |cons k' ks=>
       simp only[P6]at h;split at h
       .rename_i p q hp d
        have:=ih d
        simp only[WI]at this⊢;omega
       cases h
  have:=hl h
  exact⟨true,r,by simp[P6],by simpa using h,by simp,by simpa using this.1,by simpa using this.2⟩
 |k::k1,k2,a,b,r,h=>by
  cases a with
  |nil=>simp[P6]at h
  |cons x a=>
   cases b with
   |nil=>simp[P6]at h
   |cons y b=>
    cases c:k1++k2 with
    |nil=>
     obtain⟨rfl,rfl⟩:=List.append_eq_nil_iff.1 c;simp only[XF]at h;cases a with
     |cons _ _=>cases b<;>simp[P6]at h
     |nil=>
      cases b with
      |cons _ _=>simp[P6]at h
      |nil=>exact⟨r,true,by simpa using h,by simp[P6],by simp,rfl,rfl⟩
    |cons k' ks'=>
     have h' : ∃p q,MK k x y=some p/\P6 (k1++k2) a b=some q/\r=(p&&q):=by
      rw[WQ,c]at h;simp only[P6]at h;split at h
      .rename_i p q hp d;cases h;exact⟨p,q,hp,by rw[c];exact d,rfl⟩
      cases h
     obtain⟨p,q,hp,d,rfl⟩:=h';obtain⟨r1,r2,h1,f,rfl,g,i⟩:=Y7 (k1:=k1) d;refine⟨p&&r1,r2,?_,by simpa using f,by simp[Bool.and_assoc],by simp;omega,by simp;omega⟩;cases k1 with
     |nil=>simp only[P6,XX,List.take_zero,VX]at h1;subst h1;simp[P6,hp]
     |cons k'' k1=>simp only[WI,XY];simp only[WI]at h1;simp[P6,hp,h1]
theorem Av {l:List PV}{off:Nat}(d:PV)(h:off<l.length):(l.drop off).take 1=[l.getD off d]:=by rw[Ye h,XY,List.take_zero,VW,VZ h];rfl
structure RowP (w:World) (Pi:Nat->Nat->Prop) (vs:Array Value) (cs:List PV):Prop where
 size:vs.size=cs.length
 rep:∀i,i<cs.length->RepP w Pi (vs.getD i undef) (cs.getD i default)
theorem RowP.extract {Pi:Nat->Nat->Prop}{vs:Array Value}{cs:List PV}(h:RowP w Pi vs cs){off n:Nat}(hle:off+n<=cs.length):RowP w Pi (vs.extract off (off+n)) ((cs.drop off).take n):=by
 have hs:=h.size;refine⟨by simp;omega,fun i a=>?_⟩;simp only[Xh,Wm]at a
 have:=h.rep (off+i) (by omega)
 simpa[VV,Xu,show i<min (off+n) vs.size-off by omega,show off+i<vs.size by omega,show off+i<cs.length by omega,VW,Xv,show i<n by omega,WT]using this
theorem TA {Pi:Nat->Nat->Prop}:∀(n:Nat) (t:TypeId) (ks:List TK),lay P n t=some ks->PO P n t=true->∀(vs us:Array Value) (as bs:List PV) (off D:Nat) (r:Bool),n<=D ->
 RowP w Pi vs as->RowP w Pi us bs->off+ks.length<=as.length->off+ks.length<=bs.length->P6 ks ((as.drop off).take ks.length) ((bs.drop off).take ks.length)=some r ->
 ∃x y,(part t vs off).run P w=.ok x w/\(part t us off).run P w=.ok y w/\(Op.equalIn D t x y).run P w=.ok r w:=by
 intro n
 induction n with
 |zero=>intro t ks h;simp[lay]at h
 |succ n ih=>
  intro t ks hl hh vs us as bs off D r hD hv j ha hb hc;obtain⟨D,rfl⟩:∃D',D=D' + 1:=⟨D-1,by omega⟩;cases hk:tk P t with
  |none=>
   have:P.underlying t=none:=by unfold tk at hk;cases j:P.underlying t<;>simp[j]at hk⊢
   simp[lay,this]at hl
  |some k=>
   by_cases hs:∀fs,k ≠ .struct fs
   .obtain⟨rfl,m⟩:=LD hk hl hs;simp only[WJ]at ha hb hc;have ea:(as.drop off).take 1=[as.getD off default]:=by exact Av _ (by omega)
    have eb:(bs.drop off).take 1=[bs.getD off default]:=by exact Av _ (by omega)
    rw[ea,eb]at hc;simp only[P6]at hc;have hvs:=hv.size;have hus:=j.size;refine⟨vs.getD off undef,us.getD off undef,?_,?_,FU hk (hv.rep off (by omega)) (j.rep off (by omega)) hc D⟩
    .simp[part,F5 w hk,m,VV,show off<vs.size by omega]
    simp[part,F5 w hk,m,VV,show off<us.size by omega]
   obtain⟨fs,rfl⟩:∃fs,k=.struct fs:=Xn fun hn=>hs fun fs e=>hn ⟨fs,e⟩;obtain⟨fa,b,_⟩:=BO hk;simp only[lay,b]at hl;simp only[PO,b,Wa,Ws]at hh;split at hl
   .rename_i l hlf;split at hl
    .rename_i q;cases hl;refine⟨.agg (vs.extract off (off+ks.length)),.agg (us.extract off (off+ks.length)),?_,?_,?_⟩
     .simp[part,F5 w hk,NR,EX w q]
     .simp[part,F5 w hk,NR,EX w q]
     have s:P.fieldsOf t=fa:=by simp[Program.fieldsOf,b]
     rw[run_equalIn_struct w D t _ _ (by rw[s];exact b) hh.1,s];have c:=hv.extract ha;have d:=j.extract hb;generalize hvs' : vs.extract off (off+ks.length)=vs' at c;generalize hus' : us.extract off (off+ks.length)=us' at d;generalize u : (as.drop off).take ks.length=as' at c hc;generalize v : (bs.drop off).take ks.length=bs' at d hc;have hal:as'.length=0+ks.length:=by rw[<- u];simp;omega
     have hbl:bs'.length=0+ks.length:=by rw[<- v];simp;omega
     have hin:∀(fl:List Field) (o:Nat) (l:List TK) (r:Bool),Ti (lay P n) fl o=some l->(fl.all fun f=>decide (f.name ≠ "_")&&PO P n f.type)=true->as'.length=o+l.length->bs'.length=o+l.length ->
      P6 l (as'.drop o) (bs'.drop o)=some r->(Op.eqFields D vs' us' fl).run P w=.ok r w:=by
      intro fl
      induction fl with
      |nil=>intro o l r h1 _ h2 h3 z;simp only[Ti,VX]at h1;subst h1;have e1:as'.drop o=[]:=Xl (by simp at h2;omega);have e2:bs'.drop o=[]:=Xl (by simp at h3;omega);rw[e1,e2]at z;simp only[P6,VX]at z;subst z;simp[Op.eqFields]
      |cons f fl ihf=>
       intro o l r h1 h2 h3 z h5;simp only[Ti]at h1;split at h1
       .cases h1
       rename_i a;have a:f.offset=o:=Xn a;split at h1
       .rename_i ka hka;split at h1
        .rename_i kb hkb;cases h1;simp only[XG,Wa,decide_eq_true_eq]at h2;obtain⟨⟨g,hhv⟩,i⟩:=h2;obtain⟨r1,r2,hr1,hr2,rfl,_,_⟩:=Y7 h5;simp only[Xa]at h3 z;obtain⟨x,y,hx,hy,he⟩:=ih f.type ka hka hhv vs' us' as' bs' o D r1 (by omega) c d (by omega) (by omega) hr1;have a0:=ihf (o+ka.length) kb r2 hkb (by simpa using i) (by omega) (by omega) (by simpa[Yf,Nat.add_comm]using hr2);simp only[Op.eqFields,Au g,Wu,a,hx,hy,he,Wi];cases r1
         .simp
         simp[a0]
        cases h1
       cases h1
     exact hin fa.toList 0 ks r hlf hh.2 hal hbl (by simpa using hc)
    cases hl
   cases hl
theorem FV {Pi:Nat->Nat->Prop}{t:TypeId}{v u:Value}{x y:PV}(f:RepP w Pi v x)(i:RepP w Pi u y){r:Bool}(b:IH P t x y=some r)(hc:C4 (Ju P t)) :(Op.equal t v u).run P w=.ok r w/\(∀xs ys,v=.agg xs->u=.agg ys->P.eqGuardType P.depth t=false):=by
 unfold IH at b;unfold Ju at hc;split at b
 .rename_i fs hk;simp only[hk,C4,Tj,Wa,Ws]at hc;split at b
  .rename_i ks xs ys c;refine⟨?_,fun _ _ _ _=>hc.2⟩;cases f with
   |agg vs _ hs1 _ hr1=>
   cases i with
   |agg us _ hs2 _ hr2=>
   obtain⟨fa,g,_⟩:=BO hk;have hl:=c;simp only[lay,g]at hl;split at hl
   .rename_i l m;split at hl
    .rename_i d;cases hl;have a:xs.length=ks.length/\ys.length=ks.length:=by
      have:=Y7 (k1:=ks) (k2:=[]) (by simpa using b)
      obtain⟨_,_,_,_,_,h1,j⟩:=this;exact⟨by simpa using h1,by simpa using j⟩
     obtain⟨x,y,hx,hy,n⟩:=TA (P:=P) (w:=w) 10 t ks c hc.1 vs us xs ys 0 10000 r (by omega) ⟨hs1,hr1⟩ ⟨hs2,hr2⟩ (by omega) (by omega) (by simp[<- a.1];rw[a.1,<- a.2];simpa using b);have e1:(part t vs 0).run P w=.ok (.agg vs) w:=by
      have:vs.extract 0 ks.length=vs:=by rw[<- a.1,<- hs1];simp
      simp[part,F5 w hk,NR,EX w d,this]
     have e2:(part t us 0).run P w=.ok (.agg us) w:=by
      have:us.extract 0 ks.length=us:=by rw[<- a.2,<- hs2];simp
      simp[part,F5 w hk,NR,EX w d,this]
     rw[e1]at hx;rw[e2]at hy;cases hx;cases hy;exact n
    cases hl
   cases hl
  cases b
 .rename_i k o hk;refine⟨FU hk f i b 9999,fun xs ys h1 j=>?_⟩;subst h1;exfalso;cases f<;>unfold MK at b<;>split at b<;>simp_all [Ln]
 cases b
end
end Go.AM
namespace Go.AM
section
variable {P:Program}{C:Ctx}{st:St}{a:Act}{w:World}{rho:Nat->Value}{o:Oper}{out:Out}{d:Nat}
theorem RC {op:BinOp}{t:TypeId}{k l:IntKind}{x y:Int}{c:List Prop}{r:PV}(hk:k=l \/ op=.shl \/ op=.shr)(a:Lo op k x y=(c,r))(hc:C4 c)(Pi:Nat->Nat->Prop) :∃v,(binOp op t (.int k x) (.int l y)).run P w=.ok v w/\RepP w Pi v r:=by
 cases op<;>simp only[Lo,We]at a<;>obtain⟨rfl,rfl⟩:=a
 case shl=>
  have:¬y<0:=by simp only[C4]at hc;omega
  exact⟨_,by first|(simp[binOp,Op.shift,this];done)|(simp[binOp,Op.shift,this];rfl),.v _⟩
 case shr=>
  have:¬y<0:=by simp only[C4]at hc;omega
  exact⟨_,by first|(simp[binOp,Op.shift,this];done)|(simp[binOp,Op.shift,this];rfl),.v _⟩
 all_goals
  obtain rfl:k=l:=by rcases hk with h|h|h<;>first|exact h|cases h
 case quo=>simp only[C4]at hc;exact⟨_,by first|(simp[binOp,Op.intDiv,hc];done)|(simp[binOp,Op.intDiv,hc];rfl),.v _⟩
 case rem=>simp only[C4]at hc;exact⟨_,by first|(simp[binOp,Op.intDiv,hc];done)|(simp[binOp,Op.intDiv,hc];rfl),.v _⟩
 case add=>exact⟨_,by first|(simp[binOp,Op.intArith];done)|(simp[binOp,Op.intArith];rfl),.v _⟩
 case sub=>exact⟨_,by first|(simp[binOp,Op.intArith];done)|(simp[binOp,Op.intArith];rfl),.v _⟩
 case mul=>exact⟨_,by first|(simp[binOp,Op.intArith];done)|(simp[binOp,Op.intArith];rfl),.v _⟩
 case and=>exact⟨_,by first|(simp[binOp,Op.intBits];done)|(simp[binOp,Op.intBits];rfl),.v _⟩
 case or=>exact⟨_,by first|(simp[binOp,Op.intBits];done)|(simp[binOp,Op.intBits];rfl),.v _⟩
 case xor=>exact⟨_,by first|(simp[binOp,Op.intBits];done)|(simp[binOp,Op.intBits];rfl),.v _⟩
 case andNot=>exact⟨.int k (N7 .andNot k x y),by simp only[binOp,ne_eq,not_true_eq_false,Br,Op.intBits,N7];rfl,.v _⟩
 case eql=>exact⟨_,by first|(simp[binOp,Op.intCmp];done)|(simp[binOp,Op.intCmp];rfl),.bb _⟩
 case neq=>exact⟨_,by first|(simp[binOp,Op.intCmp];done)|(simp[binOp,Op.intCmp];rfl),.bb _⟩
 case lss=>exact⟨_,by first|(simp[binOp,Op.intCmp];done)|(simp[binOp,Op.intCmp];rfl),.bb _⟩
 case leq=>exact⟨_,by first|(simp[binOp,Op.intCmp];done)|(simp[binOp,Op.intCmp];rfl),.bb _⟩
 case gtr=>exact⟨_,by first|(simp[binOp,Op.intCmp];done)|(simp[binOp,Op.intCmp];rfl),.bb _⟩
 case geq=>exact⟨_,by first|(simp[binOp,Op.intCmp];done)|(simp[binOp,Op.intCmp];rfl),.bb _⟩
theorem AH {op:BinOp}{t:TypeId}{x y:Operand}{v u:Value}(h1:¬(v=.nilIface/\u=.nilIface))(b:∀xs ys,v=.agg xs->u=.agg ys->P.eqGuardType P.depth t=false) :(eqGuard op t x y v u).run P w=.ok () w:=by
 have key:∀op,op=.eql \/ op=.neq->(eqGuard op t x y v u).run P w=.ok () w:=by
  intro op a;rcases a with rfl|rfl<;>simp only[eqGuard,XU,Wg,Br]<;>split
  .exact Ba ⟨rfl,rfl⟩ h1
  .simp[run_program,b _ _ rfl rfl]
  .rfl
  .exact Ba ⟨rfl,rfl⟩ h1
  .simp[run_program,b _ _ rfl rfl]
  rfl
 cases op<;>first|exact key _ (.inl rfl)|exact key _ (.inr rfl)|rfl
theorem Aw {t:TypeId}{v u:Value}{r:Bool}(h:(Op.equal t v u).run P w=.ok r w)(neg:Bool)(h1:∀k n,v ≠ .int k n)(a:∀s,v ≠ .string s)(b:∀k n,v ≠ .float k n)(c:∀k n m,v ≠ .complex k n m) :(binOp (if neg then .neq else .eql) t v u).run P w=.ok (.bool (r != neg)) w:=by
 cases neg
 .have:binOp .eql t v u=(do pure (.bool (<- Op.equal t v u)):Sem Value):=by cases v<;>first|rfl|exact Ba rfl (h1 _ _)|exact Ba rfl (a _)|exact Ba rfl (b _ _)|exact Ba rfl (c _ _ _)
  simp[this,h]
 have:binOp .neq t v u=(do pure (.bool (!(<- Op.equal t v u))):Sem Value):=by cases v<;>first|rfl|exact Ba rfl (h1 _ _)|exact Ba rfl (a _)|exact Ba rfl (b _ _)|exact Ba rfl (c _ _ _)
 simp[this,h]
theorem JC {Pi:Nat->Nat->Prop}{t:TypeId}{v u:Value}{x y:PV}(d:RepP w Pi v x)(f:RepP w Pi u y){r:Bool}(c:IH P t x y=some r) :(∃k a b,v=.int k a/\u=.int k b/\r=(a==b)) \/ (∃a b,v=.bool a/\u=.bool b) \/ (∃a b:List UInt8,v=.string ⟨a.toArray⟩/\u=.string ⟨b.toArray⟩/\r=(a==b)) \/ (∃a b,v=.agg a/\u=.agg b):=by
 unfold IH at c;split at c
 .split at c
  .cases d;cases f;exact .inr (.inr (.inr ⟨_,_,rfl,rfl⟩))
  cases c
 .unfold MK at c;split at c
  .split at c
   .rename_i hk;subst hk;cases c;exact .inl ⟨_,_,_,d.toInt,f.toInt,rfl⟩
   cases c
  .split at c
   .rename_i ha hb;cases c;exact .inr (.inl ⟨_,_,DI d ha,DI f hb⟩)
   cases c
  .cases c;exact .inr (.inr (.inl ⟨_,_,d.toStr,f.toStr,rfl⟩))
  cases c
 cases c
theorem Fk {Pi:Nat->Nat->Prop}{e:TypeId}{k:TK}(hk:tk P e=some k)(hb:SH k=true){vs us:Array Value}{as bs:List PV}(f:RowP w Pi vs as)(g:RowP w Pi us bs)(D:Nat) :∀(m j:Nat) (r:Bool),as.length=j+m->bs.length=j+m->P6 (List.replicate m k) (as.drop j) (bs.drop j)=some r->(Op.eqItems (D+1) e 1 vs us (List.range' j m)).run P w=.ok r w
 |0,j,r,ha,hbl,h=>by rw[Xl (by omega),Xl (by omega)]at h;simp only[List.replicate,P6,VX]at h;subst h;simp[Op.eqItems]
 |m+1,j,r,ha,hbl,h=>by
  have b:NR k=false:=by cases k<;>first|rfl|cases hb
  rw[List.replicate_succ]at h;obtain⟨r1,r2,a,c,rfl,_,_⟩:=Y7 (k1:=[k]) (k2:=List.replicate m k) h;simp only[WJ]at a c;rw[Av default (by omega),Av default (by omega)]at a;simp only[P6]at a;have i:=f.size;have l:=g.size;have hx:(part e vs (j*1)).run P w=.ok (vs.getD j undef) w:=by simp[part,F5 w hk,b,VV,show j<vs.size by omega]
  have hy:(part e us (j*1)).run P w=.ok (us.getD j undef) w:=by simp[part,F5 w hk,b,VV,show j<us.size by omega]
  have n:=FU hk (f.rep j (by omega)) (g.rep j (by omega)) a D;have d:=Fk hk hb f g D m (j+1) r2 (by omega) (by omega) (by simpa[Yf,Nat.add_comm]using c);simp only[List.range'_succ,Op.eqItems,Wu,hx,hy,n,Wi];cases r1
  .simp
  simp[d]
theorem LE {Pi:Nat->Nat->Prop}{t:TypeId}{v u:Value}{x y:PV}(g:RepP w Pi v x)(j:RepP w Pi u y){r:Bool}(a:PP P t x y=some r) :(Op.equal t v u).run P w=.ok r w/\∃xs ys,v=.agg xs/\u=.agg ys:=by
 unfold PP at a;split at a
 .rename_i n e l;split at a
  .rename_i k xs ys hk;split at a
   .rename_i hc;have b:=Hq l;cases g with
    |agg vs _ hs1 _ hr1=>
    cases j with
    |agg us _ hs2 _ hr2=>
    refine⟨?_,_,_,rfl,rfl⟩;obtain⟨i,f,c⟩:=Wo.1 (show (P.info? e).map (·.size)=some 1 from hc.2);have d:P.cellsOf e=1:=by simp[Program.cellsOf,f,c]
    have hl:xs.length=n/\ys.length=n:=by
     have:=Y7 (k1:=List.replicate n k) (k2:=[]) (by simpa using a)
     obtain⟨_,_,_,_,_,h1,m⟩:=this;exact⟨by simpa using h1,by simpa using m⟩
    show (Op.equalIn (9999+1) t (.agg vs) (.agg us)).run P w=_;rw[run_equalIn_array w 9999 vs us b f,d,List.range_eq_range'];exact Fk hk hc.1 ⟨hs1,hr1⟩ ⟨hs2,hr2⟩ 9998 n 0 r (by omega) (by omega) (by simpa using a)
   cases a
  cases a
 cases a
theorem TB {t e:TypeId}(hk:P.underlying t=some (.pointer e))(d:Nat)(p q:Option Addr)(h:p=none \/ q=none):(Op.equalIn (d+1) t (.pointer p) (.pointer q)).run P w=.ok (p.isNone&&q.isNone) w:=by
 rcases h with rfl|rfl
 .simp[Op.equalIn,U6 w hk]
 cases p<;>simp[Op.equalIn,U6 w hk]
theorem Qk {t e:TypeId}(hk:P.underlying t=some (.slice e))(d:Nat)(p q:Option Addr)(n m k l:Nat)(h:p=none \/ q=none):(Op.equalIn (d+1) t (.slice p n m) (.slice q k l)).run P w=.ok (p.isNone&&q.isNone) w:=by
 rcases h with rfl|rfl
 .simp[Op.equalIn,U6 w hk]
 cases p<;>simp[Op.equalIn,U6 w hk]
theorem TC {t e f:TypeId}(hk:P.underlying t=some (.map e f))(d:Nat)(p q:Option Nat)(h:p=none \/ q=none):(Op.equalIn (d+1) t (.map p) (.map q)).run P w=.ok (p.isNone&&q.isNone) w:=by
 rcases h with rfl|rfl
 .simp[Op.equalIn,U6 w hk]
 cases p<;>simp[Op.equalIn,U6 w hk]
theorem NW {t:TypeId}{a b:Array TypeId}{c:Bool}(hk:P.underlying t=some (.func a b c))(d:Nat):(Op.equalIn (d+1) t .nilFunc .nilFunc).run P w=.ok true w/\∀f x y,(Op.equalIn (d+1) t (.func f x y) .nilFunc).run P w=.ok false w:=
 ⟨by simp[Op.equalIn,U6 w hk],fun f x y=>by simp[Op.equalIn,U6 w hk]⟩
theorem Ql {t:TypeId}{ms:Array (String×TypeId)}(hk:P.underlying t=some (.interface ms))(d:Nat)(u:TypeId)(x:Value):(Op.equalIn (d+1) t (.iface u x) .nilIface).run P w=.ok false w:=by simp[Op.equalIn,U6 w hk]
def Odd (v:Value):Prop:=(∀xs,v ≠ .agg xs)/\(∀k n,v ≠ .int k n)/\(∀s,v ≠ .string s)/\(∀k n,v ≠ .float k n)/\(∀k n m,v ≠ .complex k n m)
theorem MV {Pi:Nat->Nat->Prop}{live:Nat->Prop}{t:TypeId}{v u:Value}{x y:AV}(d:RepA w Pi live rho v x)(g:RepA w Pi live rho u y){b:Bool}(i:Tk P t x y=some b) :(Op.equal t v u).run P w=.ok b w/\¬(v=.nilIface/\u=.nilIface)/\Odd v:=by
 show (Op.equalIn (9999+1) t v u).run P w=.ok b w/\_;generalize 9999=D;unfold Tk at i;split at i
 .rename_i e hk;have fin:∀p q:Option Addr,v=.pointer p->u=.pointer q->(p=none \/ q=none)->b=(p.isNone&&q.isNone)->(Op.equalIn (D+1) t v u).run P w=.ok b w/\¬(v=.nilIface/\u=.nilIface)/\Odd v:=by rintro p q rfl rfl h rfl;exact⟨TB hk D p q h,by simp,by simp[Odd]⟩
  split at i<;>cases i
  .exact fin _ _ d.toP.toV g.toP.toV (.inl rfl) rfl
  .have:=g.toP;generalize u=u at this fin;cases this;exact fin _ _ d.toP.toV rfl (.inl rfl) rfl
  .generalize u=u at g fin;cases g;exact fin _ _ d.toP.toV rfl (.inl rfl) rfl
  .generalize u=u at g fin;cases g;exact fin _ _ d.toP.toV rfl (.inl rfl) rfl
  .have:=d.toP;generalize v=v at this fin;cases this;exact fin _ _ rfl g.toP.toV (.inr rfl) rfl
  .generalize v=v at d fin;cases d;exact fin _ _ rfl g.toP.toV (.inr rfl) rfl
  generalize v=v at d fin;cases d;exact fin _ _ rfl g.toP.toV (.inr rfl) rfl
 .rename_i e hk;have fin:∀(p q:Option Addr) (n m k l:Nat),v=.slice p n m->u=.slice q k l->(p=none \/ q=none)->b=(p.isNone&&q.isNone)->(Op.equalIn (D+1) t v u).run P w=.ok b w/\¬(v=.nilIface/\u=.nilIface)/\Odd v:=by rintro p q n m k l rfl rfl h rfl;exact⟨Qk hk D p q n m k l h,by simp,by simp[Odd]⟩
  split at i<;>cases i
  .exact fin _ _ _ _ _ _ d.toP.toV g.toP.toV (.inl rfl) rfl
  have:=d.toP;generalize v=v at this fin;cases this;exact fin _ _ _ _ _ _ rfl g.toP.toV (.inr rfl) rfl
 .rename_i e f hk;have fin:∀(p q:Option Nat),v=.map p->u=.map q->(p=none \/ q=none)->b=(p.isNone&&q.isNone)->(Op.equalIn (D+1) t v u).run P w=.ok b w/\¬(v=.nilIface/\u=.nilIface)/\Odd v:=by rintro p q rfl rfl h rfl;exact⟨TC hk D p q h,by simp,by simp[Odd]⟩
  split at i<;>cases i
  .exact fin _ _ d.toP.toV g.toP.toV (.inl rfl) rfl
  generalize v=v at d fin;cases d;exact fin _ _ rfl g.toP.toV (.inr rfl) rfl
 .rename_i a c e hk;split at i<;>cases i
  .rw[d.toP.toV,g.toP.toV];exact⟨(NW hk D).1,by simp,by simp[Odd]⟩
  rw[g.toP.toV];cases d;exact⟨(NW hk D).2 _ _ _,by simp,by simp[Odd]⟩
 .rename_i ms hk;split at i<;>cases i
  rw[g.toP.toV];have:=d.toP;cases this;exact⟨Ql hk D _ _,by simp,by simp[Odd]⟩
 cases i
theorem RD (h:Sat C st a w rho){op:BinOp}{t yt:TypeId}{x y:Operand}(ho:o.op=.binOp op t x y yt)(he:aop P st.env st.regs d o.op=some out)(hc:C4 out.cond):OpOk P C o st a w rho out:=by
 rw[ho]at he;simp only[aop]at he;split at he
 .rename_i c r hb;cases he;have hx:=h.aev x;have hy:=h.aev y;have fin:∀v,(eqGuard op t x y (a.eval x) (a.eval y)).run P w=.ok () w->(binOp op t (a.eval x) (a.eval y)).run P w=.ok v w->RepP w (PiS C st rho) v r->OpOk P C o st a w rho ⟨c,.p r,st.regs⟩:=by intro v h1 h2 f;exact OpOk.pure h (by simp[execOp,ho,h1,h2]) (.p _ _ f)
  unfold bin at hb;split at hb
  .rename_i k n l m j s;rw[j]at hx;rw[s]at hy;have u:=hx.toP.toInt;have a0:=hy.toP.toInt;have hg:(eqGuard op t x y (a.eval x) (a.eval y)).run P w=.ok () w:=AH (by rw[u];simp) (by rw[u];simp);have key:Lo op k n m=(c,r)/\(k=l \/ op=.shl \/ op=.shr):=by
    split at hb
    .cases hb;exact⟨rfl,.inr (.inl rfl)⟩
    .cases hb;exact⟨rfl,.inr (.inr rfl)⟩
    split at hb
    .rename_i hkl;exact⟨Ww hb,.inl hkl⟩
    cases hb
   obtain⟨v,hv,hr⟩:=RC (P:=P) (w:=w) (t:=t) key.2 key.1 hc (PiS C st rho);exact fin v hg (by rw[u,a0];exact hv) hr
  have eq:∀neg:Bool,op=(if neg then .neq else .eql)->eqA P t (aev st.env x) (aev st.env y) neg=some (c,r)->OpOk P C o st a w rho ⟨c,.p r,st.regs⟩:=by
   intro neg a1 i;unfold eqA at i;split at i
   .rename_i r' g;cases i;split at g
    .rename_i p q j s;rw[j]at hx;rw[s]at hy;have a2:=hx.toP;have a3:=hy.toP;obtain⟨h1,h2⟩:=FV a2 a3 g hc;have hg:(eqGuard op t x y (a.eval x) (a.eval y)).run P w=.ok () w:=by refine AH ?_ h2;rintro⟨e1,e2⟩;rcases JC a2 a3 g with⟨_,_,_,f,_⟩ | ⟨_,_,f,_⟩ | ⟨_,_,f,_⟩ | ⟨_,_,f,_⟩<;>rw[e1]at f<;>cases f
     refine fin (.bool (r' != neg)) hg ?_ (.bb _);subst a1;rcases JC a2 a3 g with⟨k,n,m,f,z,rfl⟩ | ⟨n,m,f,z⟩ | ⟨n,m,f,z,rfl⟩ | ⟨n,m,f,z⟩
     .rw[f,z];cases neg<;>simp[binOp,Op.intCmp,bne]
     .exact Aw h1 neg (by rw[f];simp) (by rw[f];simp) (by rw[f];simp) (by rw[f];simp)
     .rw[f,z];cases neg<;>simp[binOp,Op.stringOp]
     exact Aw h1 neg (by rw[f];simp) (by rw[f];simp) (by rw[f];simp) (by rw[f];simp)
    cases g
   split at i
   .rename_i r' g;cases i;split at g
    .rename_i p q j s;rw[j]at hx;rw[s]at hy;obtain⟨h1,xs,ys,f,z⟩:=LE hx.toP hy.toP g;have hg:(eqGuard op t x y (a.eval x) (a.eval y)).run P w=.ok () w:=
      AH (by rw[f];simp) fun _ _ _ _=>by simpa[C4]using hc
     refine fin (.bool (r' != neg)) hg ?_ (.bb _);subst a1;exact Aw h1 neg (by rw[f];simp) (by rw[f];simp) (by rw[f];simp) (by rw[f];simp)
    cases g
   split at i
   .rename_i b hnil;cases i;obtain⟨h1,h2,f,z,h5,h6,h7⟩:=MV hx hy hnil;refine fin (.bool (b != neg)) (AH h2 fun xs _ e _=>Ba e (f xs)) ?_ (.v _);subst a1;exact Aw h1 neg z h5 h6 h7
   cases i
  split at hb
  .split at hb
   .rename_i l m j s;cases hb;rw[j]at hx;rw[s]at hy;have u:=hx.toP.toStr;have a0:=hy.toP.toStr;refine fin (.string ⟨(l++m).toArray⟩) (AH (by rw[u];simp) (by rw[u];simp)) ?_ (.str _)
    have:¬(9223372036854775807<((l.length:Int)+(m.length:Int))):=by simp only[C4]at hc;omega
    have hmx:IntKind.i64.max=9223372036854775807:=rfl;rw[u,a0];simp[binOp,Op.stringOp,IP,Tz,hmx,this]
   cases hb
  .exact eq false rfl hb
  .exact eq true rfl hb
  cases hb
 cases he
end
end Go.AM
namespace Go.AM
section
variable {P:Program}{C:Ctx}{st:St}{a:Act}{w:World}{rho:Nat->Value}{o:Oper}{out:Out}{d:Nat}
theorem Sat.grow (h:Sat C st a w rho){w' : World}(l:w.heap.size<=w'.heap.size)(c:∀b,b<w.heap.size->w'.heap[b]? = w.heap[b]?)(d:Ext w w':=by exact⟨rfl,rfl⟩):Sat C st a w' rho/\Kp C st.regs st.regs w w' rho rho:=by
 obtain⟨h1,m⟩:=h.step (R':=st.regs) (rho':=rho) (w':=w') (fun _=>False) (fun _ _=>rfl) (fun j f=>⟨f,rfl⟩) l (fun j h1 m=>Ba m h1) (fun j _ _ h=>h.elim) (fun b hb _=>c b hb)
  (fun j o b f=>f.elim) (fun i j oi oj b g=>g.elim) (fun i oi b off v g=>g.elim) (fun _ j o f=>f.elim) d
 exact⟨h1,m,fun i g=>⟨g,rfl⟩⟩
theorem FX (e:TypeId)(l:List UInt8):∃w' cap c,(Conv.stringToBytes e ⟨l.toArray⟩).run P w=.ok (.slice (some ⟨w.heap.size,0,none⟩) l.length cap) w' /\ Ext w w' /\ l.length<=cap/\w.heap.size<=w'.heap.size/\(∀b,b<w.heap.size->w'.heap[b]? = w.heap[b]?) /\
 ∀i,i<l.length->w'.cell? ⟨w.heap.size,i,none⟩=some (.int .u8 ((l.getD i 0).toNat:Nat))/\c=():=by
 have d:l.length<=grownCap w l.length 0 e:=grownCap_ge w _ _ e;refine⟨(w.drew.alloc (.cells ((l.toArray.map fun b=>Value.int .u8 (b.toNat:Nat))++Array.replicate (grownCap w l.length 0 e-l.length) (.int .u8 0)) e)).freeze ⟨w.heap.size,l.length+(grownCap w l.length 0 e-l.length),none⟩ 1,grownCap w l.length 0 e,(),?_,⟨rfl,rfl⟩,d,?_,?_,?_⟩
 .have f:∀arr:Array Value,(w.drew.alloc (.cells arr e)).shape? w.heap.size=some (e,arr.size):=by
   intro arr
   have:=heap_alloc_new w.drew (.cells arr e)
   simp only[World.size_drew]at this;unfold World.shape?;rw[this]
  simp[Conv.stringToBytes,IP,Question.forced,newRow,markStringish,f,grownCap]
 .simp[World.freeze]
 .intro b hb;have h1:b≠w.heap.size:=by omega
  simp only[World.freeze,Nat.one_ne_zero,Br,Xe,Ay (WN h1)];exact heap_alloc_old w.drew _ b hb
 intro i g;refine⟨?_,rfl⟩;have a:=heap_alloc_new w.drew (.cells ((l.toArray.map fun b=>Value.int .u8 (b.toNat:Nat))++Array.replicate (grownCap w l.length 0 e-l.length) (.int .u8 0)) e);simp only[World.size_drew]at a;simp only[World.cell?,World.freeze,Nat.one_ne_zero,Br,Xe,Be,a,Wf];simp[Xf,g,VW]
theorem MW {Pi:Nat->Nat->Prop}{f:List PV}{v:Value}(a:(Eb f).isSome=true)(hl:f.length=1)(b:RepP w Pi v (f.getD 0 default)):∃n,v=.int .u8 n/\Eb f=some (UInt8.ofNat n.toNat):=by
 unfold Eb at a⊢;split at a
 .rename_i n;exact⟨n,b.toInt,rfl⟩
 cases a
theorem OW (ns:List Int):∀s:ByteArray,ns.foldl (fun r n=>r.push (UInt8.ofNat n.toNat)) s=⟨s.data++(ns.map fun n=>UInt8.ofNat n.toNat).toArray⟩:=by
 induction ns with
 |nil=>intro s;simp
 |cons n ns ih=>intro s;rw[XZ,ih];apply Yj;show (s.data.push _)++_=s.data++_;apply Array.ext';simp
theorem Fl {v:Value}{n:Nat}{news:List Value}(hs:(Builtin.firstCells 1 n v).run P w=.ok news.toArray w)(hl:(Builtin.lenOf v).run P w=.ok n w)(a:∃b k c,v=.slice b k c){ns:List Int}(hn:news=ns.map (Value.int .u8))(d:∀k c,v=.slice none k c->news=[]) :(Conv.bytesToString v).run P w=.ok (.string (ns.foldl (fun r n=>r.push (UInt8.ofNat n.toNat)) ByteArray.empty)) w:=by
 obtain⟨b,k,c,rfl⟩:=a;simp only[Builtin.lenOf,WD,Result.ok.injEq,and_true]at hl;subst hl;cases b with
 |none=>
  have:=d k c rfl
  subst this
  have:ns=[]:=by cases ns<;>simp at hn⊢
  subst this;simp[Conv.bytesToString,ByteArray.empty,ByteArray.emptyWithCapacity]
 |some ad=>simp only[Builtin.firstCells,Xk]at hs;rw[hn]at hs;exact run_bytesToString w ad k c ns hs
theorem OX (h:Sat C st a w rho){s t:TypeId}{x:Operand}(ho:o.op=.convert s t x)(u:aop P st.env st.regs d o.op=some out)(hc:C4 out.cond):OpOk P C o st a w rho out:=by
 rw[ho]at u;simp only[aop]at u;have hx:=h.aev x;split at u
 .rename_i k0 k hs ht;split at u
  .rename_i k1 n a1;cases u;rw[a1]at hx;refine OpOk.pure h (v:=.int k (k.wrap n)) ?_ (.p _ _ (.v _));simp[execOp,ho,convert,U6 w (Lw hs),U6 w (Lw ht),hx.toP.toInt,Conv.intToInt]
  cases u
 .rename_i hs ht;split at u
  .rename_i l a1;cases u;rw[a1]at hx;refine OpOk.pure h (v:=.string ⟨l.toArray⟩) ?_ (.p _ _ (.str _));simp[execOp,ho,convert,U6 w (Ed hs),U6 w (Ed ht),hx.toP.toStr]
  cases u
 .rename_i e hs ht;split at u
  .rename_i l a1 hel;cases u;rw[a1]at hx;obtain⟨w',cap,c,hr,hxt,hcap,hsz,hheap,hcell⟩:=FX (P:=P) (w:=w) e l;obtain⟨h1,h2⟩:=h.grow hsz hheap hxt;refine⟨_,_,w',rho,?_,.inl rfl,h1,h2,.p _ _ (.sl true w.heap.size 0 cap 1 l.length _ (fun i _=>.int .u8 ((l.getD i 0).toNat:Nat)) hcap (fun i z=>rfl) (fun i j z hj=>?_) (fun i j z hj=>?_) none fun _=>rfl)⟩
   .simp[execOp,ho,convert,U6 w (Ed hs),U6 w (H4 ht),U6 w (Lw hel),hx.toP.toStr,hr]
   .obtain rfl:j=0:=by omega
    refine⟨by simpa using (hcell i z).1,?_,rfl⟩;rintro (hX|⟨j',o',hj',hbo,_⟩)
    .have:=h.hp.bound _ _ hX;omega
    have:=h.hp.lt ⟨j',o',hj',hbo⟩;omega
   obtain rfl:j=0:=by omega
   exact .v _
  cases u
 .rename_i e hs ht;split at u
  .rename_i hel;split at u
   .rename_i n f hsl q;cases u;have hc:∀i,i<n->(Eb (f i)).isSome=true:=hc;obtain⟨c,a2,hfl,hfr⟩:=Hu h hx q hs rfl;have hb:∀i,i<n->∃m,c i 0=.int .u8 m/\Eb (f i)=some (UInt8.ofNat m.toNat):=fun i z=>MW (hc i z) (hfl i z) (hfr i 0 z (by omega)).1;obtain⟨g,hg⟩:∃g:Nat->Int,∀i,i<n->c i 0=.int .u8 (g i)/\Eb (f i)=some (UInt8.ofNat (g i).toNat):=
     ⟨fun i=>if z:i<n then (hb i z).choose else 0,fun i z=>by simp only[z,dif_pos];exact (hb i z).choose_spec⟩
    have hnews:S5 c n 1=((List.range n).map g).map (Value.int .u8):=by simp only[S5,Xk,Nat.div_one,Nat.mod_one,Xx];apply WF;intro i z;exact (hg i (XN.1 z)).1
    have a0:∃b k cc,a.eval x=.slice b k cc:=by
     generalize a1:aev st.env x=y at hx hsl q;generalize a.eval x=v at hx;cases hx with
     |p _ y hy=>
      cases hy with
      |v y=>
       simp only[X0]at q;split at q<;>first
        |(rename_i heq;cases heq;exact⟨_,_,_,rfl⟩)
        |(cases q;done)
        |(rename_i heq;cases heq)
      |str l=>simp[SI]at hsl
      |slnil=>exact⟨_,_,_,rfl⟩
      |sl=>exact⟨_,_,_,rfl⟩
      |_=>simp[X0]at q
     |vec=>exact⟨_,_,_,rfl⟩
     |vecp=>exact⟨_,_,_,rfl⟩
     |_=>simp[X0]at q
    have hnil:∀k cc,a.eval x=.slice none k cc->S5 c n 1=[]:=by intro k cc hv;have h1:=a2.cells;rw[hv]at h1;simp only[Builtin.firstCells,WD,Result.ok.injEq,and_true]at h1;simpa using (congrArg Array.toList h1).symm
    have a3:=Fl a2.cells (a2.len w) a0 hnews hnil;refine OpOk.pure h (v:=.string ⟨((List.range n).map fun i=>(Eb (f i)).getD 0).toArray⟩) ?_ (.p _ _ (.str _));have hfin:(((List.range n).map g).foldl (fun r m=>r.push (UInt8.ofNat m.toNat)) ByteArray.empty)=⟨((List.range n).map fun i=>(Eb (f i)).getD 0).toArray⟩:=by
     rw[OW];apply Yj;apply Array.ext';simp only[Yx,Xx]
     have:ByteArray.empty.data.toList=[]:=rfl
     rw[this,List.nil_append];apply WF;intro i z;simp[(hg i (XN.1 z)).2]
    rw[hfin]at a3;obtain⟨b,k,cc,hv⟩:=a0;rw[hv]at a3;simp only[execOp,ho,hv];simp[run_convert_bytes_string w s t e b k cc (H4 hs) (Lw hel) (Ed ht),a3]
   cases u
  cases u
 cases u
theorem LF (h:Sat C st a w rho){t:TypeId}{l c:Operand}(ho:o.op=.makeSlice t l c)(q:aop P st.env st.regs d o.op=some out)(hc:C4 out.cond):OpOk P C o st a w rho out:=by
 rw[ho]at q;simp only[aop]at q;split at q
 .rename_i e n m hk hn hm y;split at q
  .rename_i k z u hz;split at q
   .rename_i a0;cases q;obtain⟨h1,h2,h3,h4⟩:0<=n/\n<=m/\m*Ag P e<=140737488355328/\m<=140737488355328:=hc;obtain⟨kn,a1⟩:=U7 (h.aev l) hn;obtain⟨km,a2⟩:=U7 (h.aev c) hm;obtain⟨i,v,hi,hiz,rfl⟩:=X2 hz;have hk' : i.size=k:=by obtain⟨i',f,hs'⟩:=GZ u;rw[hi]at f;cases f;exact hs'
    have hvz:v.cells.size=k:=by simpa using a0.1
    have hby:Ag P e=i.bytes:=by simp[Ag,Program.bytesOf,hi]
    rw[hby]at h3;have w64:∀x:Int,0<=x->x<=140737488355328->IntKind.i64.wrap x=x:=by intro x hx hx';have e1:x % (2 ^ 64:Int)=x:=Int.emod_eq_of_lt hx (by omega);unfold IntKind.wrap;simp only[IntKind.bits,IntKind.signed,e1];rw[Ay];simp;omega
    have hrange:(i.bytes:Int)*m<=140737488355328:=by have e:m*(i.bytes:Int)=(i.bytes:Int)*m:=Int.mul_comm _ _;omega
    obtain⟨arr,g⟩:∃arr:Array Value,arr=(Array.range (m.toNat*k)).map ((if m.toNat*k=0 then #[]else v.cells)[· % (if m.toNat*k=0 then #[]else v.cells).size]!):=⟨_,rfl⟩;have hrun:(Instr.makeSlice t (a.eval l) (a.eval c)).run P w=.ok (.slice (some ⟨w.heap.size,0,none⟩) n.toNat m.toNat) (w.alloc (.cells arr e)):=by
     have b1:¬(m<0):=by omega
     have b2:¬(281474976710656<(i.bytes:Int)*m):=by omega
     have b3:¬(n<0):=by omega
     have b4:¬(m<n):=by omega
     rw[g];by_cases r:m.toNat*k=0
     .simp[Instr.makeSlice,U6 w (H4 hk),a1,a2,_root_.Go.asInt,asIntOf,Tv w hi,w64 n h1 (by omega),w64 m (by omega) h4,b1,b2,b3,b4,EX w u,r,newRow]
     simp[Instr.makeSlice,U6 w (H4 hk),a1,a2,_root_.Go.asInt,asIntOf,Tv w hi,w64 n h1 (by omega),w64 m (by omega) h4,b1,b2,b3,b4,EX w u,r,newRow,SS w hi hiz]
    have hget:∀i' j,i' < n.toNat->j<k->arr.getD (i' * k+j) undef=v.cells.getD j undef:=by
     intro i' j f hj;have hlt:=F4 (show i' < m.toNat by omega) hj;have r:¬(m.toNat*k=0):=by omega
     rw[g];simp only[r,Br]
     have:(i' * k+j) % v.cells.size=j:=by rw[hvz,Xs,XE,XA hj]
     simp[VV,hlt,this,show j<v.cells.size by omega]
    obtain⟨h1',h2',h3'⟩:=h.fresh (Ai d 0) y (.vec e k n.toNat (fun _=>v.cells.toList.map Jt) false) (.slice (some ⟨w.heap.size,0,none⟩) n.toNat m.toNat) (w':=w.alloc (.cells arr e)) (by simp)
     (fun b hb=>heap_alloc_old w _ b hb) (fun b hb=>by simp[D3,J4]at hb;omega) (fun hk=>by
      refine .inr ⟨w.heap.size,m.toNat,arr,rfl,heap_alloc_new w _,by omega,by rw[g];simp,by simp only[maxLen];omega,fun i' f=>by simpa using hvz,fun i' j f hj=>?_⟩;rw[hget i' j f hj];have hj' : j<v.cells.size:=by omega
      have e:(v.cells.getD j undef)=v.cells[j]:=by simp[VV,hj']
      rw[e];refine⟨?_,?_⟩
      .simp only[VW,Wb,WC,Wv hj',Wf,Wd];exact J3 _ _ _
      have s:=a0.2;simp only[Xr,Wn,Function.comp]at s;exact (J3 w (fun _ _=>False) _).cell (s _ (by simp)))
    exact⟨_,_,_,_,by simp[execOp,ho,hrun],.inl rfl,h1',⟨h2',h3'⟩,.vec _ (some ⟨w.heap.size,0,none⟩) n.toNat m.toNat (by simp[Lv,A3]) (by simp)⟩
   cases q
  cases q
 cases q
end
end Go.AM
namespace Go.AM
section
variable {P:Program}{C:Ctx}{st:St}{a:Act}{w:World}{rho:Nat->Value}{o:Oper}{out:Out}{d:Nat}
theorem NX (off:Nat):∀(vs:List Value) (k:Nat) (cells:Array Value),off+k+vs.length<=cells.size ->
 ((vs.zipIdx k).foldl (fun cs (p:Value×Nat)=>cs.setIfInBounds (off+p.2) p.1) cells).toList=splice cells.toList (off+k) vs
 |[],k,cells,h=>by simp[splice]
 |v::vs,k,cells,h=>by simp only[WI]at h;rw[List.zipIdx_cons,XZ,NX off vs (k+1) _ (by simp;omega)];have e:=list_seg_step cells.toList (off+k) v vs (by simp;omega);simpa[splice,Yd,XD]using e
theorem LG (off:Nat)(vs:Array Value)(cells:Array Value)(h:off+vs.size<=cells.size) :(vs.zipIdx.foldl (fun cs (p:Value×Nat)=>cs.setIfInBounds (off+p.2) p.1) cells).toList=splice cells.toList off vs.toList:=by rw[<- Yy,Array.toList_zipIdx];exact NX off vs.toList 0 cells (by simpa using h)
theorem IQ (fs:List Field)(h:∀f∈fs,(tsz P f.type).isSome=true):(fs.mapM fun f=>(do pure (f.offset,<- sizeOf f.type):Sem (Nat×Nat))).run P w=.ok (fs.map fun f=>(f.offset,(tsz P f.type).getD 0)) w:=by
 induction fs with
 |nil=>simp
 |cons f fs ih=>obtain⟨m,hm⟩:=Wj.1 (h f (by simp));rw[List.mapM_cons];simp only[Wu,EX w hm,Wi,WD,ih fun g a=>h g (by simp[a]),WA,hm,Wd]
theorem JD (h:Sat C st a w rho){place:Nat->Option (Nat×Nat)}:∀(parts:List (Nat×Operand)) (cs cs' : List AV) (c:Array Value) (f:List AV->Option (List AV)),
 (∀cs,Gl st.env place parts cs=f cs)->f cs=some cs' -> c.size=cs.length->RepL w (PiS C st rho) (Lv (A2 st.regs)) rho (fun i=>c.getD i undef) cs ->
 ∃c',Instr.fill place c (parts.map fun q=>(q.1,a.eval q.2))=some c' /\ c'.size=cs'.length/\RepL w (PiS C st rho) (Lv (A2 st.regs)) rho (fun i=>c'.getD i undef) cs'
 |[],cs,cs',c,f,hf,he,hs,hr=>by rw[<- hf]at he;simp only[Gl,VX]at he;subst he;exact⟨c,rfl,hs,hr⟩
 |(i,x)::parts,cs,cs',c,f,hf,he,hs,hr=>by
  rw[<- hf]at he;simp only[Gl]at he;split at he
  .rename_i off m g hp;split at he
   .rename_i l;have hc:=DH (h.aev x) g;have b:=LG off (a.eval x).cells c (by omega);have j:((a.eval x).cells.zipIdx.foldl (fun cs (p:Value×Nat)=>cs.setIfInBounds (off+p.2) p.1) c).size=(splice cs off (cellsOf (aev st.env x))).length:=by rw[<- WE,b,E4 _ _ _ (by simp;omega),E4 _ _ _ (by omega)];simpa using hs
    obtain⟨c',h1,n,o⟩:=JD h parts (splice cs off (cellsOf (aev st.env x))) cs' _ _ (fun _=>rfl) he j (by
     have:=RepL.splice (c:=c.toList) (cs:=cs) (vs:=(a.eval x).cells.toList) (new:=cellsOf (aev st.env x)) (off:=off) (by simpa using hs)
      (by intro i d;have:=hr i d;simpa only[B4]using this) (by simpa using hc.1) (by intro i d;have:=hc.2 i d;simpa only[B4]using this) (by omega)
     intro i d
     have:=this i d
     simpa only[B4,b]using this)
    refine⟨c', ?_,n,o⟩;simp only[WA,Instr.fill,hp];rw[Ay (by simp;omega)];exact h1
   cases he
  cases he
theorem Kg {t:TypeId}{i:TypeInfo}{v:Value}{Pi:Nat->Nat->Prop}{live:Nat->Prop}{rho:Nat->Value}(a:(v.cells.toList.map Jt).all Ex=true):RepL w Pi live rho (fun i=>v.cells.getD i undef) ((v.cells.toList.map Jt).map .p):=by
 intro i b;simp only[WV,WE]at b;have e:(v.cells.getD i undef)=v.cells[i]:=by simp[VV,b]
 simp only[e];refine⟨?_,?_⟩
 .simp only[VW,Wb,WC,Wv b,Wf,Wd];exact .p _ _ (J3 _ _ _)
 simp only[Xr,Wn,Function.comp]at a;exact (J3 w (fun _ _=>False) _).cell (a _ (by simp))
theorem RE (h:Sat C st a w rho){t:TypeId}{parts:Array (Nat×Operand)}(l:o.op=.build t parts)(c:aop P st.env st.regs d o.op=some out):OpOk P C o st a w rho out:=by
 rw[l]at c;simp only[aop]at c;split at c
 .rename_i z x;split at c
  .rename_i cs g hb;cases c;simp only[Wa]at g;obtain⟨i,v,u,j,rfl⟩:=X2 x;obtain⟨c',h1,y,h3⟩:=JD h (place:=Jv P t) parts.toList _ cs v.cells _ (fun _=>rfl) hb (by simp) (Kg (t:=t) (i:=i) g.1);refine OpOk.pure h (v:=.agg c') ?_ (h3.mkAgg y fun _ _=>rfl);have b:(parts.map fun q=>(q.1,a.eval q.2)).toList=parts.toList.map fun q=>(q.1,a.eval q.2):=by simp
   have hs:=g.2;unfold PQ at hs;split at hs
   .rename_i fs hk;obtain⟨fa,hu,rfl⟩:=BO hk;have hp:Jv P t=fun i=>((fa.toList.map fun f=>(f.offset,(tsz P f.type).getD 0)).toArray)[i]?:=by
     funext i;simp only[Jv,hk,Wb,WC,List.getElem?_toArray];cases r:fa[i]? with
     |none=>simp
     |some f=>
      simp only[Xr,Wn,Function.comp]at hs
      have:=hs f (by have:=Yn r;simpa using this)
      obtain⟨m,hm⟩:=Wj.1 this;simp[hm]
    have hm:=IQ (P:=P) (w:=w) fa.toList (fun f r=>by simp only[Xr,Wn,Function.comp]at hs;exact hs f r)
    have s : (fa.mapM fun f=>(do pure (f.offset,<- sizeOf f.type):Sem (Nat×Nat))).run P w=.ok ((fa.toList.map fun f=>(f.offset,(tsz P f.type).getD 0)).toArray) w:=by obtain⟨fl⟩:=fa;rw[List.mapM_toArray];simp only[Sem.run_map,hm,Wi]
    rw[hp]at h1;simp only[execOp,l,Wu,Instr.build,SS w u j,Wi,U6 w hu,s,b,h1,WD]
   .rename_i n e hk;obtain⟨m,hm⟩:=Wj.1 hs;have hp:Jv P t=fun i=>some (i*m,m):=by funext i;simp[Jv,hk,hm]
    rw[hp]at h1;simp only[execOp,l,Wu,Instr.build,SS w u j,Wi,U6 w (Hq hk),EX w hm,b,h1,WD]
   cases hs
  cases c
 cases c
end
end Go.AM
namespace Go.AM
section
variable {P:Program}{C:Ctx}{st:St}{a:Act}{w:World}{rho:Nat->Value}{o:Oper}{out:Out}{d:Nat}
theorem Qm {regs R' : B5}{x:AV}{y:PV}(h:CG regs x=some (y,R')){i:Nat}(a:A2 regs i=none):A2 R' i=none:=by
 unfold CG at h;split at h
 .cases h;exact a
 .split at h
  .rename_i b;cases h;rw[A3];split
   .rename_i e;subst e;rw[a]at b;cases b
   exact a
  cases h
 .split at h
  .rename_i b;cases h;rw[A3];split
   .rename_i e;subst e;rw[a]at b;cases b
   exact a
  cases h
 .cases h;exact a
 .split at h
  .cases h;exact a
  cases h
 .split at h
  .cases h;exact a
  cases h
 cases h
theorem Cb:∀(xs:List Operand) (st:St) (l:List PV) (R' : B5),Sat C st a w rho->BJ st.regs (xs.map (aev st.env))=some (l,R') ->
 Sat C { st with regs:=R' } a w rho/\Kp C st.regs R' w w rho rho/\l.length=xs.length/\(∀i x,xs[i]? = some x->RepP w (Prv C.X (A2 R') rho) (a.eval x) (l.getD i default))/\∀i,A2 st.regs i=none->A2 R' i=none
 |[],st,l,R',h,he=>by simp only[XB,BJ,VX,We]at he;obtain⟨rfl,rfl⟩:=he;exact⟨h,Kp.refl _ _ _ _,rfl,fun i x hx=>by simp at hx,fun i b=>b⟩
 |x::xs,st,l,R',h,he=>by
  simp only[WA,BJ]at he;split at he
  .rename_i y R1 f;split at he
   .rename_i l' R2 c;cases he;obtain⟨h1,j,m⟩:=AE h (h.aev x) f;obtain⟨n,g,o,q,r⟩:=Cb xs { st with regs:=R1 } l' R' h1 c;refine⟨n,m.trans g,by simp[o],fun i z d=>?_,fun i b=>r i (Qm f b)⟩;cases i with
    |zero=>simp only[WR,VX]at d;subst d;simpa using g.p j
    |succ i=>simpa using q i z (by simpa using d)
   cases he
  cases he
def GO (F:Nat->List PV):List (Nat×List PV)->Nat->List PV
 |[],i=>F i
 |(j,x)::r,i=>if i=j then x else GO F r i
theorem Kh (z:List PV)(l:List (Nat×List PV))(i:Nat):GO (fun _=>z) l i=B8 z l i:=by
 induction l with
 |nil=>rfl
 |cons p r ih=>obtain⟨j,x⟩:=p;simp only[GO,B8,ih]
theorem Hv {F:Nat->List PV}{j:Nat}{x:List PV}:∀(l:List (Nat×List PV)),(∀p∈l,p.1≠j)->∀i,GO (fun i=>if i=j then x else F i) l i=if i=j then x else GO F l i
 |[],_,i=>rfl
 |(k,y)::r,h,i=>by
  have hk:=h (k,y) (by simp);simp only[GO,Hv r (fun p hp=>h p (by simp[hp])) i];by_cases e:i=k
  .subst e;simp only[Be];rw[Ay hk]
  simp only[e,Br]
theorem MX {x:PV}(h:Hg x=true):X9 (.p x)=true/\cellsOf (.p x)=(U5 x).map .p:=by cases x<;>simp_all [Hg,X9,PN,cellsOf,U5]
theorem EA {Pi:Nat->Nat->Prop}{m n:Nat}:∀(ps:List (Nat×Value)) (xs:List PV) (c:Array Value) (F:Nat->List PV),ps.length=xs.length->BZ n m (ps.map (·.1)) xs=true ->
 (∀i x,ps[i]? = some x->RepP w Pi x.2 (xs.getD i default))->c.size=n*m->(∀i,i<n->(F i).length=m)->(∀i j,i<n->j<m->RepP w Pi (c.getD (i*m+j) undef) ((F i).getD j default)/\(c.getD (i*m+j) undef).oneCell' = true) ->
 ∃c',Instr.fill (fun i=>some (i*m,m)) c ps=some c' /\ c'.size=n*m/\(∀i,i<n->(GO F ((ps.map (·.1)).zip (xs.map U5)) i).length=m) /\
  ∀i j,i<n->j<m->RepP w Pi (c'.getD (i*m+j) undef) ((GO F ((ps.map (·.1)).zip (xs.map U5)) i).getD j default)/\(c'.getD (i*m+j) undef).oneCell' = true
 |[],xs,c,F,hl,f,hr,hs,hF,hc=>⟨c,rfl,hs,by simpa[GO]using hF,by simpa[GO]using hc⟩
 |(i0,v)::ps,[],c,F,hl,f,hr,hs,hF,hc=>by simp at hl
 |(i0,v)::ps,x::xs,c,F,hl,f,hr,hs,hF,hc=>by
  simp only[WA,BZ,Wa,decide_eq_true_eq,beq_iff_eq,Ws]at f;obtain⟨⟨hi0,hst,hpl⟩,r,f⟩:=f;obtain⟨s,t⟩:=MX hst;have hv:RepP w Pi v x:=by simpa using hr 0 (i0,v) rfl
  obtain⟨u,y⟩:=DH (live:=fun _=>False) (rho:=fun _=>undef) (.p _ _ hv) s;rw[t]at u y;simp only[WV]at u;have hle:i0*m+m<=n*m:=by rw[<- YB];exact Wk m hi0
  have o:=LG (i0*m) v.cells c (by omega);obtain⟨c1,a0⟩:∃c1,c1=v.cells.zipIdx.foldl (fun cs (p:Value×Nat)=>cs.setIfInBounds (i0*m+p.2) p.1) c:=⟨_,rfl⟩;rw[<- a0]at o;have hs1:c1.size=n*m:=by rw[<- WE,o,E4 _ _ _ (by simp;omega)];simpa using hs
  obtain⟨c',h1,h2,h3,h4⟩:=EA ps xs c1 (fun i=>if i=i0 then U5 x else F i) (by simpa using hl) f (fun i z hz=>by simpa using hr (i+1) z (by simpa using hz)) hs1
   (fun i q=>by
    by_cases e:i=i0
    .simp only[e,Be];exact hpl
    .simp only[e,Br];exact hF i q) (fun i j q hj=>by
    rw[B4,o,N6 _ _ _ _ _ (by simp;omega)];by_cases d:i0*m<=i*m+j/\i*m+j<i0*m+v.cells.toList.length
    .rw[Au d];simp only[WE]at d;obtain⟨rfl,hjj⟩:=Qh (l:=i) (i:=i0) (k:=m) (a:=j) (b:=i*m+j-i0*m) (by omega) hj (by omega);simp only[Be]
     have:=y j (by simp;omega)
     rw[show i*m+j-i*m=j by omega,<- B4];refine⟨?_,this.2⟩;have h5:=this.1;simp only[VW,Wb,VZ (show j<(U5 x).length by omega),Wf,Wd]at h5⊢;exact h5.toP
    rw[Ay d];have hne:i≠i0:=by rintro rfl;apply d;simp only[WE];omega
    simp only[hne,Br];rw[<- B4];exact hc i j q hj)
  have g:∀p∈(ps.map (·.1)).zip (xs.map U5),p.1≠i0:=by
   intro p hp e
   have:=(List.of_mem_zip hp).1
   rw[e]at this;simp only[WM,decide_eq_false_iff_not]at r;exact r this
  refine⟨c', ?_,h2,fun i q=>?_,fun i j q hj=>?_⟩
  .simp only[Instr.fill];rw[Ay (by simp;omega)];rw[<- a0];exact h1
  .have:=h3 i q
   rw[Hv _ g]at this;simpa[GO]using this
  have:=h4 i j q hj
  rw[Hv _ g]at this;simpa[GO]using this
theorem Ee (h:Sat C st a w rho){t:TypeId}{n:Nat}{parts:Array (Nat×Operand)}(hf:Fb st.regs n (parts.toList.map fun q=>(q.1,aev st.env q.2))=none)(ho:o.op=.buildSlice t n parts)(s:aop P st.env st.regs d o.op=some out)(hc:C4 out.cond):OpOk P C o st a w rho out:=by
 rw[ho]at s;simp only[aop,hf]at s;split at s
 .rename_i e hk a1;split at s
  .rename_i l R' m z hv a7 hz;split at s
   .rename_i a8;cases s;have a9:BZ n m (parts.toList.map (·.1)) l=true:=hc;obtain⟨⟨hmax,b0⟩,r,a2⟩:=a8;have b1 : BJ st.regs ((parts.toList.map (·.2)).map (aev st.env))=some (l,R'):=by simpa[Xx,Xc]using hv
    obtain⟨h1,h2,h3,h4,h5⟩:=Cb (parts.toList.map (·.2)) st l R' h b1;obtain⟨i,v,hi,b2,rfl⟩:=X2 hz;have b3:v.cells.size=m:=by simpa using r
    obtain⟨arr,c⟩:∃arr:Array Value,arr=(Array.range (n*m)).map ((if n*m=0 then #[]else v.cells)[· % (if n*m=0 then #[]else v.cells).size]!):=⟨_,rfl⟩;have a3:∀i' j,i' < n->j<m->arr.getD (i' * m+j) undef=v.cells.getD j undef:=by
     intro i' j f y;have b4:=F4 f y;have g:¬(n*m=0):=by omega
     rw[c];simp only[g,Br]
     have:(i' * m+j) % v.cells.size=j:=by rw[b3,Xs,XE,XA y]
     simp[VV,b4,this,show j<v.cells.size by omega]
    have b5:=Kg (w:=w) (Pi:=Prv C.X (A2 R') rho) (live:=fun _=>False) (rho:=rho) (t:=t) (i:=i) a2;obtain⟨c',a4,b6,a5,a0⟩:=EA (w:=w) (Pi:=Prv C.X (A2 R') rho) (m:=m) (n:=n) (parts.toList.map fun q=>(q.1,a.eval q.2)) l arr (fun _=>v.cells.toList.map Jt) (by simpa using h3.symm)
     (by simpa[Xx,Xc]using a9) (fun i x hx=>by
      rw[Wb,Wo]at hx;obtain⟨q,hq,rfl⟩:=hx;exact h4 i q.2 (by rw[Wb,hq];rfl)) (by rw[c];simp) (fun i hi=>r) (fun i' j f y=>by
      rw[a3 i' j f y]
      have:=b5 j (by simp;omega)
      refine⟨?_,this.2⟩;have h6:=this.1;simp only[VW,Wb,WC,Wv (show j<v.cells.size by omega),Wf,Wd]at h6⊢;exact h6.toP)
    have b7:(parts.toList.map fun q=>(q.1,a.eval q.2)).map (·.1)=parts.toList.map (·.1):=by simp[Xx,Xc]
    rw[b7]at a5 a0;have a6:(Instr.buildSlice t n (parts.map fun q=>(q.1,a.eval q.2))).run P w=.ok (.slice (some ⟨w.heap.size,0,none⟩) n n) (w.alloc (.cells c' e)):=by
     have u:(parts.map fun q=>(q.1,a.eval q.2)).toList=parts.toList.map fun q=>(q.1,a.eval q.2):=by simp
     have hb:¬(n*m>2 ^ 24):=by omega
     simp only[Instr.buildSlice,Wu,U6 w (H4 hk),Wi,EX w a7,Ay hb,u];by_cases g:n*m=0
     .simp only[Au g]at c;rw[Au g];simp only[Wu,WD,Wi];rw[<- c,a4];simp[newRow]
     simp only[Ay g]at c;rw[Ay g];simp only[Wu,WD,Wi,SS w hi b2];rw[<- c,a4];simp[newRow]
    obtain⟨g1,g2,g3⟩:=h1.fresh (Ai d 0) (h5 _ a1) (.vec e m n (B8 (v.cells.toList.map Jt) ((parts.toList.map (·.1)).zip (l.map U5))) false) (.slice (some ⟨w.heap.size,0,none⟩) n n) (w':=w.alloc (.cells c' e)) (by simp)
     (fun b hb=>heap_alloc_old w _ b hb) (fun b hb=>by simp[D3,J4]at hb;omega) (fun b8=>by
      refine .inr ⟨w.heap.size,n,c',rfl,heap_alloc_new w _,Wp _,b6,?_,fun i' f=>?_,fun i' j f y=>?_⟩
      .simp only[maxLen];omega
      .rw[<- Kh];exact a5 i' f
      rw[<- Kh];exact⟨(a0 i' j f y).1.keeps b8,(a0 i' j f y).2⟩)
    exact⟨_,_,_,_,by simp[execOp,ho,a6],.inl rfl,g1,h2.trans ⟨g2,g3⟩,.vec _ (some ⟨w.heap.size,0,none⟩) n n (by simp[Lv,A3]) (by simp)⟩
   cases s
  cases s
 cases s
theorem Hw {regs:B5}:∀{l:List AV}{xs:List PV},PR l=some xs->BJ regs l=some (xs,regs)
 |[],_,h=>by cases h;rfl
 |a::r,xs,h=>by
  cases a with
  |p x=>
   simp only[PR]at h;split at h
   .rename_i l hl;cases h;simp only[BJ,CG,Hw hl]
   cases h
  |_=>simp[PR]at h
theorem IR (h:Sat C st a w rho){t:TypeId}{n:Nat}{parts:Array (Nat×Operand)}(ho:o.op=.buildSlice t n parts){cc:List Prop}{x:PV}(r:IN P st.env o.op=some (cc,x))(hc:C4 cc):OpOk P C o st a w rho ⟨cc,.p x,st.regs⟩:=by
 rw[ho]at r;simp only[IN]at r;split at r
 .rename_i e hk;split at r
  .rename_i l m z a7 a8 hz;have hv:=Hw (regs:=st.regs) a7;split at r
   .rename_i a9;cases r;have b0:BZ n m (parts.toList.map (·.1)) l=true:=hc;obtain⟨⟨hmax,b1⟩,g,a1⟩:=a9;have b2 : BJ st.regs ((parts.toList.map (·.2)).map (aev st.env))=some (l,st.regs):=by simpa[Xx,Xc]using hv
    obtain⟨h1,h2,h3,h4,h5⟩:=Cb (parts.toList.map (·.2)) st l st.regs h b2;obtain⟨i,v,hi,b3,rfl⟩:=X2 hz;have b4:v.cells.size=m:=by simpa using g
    obtain⟨arr,d⟩:∃arr:Array Value,arr=(Array.range (n*m)).map ((if n*m=0 then #[]else v.cells)[· % (if n*m=0 then #[]else v.cells).size]!):=⟨_,rfl⟩;have a2:∀i' j,i' < n->j<m->arr.getD (i' * m+j) undef=v.cells.getD j undef:=by
     intro i' j c s;have y:=F4 c s;have f:¬(n*m=0):=by omega
     rw[d];simp only[f,Br]
     have:(i' * m+j) % v.cells.size=j:=by rw[b4,Xs,XE,XA s]
     simp[VV,y,this,show j<v.cells.size by omega]
    have b5:=Kg (w:=w) (Pi:=Prv C.X (A2 st.regs) rho) (live:=fun _=>False) (rho:=rho) (t:=t) (i:=i) a1;obtain⟨c',a3,b6,a4,a0⟩:=EA (w:=w) (Pi:=Prv C.X (A2 st.regs) rho) (m:=m) (n:=n) (parts.toList.map fun q=>(q.1,a.eval q.2)) l arr (fun _=>v.cells.toList.map Jt) (by simpa using h3.symm)
     (by simpa[Xx,Xc]using b0) (fun i x hx=>by
      rw[Wb,Wo]at hx;obtain⟨q,hq,rfl⟩:=hx;exact h4 i q.2 (by rw[Wb,hq];rfl)) (by rw[d];simp) (fun i hi=>g) (fun i' j c s=>by
      rw[a2 i' j c s]
      have:=b5 j (by simp;omega)
      refine⟨?_,this.2⟩;have h6:=this.1;simp only[VW,Wb,WC,Wv (show j<v.cells.size by omega),Wf,Wd]at h6⊢;exact h6.toP)
    have b7:(parts.toList.map fun q=>(q.1,a.eval q.2)).map (·.1)=parts.toList.map (·.1):=by simp[Xx,Xc]
    rw[b7]at a4 a0;have a5:(Instr.buildSlice t n (parts.map fun q=>(q.1,a.eval q.2))).run P w=.ok (.slice (some ⟨w.heap.size,0,none⟩) n n) (w.alloc (.cells c' e)):=by
     have u:(parts.map fun q=>(q.1,a.eval q.2)).toList=parts.toList.map fun q=>(q.1,a.eval q.2):=by simp
     have hb:¬(n*m>2 ^ 24):=by omega
     simp only[Instr.buildSlice,Wu,U6 w (H4 hk),Wi,EX w a8,Ay hb,u];by_cases f:n*m=0
     .simp only[Au f]at d;rw[Au f];simp only[Wu,WD,Wi];rw[<- d,a3];simp[newRow]
     simp only[Ay f]at d;rw[Ay f];simp only[Wu,WD,Wi,SS w hi b3];rw[<- d,a3];simp[newRow]
    obtain⟨g1,g2⟩:=h.grow (w':=w.alloc (.cells c' e)) (by simp) (fun b hb=>heap_alloc_old w _ b hb);have a6:∀off,¬Prv C.X (A2 st.regs) rho w.heap.size off:=by
     rintro off (hX|⟨j',o',b8,b9,_⟩)
     .have:=h.hp.bound _ _ hX;omega
     have:=h.hp.lt ⟨j',o',b8,b9⟩;omega
    refine⟨_,_,w.alloc (.cells c' e),rho,by simp[execOp,ho,a5],.inl rfl,g1,g2,.p _ _ (.sl true w.heap.size 0 n m n _ (fun i' j=>c'.getD (i' * m+j) undef) (Wp _) (fun i' c=>by rw[<- Kh];exact a4 i' c) (fun i' j c s=>?_) (fun i' j c s=>?_) none fun _=>rfl)⟩
    .refine⟨?_,a6 _,?_⟩
     .have y:=F4 c s
      have:=C9 (heap_alloc_new w (.cells c' e)) (o:=i' * m+j) (by rw[b6];exact y)
      rw[WG];exact this
     have:=(a0 i' j c s).2;exact this
    rw[<- Kh];exact (a0 i' j c s).1.keeps fun b o v hp hc=>⟨by rw[<- hc];exact WB (heap_alloc_old w _ b (Xi w ⟨b,o,none⟩ hc)),hp⟩
   cases r
  cases r
 cases r
theorem Ki (h:Sat C st a w rho){t:TypeId}{l c:Operand}(ho:o.op=.makeSlice t l c){cc:List Prop}{x:PV}(q:IN P st.env o.op=some (cc,x))(hc:C4 cc):OpOk P C o st a w rho ⟨cc,.p x,st.regs⟩:=by
 rw[ho]at q;simp only[IN]at q;split at q
 .rename_i e n m hk hn hm;split at q
  .rename_i k z y hz;split at q
   .rename_i hzl;cases q;obtain⟨h1,h2,h3,h4⟩:0<=n/\n<=m/\m*Ag P e<=140737488355328/\m<=140737488355328:=hc;obtain⟨kn,hkn⟩:=U7 (h.aev l) hn;obtain⟨km,hkm⟩:=U7 (h.aev c) hm;obtain⟨i,v,hi,hiz,rfl⟩:=X2 hz;have hk' : i.size=k:=by obtain⟨i',d,hs'⟩:=GZ y;rw[hi]at d;cases d;exact hs'
    have hvz:v.cells.size=k:=by simpa using hzl.1
    have hby:Ag P e=i.bytes:=by simp[Ag,Program.bytesOf,hi]
    rw[hby]at h3;have w64:∀x:Int,0<=x->x<=140737488355328->IntKind.i64.wrap x=x:=by intro x hx hx';have e1:x % (2 ^ 64:Int)=x:=Int.emod_eq_of_lt hx (by omega);unfold IntKind.wrap;simp only[IntKind.bits,IntKind.signed,e1];rw[Ay];simp;omega
    have hrange:(i.bytes:Int)*m<=140737488355328:=by have e:m*(i.bytes:Int)=(i.bytes:Int)*m:=Int.mul_comm _ _;omega
    obtain⟨arr,g⟩:∃arr:Array Value,arr=(Array.range (m.toNat*k)).map ((if m.toNat*k=0 then #[]else v.cells)[· % (if m.toNat*k=0 then #[]else v.cells).size]!):=⟨_,rfl⟩;have hrun:(Instr.makeSlice t (a.eval l) (a.eval c)).run P w=.ok (.slice (some ⟨w.heap.size,0,none⟩) n.toNat m.toNat) (w.alloc (.cells arr e)):=by
     have b1:¬(m<0):=by omega
     have b2:¬(281474976710656<(i.bytes:Int)*m):=by omega
     have b3:¬(n<0):=by omega
     have b4:¬(m<n):=by omega
     rw[g];by_cases r:m.toNat*k=0
     .simp[Instr.makeSlice,U6 w (H4 hk),hkn,hkm,_root_.Go.asInt,asIntOf,Tv w hi,w64 n h1 (by omega),w64 m (by omega) h4,b1,b2,b3,b4,EX w y,r,newRow]
     simp[Instr.makeSlice,U6 w (H4 hk),hkn,hkm,_root_.Go.asInt,asIntOf,Tv w hi,w64 n h1 (by omega),w64 m (by omega) h4,b1,b2,b3,b4,EX w y,r,newRow,SS w hi hiz]
    have s:∀i' j,i' < n.toNat->j<k->arr.getD (i' * k+j) undef=v.cells.getD j undef:=by
     intro i' j d hj;have hlt:=F4 (show i' < m.toNat by omega) hj;have r:¬(m.toNat*k=0):=by omega
     rw[g];simp only[r,Br]
     have:(i' * k+j) % v.cells.size=j:=by rw[hvz,Xs,XE,XA hj]
     simp[VV,hlt,this,show j<v.cells.size by omega]
    obtain⟨g1,g2⟩:=h.grow (w':=w.alloc (.cells arr e)) (by simp) (fun b hb=>heap_alloc_old w _ b hb);have hnew:∀off,¬Prv C.X (A2 st.regs) rho w.heap.size off:=by
     rintro off (hX|⟨j',o',f,hbo,_⟩)
     .have:=h.hp.bound _ _ hX;omega
     have:=h.hp.lt ⟨j',o',f,hbo⟩;omega
    refine⟨_,_,w.alloc (.cells arr e),rho,by simp[execOp,ho,hrun],.inl rfl,g1,g2,.p _ _ (.sl true w.heap.size 0 m.toNat k n.toNat _ (fun i' j=>arr.getD (i' * k+j) undef) (by omega) (fun i' d=>by simpa using hvz) (fun i' j d hj=>?_) (fun i' j d hj=>?_) none fun _=>rfl)⟩
    .refine⟨?_,hnew _,?_⟩
     .have hlt:=F4 (show i' < m.toNat by omega) hj
      have:=C9 (heap_alloc_new w (.cells arr e)) (o:=i' * k+j) (by rw[g];simpa using hlt)
      rw[WG];exact this
     rw[s i' j d hj];have f : j<v.cells.size:=by omega
     rw[show (v.cells.getD j undef)=v.cells[j] by simp[VV,f]];have u:=hzl.2;simp only[Xr,Wn,Function.comp]at u;exact (J3 w (fun _ _=>False) _).cell (u _ (by simp))
    rw[s i' j d hj];have f : j<v.cells.size:=by omega
    rw[show (v.cells.getD j undef)=v.cells[j] by simp[VV,f]];simp only[VW,Wb,WC,Wv f,Wf,Wd];exact J3 _ _ _
   cases q
  cases q
 cases q
theorem OY (h:Sat C st a w rho){cc:List Prop}{x:PV}(b:IN P st.env o.op=some (cc,x))(hc:C4 cc):OpOk P C o st a w rho ⟨cc,.p x,st.regs⟩:=by
 cases d:o.op with
 |buildSlice t n parts=>exact IR h d b hc
 |makeSlice t l c=>exact Ki h d b hc
 |_=>rw[d]at b;simp[IN]at b
end
end Go.AM
namespace Go.AM
section
variable {P:Program}{C:Ctx}{st:St}{a:Act}{w:World}{rho:Nat->Value}{o:Oper}{out:Out}{d:Nat}
theorem Kj {b:Bool}:∀(n:Nat) (t:TypeId) (ks:List TK),lay P n t=some ks->∀(vs:Array Value) (off D:Nat),n<=D->off+ks.length<=vs.size ->
 ∃x,(part t vs off).run P w=.ok x w/\(Instr.checkKey b D t x).run P w=.ok () w:=by
 intro n
 induction n with
 |zero=>intro t ks h;simp[lay]at h
 |succ n ih=>
  intro t ks hl vs off D z ha;obtain⟨D,rfl⟩:∃D',D=D' + 1:=⟨D-1,by omega⟩;cases hk:tk P t with
  |none=>
   have:P.underlying t=none:=by unfold tk at hk;cases j:P.underlying t<;>simp[j]at hk⊢
   simp[lay,this]at hl
  |some k=>
   by_cases hs:∀fs,k ≠ .struct fs
   .obtain⟨rfl,m⟩:=LD hk hl hs;simp only[WJ]at ha;refine⟨vs.getD off undef,?_,?_⟩
    .simp[part,F5 w hk,m,VV,show off<vs.size by omega]
    obtain⟨dd,j,rfl⟩:=V9 hk;simp only[lay,j]at hl;cases dd<;>simp at hl<;>first
     |(simp[Instr.checkKey,U6 w j];done)
     |exact Ba rfl (hs _)
   obtain⟨fs,rfl⟩:∃fs,k=.struct fs:=Xn fun hn=>hs fun fs e=>hn ⟨fs,e⟩;obtain⟨fa,d,_⟩:=BO hk;simp only[lay,d]at hl;split at hl
   .rename_i l q;split at hl
    .rename_i r;cases hl;refine⟨.agg (vs.extract off (off+ks.length)),by simp[part,F5 w hk,NR,EX w r],?_⟩;generalize g : vs.extract off (off+ks.length)=vs';have i : vs'.size=0+ks.length:=by rw[<- g];simp;omega
     simp only[Instr.checkKey,Wu,U6 w d,Wi];rw[<- Array.forIn_toList];have s:∀(fl:List Field) (o:Nat) (l:List TK),Ti (lay P n) fl o=some l->vs'.size=o+l.length ->
      (forIn fl PUnit.unit (fun f _=>(do
       if f.name ≠ "_" then do
        Instr.checkKey b D f.type (<- part f.type vs' f.offset)
        pure (ForInStep.yield PUnit.unit)
       else pure (ForInStep.yield PUnit.unit):Sem (ForInStep PUnit)))).run P w=.ok PUnit.unit w:=by
      intro fl
      induction fl with
      |nil=>intro o l _ _;simp
      |cons f fl ihf=>
       intro o l h1 y;simp only[Ti]at h1;split at h1
       .cases h1
       rename_i a;have a:f.offset=o:=Xn a;split at h1
       .rename_i ka u;split at h1
        .rename_i kb v;cases h1;simp only[Xa]at y;obtain⟨x,hx,hc⟩:=ih f.type ka u vs' o D (by omega) (by omega);have c:=ihf (o+ka.length) kb v (by omega);rw[List.forIn_cons];by_cases hn:f.name ≠ "_"
         .simp only[Wu,Au hn,a,hx,hc,Wi,WD];exact c
         simp only[Wu,Ay hn,Wi,WD];exact c
        cases h1
       cases h1
     have:=s fa.toList 0 ks q i
     simp only[ne_eq]at this⊢
     first
      |exact this
      |(simp only[this];done)
      |(rw[this];rfl)
    cases hl
   cases hl
theorem EB {Pi:Nat->Nat->Prop}{b:Bool}{t:TypeId}{v:Value}{x:PV}(hk:Fc P t x=true)(g:RepP w Pi v x):(Instr.checkKey b 10000 t v).run P w=.ok () w:=by
 unfold Fc at hk;split at hk
 .rename_i fs c;split at hk
  .rename_i ks cs hl;simp only[beq_iff_eq]at hk;cases g with
   |agg vs _ hs _ _=>
    obtain⟨y,hy,hc⟩:=Kj (P:=P) (w:=w) (b:=b) 10 t ks hl vs 0 10000 (by omega) (by omega);have a:=hl;obtain⟨fa,d,_⟩:=BO c;simp only[lay,d]at a;split at a
    .split at a
     .rename_i f;cases a
      have:vs.extract 0 ks.length=vs:=by rw[<- hk,<- hs];simp
      have e1:(part t vs 0).run P w=.ok (.agg vs) w:=by simp[part,F5 w c,NR,EX w f,this]
      rw[e1]at hy;cases hy;exact hc
     cases a
    cases a
  cases hk
 .rename_i k i c;obtain⟨dd,j,rfl⟩:=V9 c;show (Instr.checkKey b (9999+1) t v).run P w=.ok () w;generalize 9999=D;cases dd<;>simp[MF,keyK]at hk<;>simp[Instr.checkKey,U6 w j]
 cases hk
def EntL (w:World)(Pi:Nat->Nat->Prop)(ents:List MapEntry)(es:List (PV×PV)):Prop:= ents.length=es.length/\∀i,i<es.length->RepP w Pi (ents.getD i default).key (es.getD i default).1/\RepP w Pi (ents.getD i default).val (es.getD i default).2
theorem EntL.cons {Pi:Nat->Nat->Prop}{e:MapEntry}{ents:List MapEntry}{p:PV×PV}{es:List (PV×PV)}(h:EntL w Pi (e::ents) (p::es)):RepP w Pi e.key p.1/\RepP w Pi e.val p.2/\EntL w Pi ents es:=
 ⟨by simpa using (h.2 0 (by simp)).1,by simpa using (h.2 0 (by simp)).2,by simpa using h.1,fun i a=>by simpa using h.2 (i+1) (by simpa using a)⟩
theorem JE {cmp:PV->PV->Option Bool}{k:PV}:∀{es:List (PV×PV)}{r:Option PV},find cmp k es=some r->∃q,CT cmp k es=some q/\r=q.map fun j=>(es.getD j default).2
 |[],r,h=>by simp only[find,VX]at h;subst h;exact⟨none,rfl,rfl⟩
 |(a,x)::es,r,h=>by
  simp only[find]at h;split at h
  .rename_i hc;cases h;exact⟨some 0,by simp[CT,hc],by simp⟩
  .rename_i hc;obtain⟨q,h1,b⟩:=JE h;refine⟨q.map (· + 1),by simp[CT,hc,h1],?_⟩;rw[b];cases q<;>simp
  cases h
theorem LH {cmp:PV->PV->Option Bool}{k x:PV}:∀{es es' : List (PV×PV)},upd cmp k x es=some es' -> ∃q,CT cmp k es=some q/\(q=none->es' = es++[(k,x)])/\∀j,q=some j->es' = es.set j (k,x)
 |[],es',h=>by simp only[upd,VX]at h;subst h;exact⟨none,rfl,fun _=>rfl,fun j h=>by cases h⟩
 |(a,y)::es,es',h=>by
  simp only[upd]at h;split at h
  .rename_i hc;cases h;exact⟨some 0,by simp[CT,hc],fun h=>(by cases h),fun j b=>by cases b;simp⟩
  .rename_i hc;rw[Wo]at h;obtain⟨e1,c,rfl⟩:=h;obtain⟨q,h1,d,f⟩:=LH c;refine⟨q.map (· + 1),by simp[CT,hc,h1],fun g=>?_,fun j b=>?_⟩
   .cases q with
    |none=>rw[d rfl];rfl
    |some j=>simp at g
   cases q with
   |none=>simp at b
   |some j'=>simp at b;subst b;rw[f j' rfl];rfl
  cases h
theorem DJ {cmp:PV->PV->Option Bool}{k:PV}:∀{es:List (PV×PV)}{j:Nat},CT cmp k es=some (some j)->j<es.length/\cmp k (es.getD j default).1=some true
 |[],j,h=>by simp[CT]at h
 |(a,y)::es,j,h=>by
  simp only[CT]at h;split at h
  .rename_i hc;cases h;exact⟨by simp,by simpa using hc⟩
  .rename_i hc;rw[Wo]at h;obtain⟨q,h1,b⟩:=h;cases q with
   |none=>simp at b
   |some j'=>simp at b;subst b;obtain⟨c,d⟩:=DJ h1;exact⟨by simpa using c,by simpa using d⟩
  cases h
theorem CK {Pi:Nat->Nat->Prop}{kt:TypeId}{k:Value}{x:PV}(hk:RepP w Pi k x)(hc:C4 (Ju P kt)):∀(es:List (PV×PV)) (ents:List MapEntry) (i:Nat) (r:Option Nat),EntL w Pi ents es->CT (IH P kt) x es=some r ->
 (Instr.findAsking kt k ents i).run P w=.ok (r.map fun j=>(i+j,(ents.getD j default).val)) w
 |[],ents,i,r,he,hf=>by obtain rfl:ents=[]:=Xt (by simpa using he.1);simp only[CT,VX]at hf;subst hf;simp[Instr.findAsking]
 |(a,b)::es,[],i,r,he,hf=>by simp[EntL]at he
 |(a,b)::es,e::ents,i,r,he,hf=>by
  obtain⟨h1,l,d⟩:=he.cons;simp only[CT]at hf;split at hf
  .rename_i c;cases hf
   have:=(FV hk h1 c hc).1
   simp[Instr.findAsking,this]
  .rename_i c
   have:=(FV hk h1 c hc).1
   rw[Wo]at hf;obtain⟨q,f,rfl⟩:=hf;have g:=CK hk hc es ents (i+1) q d f;simp only[Instr.findAsking,Wu,this,Wi,Wg,Br,g];cases q with
   |none=>rfl
   |some j=>simp;omega
  cases hf
theorem Hx {Pi:Nat->Nat->Prop}{kt:TypeId}{dd:TypeDesc}(f:P.underlying kt=some dd){k e:Value}{x a:PV}(hk:RepP w Pi k x)(b:RepP w Pi e a){r q:Bool}(hc:IH P kt x a=some r)(hs:Instr.sameNow dd k e=some q):q=r:=by
 have c:tk P kt=some (MF dd):=by simp[tk,f]
 unfold IH at hc;rw[c]at hc;unfold Instr.sameNow at hs;split at hs
 .simp only[MF]at hc;cases hk;cases b;simp only[MK]at hc;split at hs
  .rename_i d;rw[Au d]at hc;cases hs;cases hc;rfl
  cases hs
 .simp only[MF]at hc;cases hk with
  |v=>simp[MK]at hc
  |str l=>
   cases b with
   |v=>simp[MK]at hc
   |str m=>simp only[MK,VX]at hc;simp only[VX]at hs;rw[<- hs,<- hc,beq_toListBytes];simp
 .simp only[MF]at hc;cases hk<;>cases b<;>simp only[MK,Ln,VX]at hc hs<;>exact hs.symm.trans hc
 cases hs
theorem Fm {Pi:Nat->Nat->Prop}{kt:TypeId}{dd:TypeDesc}(d:P.underlying kt=some dd){k:Value}{x:PV}(hk:RepP w Pi k x):∀(es:List (PV×PV)) (ents:List MapEntry) (i:Nat) (r:Option Nat) (q:Option (Nat×Value)),EntL w Pi ents es->CT (IH P kt) x es=some r ->
 Instr.findNow dd k ents i=some q->q=r.map fun j=>(i+j,(ents.getD j default).val)
 |[],ents,i,r,q,he,hf,hn=>by obtain rfl:ents=[]:=Xt (by simpa using he.1);simp only[CT,VX]at hf;simp only[Instr.findNow,VX]at hn;subst hf;subst hn;rfl
 |(a,b)::es,[],i,r,q,he,hf,hn=>by simp[EntL]at he
 |(a,b)::es,e::ents,i,r,q,he,hf,hn=>by
  obtain⟨h1,l,g⟩:=he.cons;simp only[CT]at hf;simp only[Instr.findNow]at hn;split at hn
  .rename_i hs;cases hn;split at hf
   .cases hf;simp
   .rename_i c
    have:=Hx d hk h1 c hs;cases this
   cases hf
  .rename_i hs;split at hf
   .rename_i c
    have:=Hx d hk h1 c hs;cases this
   .rw[Wo]at hf;obtain⟨r',f,rfl⟩:=hf
    have:=Fm d hk es ents (i+1) r' q g f hn
    rw[this];cases r' with
    |none=>rfl
    |some j=>simp;omega
   cases hf
  cases hn
theorem Cc {Pi:Nat->Nat->Prop}{kt:TypeId}{k:Value}{x:PV}(hk:RepP w Pi k x)(b:Fc P kt x=true)(hc:C4 (Ju P kt)){es:List (PV×PV)}{ents:List MapEntry}{r:Option Nat}(d:EntL w Pi ents es)(f:CT (IH P kt) x es=some r) :(Instr.findKey kt k ents).run P w=.ok (r.map fun j=>(j,(ents.getD j default).val)) w:=by
 have a:∃dd,P.underlying kt=some dd:=by
  unfold Fc at b;split at b
  .rename_i c;obtain⟨dd,a,_⟩:=V9 c;exact⟨dd,a⟩
  .rename_i c;obtain⟨dd,a,_⟩:=V9 c;exact⟨dd,a⟩
  cases b
 obtain⟨dd,a⟩:=a;cases hn:Instr.findNow dd k ents 0 with
 |some q=>
  have:=Fm a hk es ents 0 r q d f hn
  rw[this]at hn;simp[Instr.findKey,U6 w a,hn]
 |none=>
  have:=CK hk hc es ents 0 r d f
  simp[Instr.findKey,U6 w a,hn,this]
theorem LI {Pi:Nat->Nat->Prop}{v:Value}{x:PV}{b:Bool}(h:RepP w Pi v x)(hb:Ln x=some b):v=.bool b:=by
 unfold Ln at hb;split at hb
 .cases hb;cases h;rfl
 .cases hb;cases h;rfl
 cases hb
theorem MY {Pi:Nat->Nat->Prop}{k:TK}{v u:Value}{x y:PV}(d:RepP w Pi v x)(f:RepP w Pi u y)(c:MK k x y=some true):v=u/\∀n,Instr.sameBits n v u=true:=by
 unfold MK at c;split at c
 .split at c
  .rename_i g;subst g;cases d;cases f;simp only[VX,beq_iff_eq]at c;subst c;exact⟨rfl,fun n=>by cases n<;>simp[Instr.sameBits]⟩
  cases c
 .split at c
  .rename_i a b h1 i;simp only[VX,beq_iff_eq]at c;subst c;have e1:=LI d h1;have e2:=LI f i;subst e1;subst e2;exact⟨rfl,fun n=>by cases n<;>simp[Instr.sameBits]⟩
  cases c
 .cases d with
  |str l=>
   cases f with
   |str m=>simp only[VX,beq_iff_eq]at c;subst c;exact⟨rfl,fun n=>by cases n<;>(simp only[Instr.sameBits];rw[beq_toListBytes];simp)⟩
 cases c
theorem NY {Pi:Nat->Nat->Prop}:∀{ks:List TK}{xs ys:List PV}(f g:Nat->Value),(∀i,i<xs.length->RepP w Pi (f i) (xs.getD i default))->(∀i,i<ys.length->RepP w Pi (g i) (ys.getD i default))->P6 ks xs ys=some true ->
 xs.length=ys.length/\∀i,i<xs.length->f i=g i/\∀n,Instr.sameBits n (f i) (g i)=true
 |ks,[],ys,f,g,hf,hg,he=>by cases ks<;>cases ys<;>simp[P6]at he⊢
 |[],x::xs,ys,f,g,hf,hg,he=>by simp[P6]at he
 |k::ks,x::xs,[],f,g,hf,hg,he=>by simp[P6]at he
 |k::ks,x::xs,y::ys,f,g,hf,hg,he=>by
  have hx:RepP w Pi (f 0) x:=by simpa using hf 0 (by simp)
  have hy:RepP w Pi (g 0) y:=by simpa using hg 0 (by simp)
  simp only[P6]at he;split at he
  .split at he
   .obtain⟨h1,b⟩:=MY hx hy he;refine⟨rfl,fun i a=>?_⟩;simp only[WJ]at a;obtain rfl:i=0:=by omega
    exact⟨h1,b⟩
   cases he
  split at he
  .rename_i p q hp c;simp only[VX,Wa]at he;obtain⟨rfl,rfl⟩:=he;obtain⟨h1,b⟩:=MY hx hy hp;obtain⟨d,j⟩:=NY (fun i=>f (i+1)) (fun i=>g (i+1)) (fun i a=>by simpa using hf (i+1) (by simpa using a)) (fun i a=>by simpa using hg (i+1) (by simpa using a)) c;refine⟨by simpa using d,fun i a=>?_⟩;cases i with
   |zero=>exact⟨h1,b⟩
   |succ i=>exact j i (by simpa using a)
  cases he
theorem Qn {Pi:Nat->Nat->Prop}{t:TypeId}{v u:Value}{x y:PV}(f:RepP w Pi v x)(g:RepP w Pi u y)(a:IH P t x y=some true):v=u/\Instr.sameBits 10000 v u=true:=by
 unfold IH at a;split at a
 .split at a
  .rename_i ks xs ys hl;cases f with
   |agg vs _ hs _ hr=>
    cases g with
    |agg us _ hs' _ hr'=>
     obtain⟨h1,c⟩:=NY (fun i=>vs.getD i undef) (fun i=>us.getD i undef) hr hr' a;have e:vs=us:=by
      refine Array.ext (by omega) fun i d b=>?_
      have:=(c i (by omega)).1
      simpa[VV,d,b]using this
     subst e;refine⟨rfl,?_⟩
     have:∀n,Instr.sameBits (n+1) (.agg vs) (.agg vs)=true:=by
      intro n;simp only[Instr.sameBits,BEq.rfl,Bool.true_and,Wn];intro p hp;obtain⟨i,d,rfl⟩:=Xo.1 hp;have b : i<vs.size:=by simpa using d
      have:=(c i (by omega)).2 n
      simpa[VV,b]using this
     exact this 9999
  cases a
 .obtain⟨h1,c⟩:=MY f g a;exact⟨h1,c _⟩
 cases a
end
end Go.AM
namespace Go.AM
section
variable {P:Program}{C:Ctx}{st:St}{a:Act}{w:World}{rho:Nat->Value}{o:Oper}{out:Out}{d:Nat}
theorem Gs {Pi:Nat->Nat->Prop}{e:TypeId}{z:PV}(b:Gn P e=some z):∃v,(zeroValue e).run P w=.ok v w/\RepP w Pi v z:=by
 unfold Gn at b;split at b
 .rename_i v g;rw[XH]at g;obtain⟨i,d,f⟩:=g;refine⟨v,SS w d f,?_⟩;split at b
  .rename_i cs;split at b
   .rename_i c;cases b;simp only[Xr,Wn,Function.comp]at c;refine .agg cs _ (by simp) (fun i d=>?_) fun i d=>?_
    .have a : i<cs.size:=by simpa using d
     have:cs.getD i undef=cs[i]:=by simp[VV,a]
     rw[this];exact (J3 w Pi _).cell (c _ (by simp))
    have a : i<cs.size:=by simpa using d
    have:cs.getD i undef=cs[i]:=by simp[VV,a]
    rw[this];have e:(cs.toList.map Jt).getD i default=Jt cs[i]:=by simp[a]
    rw[e];exact J3 w Pi _
   cases b
  cases b;exact J3 w Pi _
 cases b
theorem LJ {ents:Array MapEntry}{clock:Nat}{e:MapEntry}(hc:clock=ents.size)(hb:∀i,i<ents.size->(ents.getD i default).born=i)(a:e.born=clock) :clock+1=(ents.push e).size/\∀i,i<(ents.push e).size->((ents.push e).getD i default).born=i:=by
 refine⟨by simp[hc],fun i b=>?_⟩;simp only[Array.size_push]at b;by_cases h:i<ents.size
 .have:=hb i h
  simpa[VV,Ya,show i≠ents.size by omega]using this
 obtain rfl:i=ents.size:=by omega
 simp[VV,a,hc]
theorem EC {ents:Array MapEntry}{clock j:Nat}{f:MapEntry->MapEntry}(hc:clock=ents.size)(hb:∀i,i<ents.size->(ents.getD i default).born=i)(b:∀e,(f e).born=e.born) :clock=(ents.modify j f).size/\∀i,i<(ents.modify j f).size->((ents.modify j f).getD i default).born=i:=by
 refine⟨by simp[hc],fun i a=>?_⟩;simp only[Array.size_modify]at a
 have:=hb i a
 by_cases h:j=i
 .subst h;simp[VV,a,Xz,b]at this⊢;exact this
 simpa[VV,Xe,h]using this
theorem Qo (h:Sat C st a w rho){t:TypeId}{m k:Operand}{ok:Bool}(ho:o.op=.lookup t m k ok)(he:aop P st.env st.regs d o.op=some out)(hc:C4 out.cond):OpOk P C o st a w rho out:=by
 rw[ho]at he;simp only[aop]at he;split at he
 .rename_i x R' hv;split at he
  .rename_i c y hl;cases he;obtain⟨h1,h2,h3⟩:=AE h (h.aev k) hv;have hm:=h3.av (h.aev m);unfold Bm at hl;split at hl
   .rename_i kt e ht;have fin:∀(ents:Array MapEntry) (es:List (PV×PV)) (r:Option PV),((a.eval m=.map none/\ents = #[]) \/ ∃r clock,a.eval m=.map (some r)/\w.heap[r]? = some (.map ents clock))->EntL w (Prv C.X (A2 R') rho) ents.toList es->Fc P kt x=true->find (IH P kt) x es=some r ->
     (match (some r:Option (Option PV))with
      |some (some x)=>some (Ju P kt,if ok then AV.tup [.p x,.bool true]else .p x)
      |some none=>match Gn P e with
       |some z=>some (Ju P kt,if ok then AV.tup [.p z,.bool false]else .p z)
       |none=>none
      |none=>none)=some (c,y)->OpOk P C o st a w rho ⟨c,y,R'⟩:=by
     intro ents es r hget a0 a1 hf hres;have hcc:C4 (Ju P kt):=by
      cases r with
      |some x=>simp only[VX,We]at hres;rw[hres.1];exact hc
      |none=>
       simp only at hres;split at hres
       .simp only[VX,We]at hres;rw[hres.1];exact hc
       cases hres
     obtain⟨q,hq,u⟩:=JE hf;have hfk:=Cc h2 a1 hcc a0 hq;have hck:=EB (b:=ents.isEmpty) a1 h2;have last:∀(v:Value) (b:Bool) (z:PV),RepP w (Prv C.X (A2 R') rho) v z->(Instr.lookup t (a.eval m) (a.eval k) ok).run P w=.ok (if ok then .tuple #[v,.bool b]else v) w->y=(if ok then AV.tup [.p z,.bool b]else .p z)->OpOk P C o st a w rho ⟨c,y,R'⟩:=by
      intro v b z hv hr hy;refine⟨_,_,w,rho,by simp[execOp,ho,hr];rfl,.inl rfl,h1,h3,?_⟩;rw[hy];cases ok
      .exact .p _ _ hv
      refine .tup _ _ rfl fun i hi=>?_;simp only[WI,XX]at hi
      match i,hi with
      |0,_=>exact .p _ _ hv
      |1,_=>exact .p _ _ (.bb b)
     have hrun:∀(v:Value) (b:Bool),(q.map fun j=>(j,(ents.toList.getD j default).val))=(if b then some (q.getD 0,v)else none)->(b=false->(zeroValue e).run P w=.ok v w)->(Instr.lookup t (a.eval m) (a.eval k) ok).run P w=.ok (if ok then .tuple #[v,.bool b]else v) w:=by
      intro v b hqb hz;unfold Instr.lookup;rcases hget with⟨hm',rfl⟩ | ⟨r,clock,hm',hheap⟩
      .simp only[Wu,U6 w (Gr ht),Wi,hm',WD,hck,hfk,hqb];cases b
       .simp[hz rfl]
       simp
      have hg:(getObj r).run P w=.ok (.map ents clock) w:=by simp[getObj,Sem.run,hheap]
      simp only[Wu,U6 w (Gr ht),Wi,hm',hg,WD,hck,hfk,hqb];cases b
      .simp[hz rfl]
      simp
     cases q with
     |none=>
      simp only[Yp]at u;subst u;simp only at hres;split at hres
      .rename_i z hz;simp only[VX,We]at hres;obtain⟨v,hv1,hv2⟩:=Gs (w:=w) (Pi:=Prv C.X (A2 R') rho) hz;exact last v false z hv2 (hrun v false rfl fun _=>hv1) hres.2.symm
      cases hres
     |some j=>simp only[Wf]at u;subst u;simp only[VX,We]at hres;obtain⟨hj,_⟩:=DJ hq;exact last _ true _ (a0.2 j hj).2 (hrun _ true rfl (fun h=>by cases h)) hres.2.symm
    split at hl
    .rename_i x' f;split at f
     .cases f
     .rename_i j l n;split at f
      .rename_i es hj;rw[n]at hm;have hh:=h1.hp.holds j _ hj;obtain⟨b,ents,clock,hr,hb,hs,s,hclk,hborn⟩:=hh;have hmv:a.eval m=.map (some b):=by
        generalize a.eval m=mv at hm;cases hm with
        |mref _ r hl' hr'=>rw[hr]at hr';cases hr';rfl
       exact fin ents es (some x') (.inr ⟨b,clock,hmv,hb⟩) ⟨by simpa using hs,fun i hi=>by simpa using s i hi⟩ l f hl
      cases f
     cases f
    .rename_i g;split at g
     .rename_i l n;rw[n]at hm;exact fin #[] [] none (.inl ⟨hm.toP.toV,rfl⟩) ⟨rfl,fun i hi=>Ba hi (by simp)⟩ l rfl hl
     .rename_i j l n;split at g
      .rename_i es hj;rw[n]at hm;have hh:=h1.hp.holds j _ hj;obtain⟨b,ents,clock,hr,hb,hs,s,hclk,hborn⟩:=hh;have hmv:a.eval m=.map (some b):=by
        generalize a.eval m=mv at hm;cases hm with
        |mref _ r hl' hr'=>rw[hr]at hr';cases hr';rfl
       exact fin ents es none (.inr ⟨b,clock,hmv,hb⟩) ⟨by simpa using hs,fun i hi=>by simpa using s i hi⟩ l g hl
      cases g
     cases g
    cases hl
   cases hl
  cases he
 cases he
theorem LK (h:Sat C st a w rho){t:TypeId}{m k x:Operand}(ho:o.op=.mapUpdate t m k x)(g:aop P st.env st.regs d o.op=some out)(hc:C4 out.cond):OpOk P C o st a w rho out:=by
 rw[ho]at g;simp only[aop]at g;split at g
 .rename_i kt e j kp ht hm0 hk0;split at g
  .rename_i y R' hv;split at g
   .rename_i es hj;split at g
    .rename_i es' a3 a4;cases g;have a5:=h.aev k;rw[hk0]at a5;obtain⟨h1,h2,h3⟩:=AE h (h.aev x) hv;have hm:=h3.av (h.aev m);rw[hm0]at hm;have c:=(h3.p a5.toP).nP;obtain⟨b,ents,clock,hr,hb,hs,f,a0,l⟩:=h1.hp.holds j _ hj;have a6:a.eval m=.map (some b):=by
      generalize a.eval m=mv at hm;cases hm with
      |mref _ r hl' hr'=>rw[hr]at hr';cases hr';rfl
     obtain⟨q,hq,hqn,hqs⟩:=LH a4;have a7:EntL w (Prv C.X (A2 R') rho) ents.toList es:=⟨by simpa using hs,fun i u=>by simpa using f i u⟩;have a8:=Cc c a3 hc a7 hq;have a9:=EB (b:=false) a3 c;have hg:(getObj b).run P w=.ok (.map ents clock) w:=by simp[getObj,Sem.run,hb]
     have hlt:b<w.heap.size:=(Wc.1 hb).1;have a1:∀ob:Go.Obj,(setObj b ob).run P w=.ok () { w with heap:=w.heap.setIfInBounds b ob }:=fun ob=>by simp[setObj,Sem.run,hb]
     obtain⟨ents',clock',b0,b1,b2,n⟩:∃(ents' : Array MapEntry) (clock' : Nat),(Instr.mapUpdate t (a.eval m) (a.eval k) (a.eval x)).run P w=.ok () { w with heap:=w.heap.setIfInBounds b (.map ents' clock') }/\(clock' = ents'.size/\∀i,i<ents'.size->(ents'.getD i default).born=i)/\ents'.size=es'.length /\
      ∀i,i<es'.length->RepP w (Prv C.X (A2 R') rho) (ents'.getD i default).key (es'.getD i default).1/\RepP w (Prv C.X (A2 R') rho) (ents'.getD i default).val (es'.getD i default).2:=by
      cases q with
      |none=>
       have e:=hqn rfl;subst e;refine⟨ents.push { key:=a.eval k,val:=a.eval x,born:=clock },clock+1,?_,LJ a0 l rfl,by simp[hs],fun i u=>?_⟩
       .unfold Instr.mapUpdate;simp only[Wu,U6 w (Gr ht),Wi,a6,hg,a9,a8,Yp,a1]
       simp only[Xa,WJ]at u;by_cases b3 : i<es.length
       .have:=f i b3
        simpa[VV,Ya,show i≠ents.size by omega,WW b3]using this
       obtain rfl:i=es.length:=by omega
       have h4:(ents.push { key:=a.eval k,val:=a.eval x,born:=clock }).getD es.length default={ key:=a.eval k,val:=a.eval x,born:=clock }:=by simp[VV,<- hs]
       rw[h4];simp only[VW,Yb,Wd];exact⟨c,h2⟩
      |some j'=>
       have e:=hqs j' rfl;subst e;obtain⟨hj',hcmp⟩:=DJ hq;have hjs:j' < ents.size:=by omega
       obtain⟨heq,s⟩:=Qn c (f j' hj').1 hcmp;have hold:(((ents[j']?).map (·.key)).getD (a.eval k))=(ents.getD j' default).key:=by simp[VV,hjs]
       refine⟨ents.modify j' fun e=>{ e with key:=a.eval k,val:=a.eval x },clock,?_,EC a0 l fun _=>rfl,by simp[hs],fun i u=>?_⟩
       .unfold Instr.mapUpdate;have hks:Instr.keyThatStays (((ents[j']?).map (·.key)).getD (a.eval k)) (a.eval k)=(pure (a.eval k):Sem Value):=by rw[hold,<- heq];unfold Instr.keyThatStays;rw[<- heq]at s;rw[Au s]
        simp only[Wu,U6 w (Gr ht),Wi,a6,hg,a9,a8,Wf,hks,WD,a1]
       simp only[Yq]at u;by_cases a2:i=j'
       .subst a2;have h4:((ents.modify i fun e=>{ e with key:=a.eval k,val:=a.eval x }).getD i default)={ (ents[i])with key:=a.eval k,val:=a.eval x }:=by simp[VV,hjs,Xz]
        rw[h4];simp only[VW,XK u,Wd];exact⟨c,h2⟩
       have h4:((ents.modify j' fun e=>{ e with key:=a.eval k,val:=a.eval x }).getD i default)=ents.getD i default:=by simp[VV,Xe,WN a2]
       rw[h4]
       have:=f i u
       simpa[XS (WN a2)]using this
     obtain⟨g1,g2,g3⟩:=h1.modify (o:=.map es) (ob:=.map es') hj (b:=b) (by simp[D3,J4,hr]) (fun _=>trivial) (fun b' z=>by simp[D3,J4,hr]at z;exact z.symm)
      (w':={ w with heap:=w.heap.setIfInBounds b (.map ents' clock') }) (by simp) (fun b' z=>by simp[Xp (WN z)])
      (fun hk'=>⟨b,ents',clock',hr,by simp[hlt],b2,fun i u=>⟨(n i u).1.keeps hk',(n i u).2.keeps hk'⟩,b1⟩)
     exact⟨_,undef,_,_,by simp[execOp,ho,b0],.inr ⟨rfl,rfl⟩,g1,h3.trans ⟨g2,g3⟩,.p _ _ (.v _)⟩
    cases g
   cases g
  cases g
 cases g
theorem OZ {ents:Array MapEntry}(hb:∀i,i<ents.size->(ents.getD i default).born=i){n:Nat}(hn:n<ents.size):ents.findIdx? (fun e=>(e.born:Int)==(n:Int))=some n:=by
 rw[Array.findIdx?_eq_some_iff_getElem];refine⟨hn,?_,fun j a=>?_⟩
 .have:=hb n hn
  simp[VV,hn]at this;simp[this]
 have:=hb j (by omega)
 simp[VV,show j<ents.size by omega]at this;simp[this];omega
theorem MZ (h:Sat C st a w rho){t:TypeId}{m k:Operand}(ho:o.op=.mapEntry t m k)(he:aop P st.env st.regs d o.op=some out)(hc:C4 out.cond):OpOk P C o st a w rho out:=by
 rw[ho]at he;simp only[aop]at he;split at he
 .rename_i kt e j kp ht hm0 hk0;split at he
  .rename_i es z hj hz;split at he
   .rename_i q hko hq;cases he;have hkr:=h.aev k;rw[hk0]at hkr;have hm:=h.aev m;rw[hm0]at hm;have f:=hkr.toP.nP;obtain⟨b,ents,clock,hr,hb,hs,c,s,g⟩:=h.hp.holds j _ hj;have hmv:a.eval m=.map (some b):=by
     generalize a.eval m=mv at hm;cases hm with
     |mref _ r hl' hr'=>rw[hr]at hr';cases hr';rfl
    have hent:EntL w (Prv C.X (A2 st.regs) rho) ents.toList es:=⟨by simpa using hs,fun i l=>by simpa using c i l⟩;have hfk:=Cc f hko hc hent hq;have hck:=EB (b:=false) hko f;have hg:(getObj b).run P w=.ok (.map ents clock) w:=by simp[getObj,Sem.run,hb]
    have hlt:b<w.heap.size:=(Wc.1 hb).1;have hset:∀ob:Go.Obj,(setObj b ob).run P w=.ok () { w with heap:=w.heap.setIfInBounds b ob }:=fun ob=>by simp[setObj,Sem.run,hb]
    obtain⟨zv,hzr,hzp⟩:=Gs (w:=w) (Pi:=Prv C.X (A2 st.regs) rho) hz;obtain⟨ents',clock',old,hrun,hcb',hold',hsz',u⟩:∃(ents' : Array MapEntry) (clock' : Nat) (old:Value),(Instr.mapEntry t (a.eval m) (a.eval k)).run P w=.ok (.tuple #[old,.int .i64 ((ent (nP kp) z es q).1:Nat)]) { w with heap:=w.heap.setIfInBounds b (.map ents' clock') }/\(clock' = ents'.size/\∀i,i<ents'.size->(ents'.getD i default).born=i) /\
     RepP w (Prv C.X (A2 st.regs) rho) old (ent (nP kp) z es q).2.1/\ents'.size=(ent (nP kp) z es q).2.2.length /\
     ∀i,i<(ent (nP kp) z es q).2.2.length->RepP w (Prv C.X (A2 st.regs) rho) (ents'.getD i default).key ((ent (nP kp) z es q).2.2.getD i default).1/\RepP w (Prv C.X (A2 st.regs) rho) (ents'.getD i default).val ((ent (nP kp) z es q).2.2.getD i default).2:=by
     cases q with
     |none=>
      refine⟨ents.push { key:=a.eval k,val:=zv,born:=clock },clock+1,zv,?_,LJ s g rfl,hzp,by simp[ent,hs],fun i l=>?_⟩
      .unfold Instr.mapEntry;simp only[Wu,U6 w (Gr ht),Wi,hmv,hg,hck,hfk,Yp,hset,hzr,WD,goInt,ent,s,hs]
      simp only[ent,Xa,WJ]at l;by_cases hi' : i<es.length
      .have:=c i hi'
       simpa[ent,VV,Ya,show i≠ents.size by omega,WW hi']using this
      obtain rfl:i=es.length:=by omega
      have h4:(ents.push { key:=a.eval k,val:=zv,born:=clock }).getD es.length default={ key:=a.eval k,val:=zv,born:=clock }:=by simp[VV,<- hs]
      rw[h4];simp only[ent,VW,Yb,Wd];exact⟨f,hzp⟩
     |some j'=>
      obtain⟨hj',hcmp⟩:=DJ hq;have n:j' < ents.size:=by omega
      obtain⟨heq,y⟩:=Qn f (c j' hj').1 hcmp;have hold:(((ents[j']?).map (·.key)).getD (a.eval k))=(ents.getD j' default).key:=by simp[VV,n]
      have hbj:((ents[j']?).map fun x=>((x.born:Nat):Int)).getD 0=(j' : Int):=by
       have:=g j' n
       simp[VV,n]at this;simp[n,this]
      have hval:ents.toList.getD j' default=ents.getD j' default:=by simp[VV,VW]
      refine⟨ents.modify j' fun e=>{ e with key:=a.eval k },clock,(ents.getD j' default).val,?_,EC s g fun _=>rfl,(c j' hj').2,by simp[ent,hs],fun i l=>?_⟩
      .unfold Instr.mapEntry;have hks:Instr.keyThatStays (((ents[j']?).map (·.key)).getD (a.eval k)) (a.eval k)=(pure (a.eval k):Sem Value):=by rw[hold,<- heq];unfold Instr.keyThatStays;rw[<- heq]at y;rw[Au y]
       simp only[Wu,U6 w (Gr ht),Wi,hmv,hg,hck,hfk,Wf,hks,WD,hset,goInt,ent,hbj,hval]
      simp only[ent,Yq]at l;by_cases hij:i=j'
      .subst hij;have h4:((ents.modify i fun e=>{ e with key:=a.eval k }).getD i default)={ (ents[i])with key:=a.eval k }:=by simp[VV,n,Xz]
       have h5:(ents[i]).val=(ents.getD i default).val:=by simp[VV,n]
       rw[h4];simp only[ent,VW,XK l,Wd];refine⟨f, ?_⟩;rw[h5];simpa using (c i l).2
      have h4:((ents.modify j' fun e=>{ e with key:=a.eval k }).getD i default)=ents.getD i default:=by simp[VV,Xe,WN hij]
      rw[h4]
      have:=c i l
      simpa[ent,XS (WN hij)]using this
    obtain⟨g1,g2,g3⟩:=h.modify (o:=.map es) (ob:=.map (ent (nP kp) z es q).2.2) hj (b:=b) (by simp[D3,J4,hr]) (fun _=>trivial) (fun b' hb'=>by simp[D3,J4,hr]at hb';exact hb'.symm)
     (w':={ w with heap:=w.heap.setIfInBounds b (.map ents' clock') }) (by simp) (fun b' hb'=>by simp[Xp (WN hb')])
     (fun hk'=>⟨b,ents',clock',hr,by simp[hlt],hsz',fun i l=>⟨(u i l).1.keeps hk',(u i l).2.keeps hk'⟩,hcb'⟩)
    refine⟨_,_,_,_,by simp[execOp,ho,hrun];rfl,.inl rfl,g1,⟨g2,g3⟩,.tup _ _ rfl fun i l=>?_⟩;simp only[WI,XX]at l
    match i,l with
    |0,_=>exact .p _ _ (hold'.keeps g2)
    |1,_=>exact .p _ _ (.v _)
   cases he
  cases he
 cases he
theorem Kk (h:Sat C st a w rho){t:TypeId}{m s x:Operand}(ho:o.op=.entryStore t m s x)(q:aop P st.env st.regs d o.op=some out)(hc:C4 out.cond):OpOk P C o st a w rho out:=by
 rw[ho]at q;simp only[aop]at q;split at q
 .rename_i j sv y R' hm0 hs0 hv;split at q
  .rename_i es hj;cases q;have hsr:=h.aev s;obtain⟨h1,h2,h3⟩:=AE h (h.aev x) hv;have hm:=h3.av (h.aev m);rw[hm0]at hm;obtain⟨b,ents,clock,hr,hb,hs,l,a1,c⟩:=h1.hp.holds j _ hj;have hmv:a.eval m=.map (some b):=by
    generalize a.eval m=mv at hm;cases hm with
    |mref _ r hl' hr'=>rw[hr]at hr';cases hr';rfl
   have hg:(getObj b).run P w=.ok (.map ents clock) w:=by simp[getObj,Sem.run,hb]
   have hlt:b<w.heap.size:=(Wc.1 hb).1;have a2:∀ob:Go.Obj,(setObj b ob).run P w=.ok () { w with heap:=w.heap.setIfInBounds b ob }:=fun ob=>by simp[setObj,Sem.run,hb]
   have hc:0<=sv/\sv<(es.length:Int):=hc;obtain⟨c1,c2⟩:=hc;obtain⟨n,rfl⟩:∃n:Nat,sv=(n:Int):=⟨sv.toNat,by omega⟩;have hn:n<es.length:=by omega
   have u : n<ents.size:=by omega
   have hjx:=OZ c u;have a3:(Instr.entryStore t (a.eval m) (a.eval s) (a.eval x)).run P w=.ok () { w with heap:=w.heap.setIfInBounds b (.map (ents.modify n fun e=>{ e with val:=a.eval x }) clock) }:=by obtain⟨kk,hkk⟩:=U7 hsr hs0;unfold Instr.entryStore;simp only[Wu,Wi,hmv,hg,hkk,Go.asInt,asIntOf,WD,hjx,a2]
   have hst:(setV es (n:Int).toNat y)=es.set n ((es.getD n default).1,y):=by simp[setV]
   rw[hst];have f : ∀i,i<(es.set n ((es.getD n default).1,y)).length->RepP w (Prv C.X (A2 R') rho) ((ents.modify n fun e=>{ e with val:=a.eval x }).getD i default).key ((es.set n ((es.getD n default).1,y)).getD i default).1/\RepP w (Prv C.X (A2 R') rho) ((ents.modify n fun e=>{ e with val:=a.eval x }).getD i default).val ((es.set n ((es.getD n default).1,y)).getD i default).2:=by
    intro i z;simp only[Yq]at z;by_cases a0:i=n
    .subst a0;have h4:((ents.modify i fun e=>{ e with val:=a.eval x }).getD i default)={ (ents[i])with val:=a.eval x }:=by simp[VV,u,Xz]
     have h5:(ents[i]).key=(ents.getD i default).key:=by simp[VV,u]
     rw[h4];simp only[VW,XK z,Wd];refine⟨?_,h2⟩;rw[h5];simpa using (l i z).1
    have h4:((ents.modify n fun e=>{ e with val:=a.eval x }).getD i default)=ents.getD i default:=by simp[VV,Xe,WN a0]
    rw[h4]
    have:=l i z
    simpa[XS (WN a0)]using this
   obtain⟨g1,g2,g3⟩:=h1.modify (o:=.map es) (ob:=.map (es.set n ((es.getD n default).1,y))) hj (b:=b) (by simp[D3,J4,hr]) (fun _=>trivial) (fun b' g=>by simp[D3,J4,hr]at g;exact g.symm)
    (w':={ w with heap:=w.heap.setIfInBounds b (.map (ents.modify n fun e=>{ e with val:=a.eval x }) clock) }) (by simp) (fun b' g=>by simp[Xp (WN g)])
    (fun a4=>⟨b,_,clock,hr,by simp[hlt],by simp[hs],fun i z=>⟨(f i z).1.keeps a4,(f i z).2.keeps a4⟩,EC a1 c fun _=>rfl⟩)
   exact⟨_,undef,_,_,by simp[execOp,ho,a3],.inr ⟨rfl,rfl⟩,g1,h3.trans ⟨g2,g3⟩,.p _ _ (.v _)⟩
  cases q
 cases q
end
end Go.AM
namespace Go.AM
section
variable {C:Ctx}{st:St}{a:Act}{w:World}{rho:Nat->Value}
theorem Sat.re (hs:Sat C st a w rho)(D:Nat->Prop){R' : B5}{rho' : Nat->Value}
 (c:∀j,¬D j->A2 R' j=A2 st.regs j) (d:∀j,Lv (A2 st.regs) j->Lv (A2 R') j/\rho' j=rho j) (q:∀j,¬Lv (A2 st.regs) j->Lv (A2 R') j->1000<=j)
 (t:∀j r b,D j->A2 R' j≠some (.yld r b))
 (f:∀j o b,D j->A2 R' j=some o->D3 (rho' j) o b->∃i oi,D i/\A2 st.regs i=some oi/\D3 (rho i) oi b)
 (l:∀i j oi oj b,D i->D j->A2 R' i=some oi->A2 R' j=some oj->D3 (rho' i) oi b->D3 (rho' j) oj b->i=j)
 (g:∀i oi,D i->A2 st.regs i=some oi->∀off,EW oi off)
 (y:(∀b off,Prv C.X (A2 R') rho' b off->Prv C.X (A2 st.regs) rho b off)->Keeps w (Prv C.X (A2 st.regs) rho) w (Prv C.X (A2 R') rho')->∀j o,D j->A2 R' j=some o->HoldsO w (Prv C.X (A2 R') rho') (Lv (A2 R')) rho' (rho' j) o) :
 Sat C ⟨st.env,R'⟩ a w rho' /\ ∀b off,Prv C.X (A2 R') rho' b off->Prv C.X (A2 st.regs) rho b off:=by
 have s:∀b off,Prv C.X (A2 R') rho' b off->Prv C.X (A2 st.regs) rho b off:=by
  rintro b off (z|⟨j,o,m,hb,hp⟩)
  .exact .inl z
  by_cases n:D j
  .obtain⟨i,oi,h1,u,h3⟩:=f j o b n m hb;exact .inr ⟨i,oi,u,h3,g i oi h1 u off⟩
  rw[c j n]at m;rw[(d j (by simp[Lv,m])).2]at hb;exact .inr ⟨j,o,m,hb,hp⟩
 exact⟨(hs.step D c d (Wp _) q t (fun _ _ _=>rfl) (fun j o b n m hb=>.inl (f j o b n m hb)) l
  (fun i oi b off v n x hb hp hc=>Ba (.inr ⟨i,oi,x,hb,g i oi n x off⟩) hp) (y s)).1,s⟩
end
section
variable {P:Program}{C:Ctx}{st:St}{a:Act}{w:World}{rho:Nat->Value}{o:Oper}{out:Out}{d:Nat}
theorem AI {regs:B5}{j q:Nat}{o:Obj}(h:Lv (A2 regs) q):Lv (A2 (ins j o regs)) q:=by
 unfold Lv;rw[A3];split
 .rfl
 exact h
theorem AJ {regs:B5}{j q:Nat}{o:Obj}(h:Lv (A2 (ins j o regs)) q):j=q \/ Lv (A2 regs) q:=by
 unfold Lv at h;rw[A3]at h;split at h
 .exact .inl ‹_›
 exact .inr h
theorem Hy {regs:B5}{q:Nat}{o:Obj}(h:A2 regs q=some o):Lv (A2 regs) q:=by unfold Lv;rw[h];rfl
theorem Cd {w:World}{p q:Nat->Nat->Prop}(h:∀b o,q b o->p b o):Keeps w p w q:=fun b o v hp hc=>⟨hc,fun a=>hp (h b o a)⟩
theorem Qp {e:TypeId}{n jr:Nat}{x:Option (Nat×AV)}{Pi Pi' : Nat->Nat->Prop}{live live' : Nat->Prop}{rho' : Nat->Value}{v:Value}(h:HoldsC w Pi live rho v (.fam e n jr x)) :∃c:Array Value,HoldsC w Pi' live' rho' v (.vec e 1 n (fun i=>[.v (c.getD i undef)]) false)/\(∃rv,live jr/\rho jr=.agg rv/\∀i,i<n->(x.map (·.1)≠some i->c.getD i undef=rv.getD i undef)) /\
  ∀i y,x=some (i,y)->0<n->RepA w Pi live rho (c.getD i undef) y:=by
 obtain⟨rv,l1,l2,h⟩:=h;rcases h with⟨h,d⟩ | ⟨b,cap,c,g1,g2,g3,g4,g5,g6,g7⟩
 .exact⟨#[],.inl ⟨h,d⟩,⟨rv,l1,l2,fun i a=>by omega⟩,fun i y _ h=>by omega⟩
 refine⟨c,.inr ⟨b,cap,c,g1,g2,g3,by omega,g5,fun _ _=>rfl,fun i l a hl=>?_⟩,⟨rv,l1,l2,fun i a=>(g6 i a).2⟩,fun i y hx _=>?_⟩
 .obtain rfl:l=0:=by omega
  rw[Xk,Xm];exact⟨.v _,(g6 i a).1⟩
 subst hx;exact g7
theorem Qq (h:Sat C st a w rho){c:Call}(hc:c.callee=.builtin .append)(g:o.op=.call c)(he:aop P st.env st.regs d o.op=some out)(a5:C4 out.cond):OpOk P C o st a w rho out:=by
 by_cases hF:∀s x e m b,c.args.toList=[s,x]->Fa st.regs e m d b (aev st.env s) (aev st.env x)=none
 .exact JB h hF hc g he a5
 simp only[Classical.not_forall,not_imp]at hF;obtain⟨s,x,e0,m0,b0,a6,hF⟩:=hF;have hJ:∃j l n jr jz y e1 e2,aev st.env s=.vec j/\aev st.env x=.vec l/\A2 st.regs (nid d 0)=none/\A2 st.regs j=some (.fam e1 n jr none)/\A2 st.regs l=some (.fam e2 1 jz (some (0,y))):=by
  unfold Fa at hF;split at hF
  .rename_i j l hs hx;split at hF
   .rename_i e1 n jr e2 jz y h1 h2 h3;exact⟨j,l,n,jr,jz,y,e1,e2,hs,hx,h1,h2,h3⟩
   exact Ba rfl hF
  exact Ba rfl hF
 obtain⟨j,l,n,jr,jz,y,e1,e2,hsv,hxv,hd,hj,hl⟩:=hJ;obtain⟨callee,args,types⟩:=c;simp only at hc;subst hc;rw[g]at he;simp only at a6;simp only[aop,a6]at he;split at he
 .rename_i s' x' t t2 hs' htypes;cases hs';split at he
  .rename_i e k2 ht ht2;split at he
   .rename_i m z hk2 hm hz;have hel:X0 st.regs m (.vec l)=none:=by simp only[X0,hl]
    simp only[hsv,hxv,hd,hel]at he;by_cases hzm:z.length=m
    case neg=>rw[show famB P e z m=0 by unfold famB;rw[show (z.length==m)=false by simpa using hzm]]at he;simp[Fa,hd,hj,hl]at he
    rw[show famB P e z m=Ag P e by unfold famB;rw[show (z.length==m)=true by simpa using hzm]]at he;simp only[Fa,hd,hj,hl]at he;split at he
    .rename_i c1 v1 R1 hif;split at hif
     .rename_i hif';obtain⟨⟨⟨he1,he2⟩,hm1,hby⟩,hne⟩:=hif';subst hm1;rw[he1]at hj;rw[he2]at hl;cases hif;cases he;have hzl:z.length=1:=hzm;have a5:C4 [(n+1)*Ag P e<=140737488355328/\n+1<=140737488355328]:=a5;have hnj:nid d 0≠j:=by rintro h;rw[h,hj]at hd;cases hd
      have hnl:nid d 0≠l:=by rintro h;rw[h,hl]at hd;cases hd
      obtain⟨cj,f1,⟨rv,l1,l2,f3⟩,_⟩:=Qp (Pi:=Prv C.X (A2 st.regs) rho) (live:=Lv (A2 st.regs)) (Pi':=fun _ _=>False) (live':=fun _=>False) (rho':=rho) (h.hp.holds j _ hj);obtain⟨cl,k1,_,k3⟩:=Qp (Pi:=Prv C.X (A2 st.regs) rho) (live:=Lv (A2 st.regs)) (Pi':=fun _ _=>False) (live':=fun _=>False) (rho':=rho) (h.hp.holds l _ hl);have k3:=k3 0 y rfl (by omega);obtain⟨R',hR'⟩:∃R' : B5,R' = ins l (.vec e 1 1 (fun i=>[.v (cl.getD i undef)]) false) (ins j (.vec e 1 n (fun i=>[.v (cj.getD i undef)]) false) st.regs):=⟨_,rfl⟩;have a0:∀q,A2 R' q=if l=q then some (.vec e 1 1 (fun i=>[.v (cl.getD i undef)]) false)else if j=q then some (.vec e 1 n (fun i=>[.v (cj.getD i undef)]) false)else A2 st.regs q:=fun q=>by rw[hR',A3,A3]
      have hwas:∀q o b,(q=j \/ q=l)->A2 R' q=some o->D3 (rho q) o b->∃oi,A2 st.regs q=some oi/\D3 (rho q) oi b:=by
       intro q o b f g hb;rw[a0]at g;split at g
       .rename_i h1;subst h1;cases g;exact⟨_,hl,hb⟩
       rename_i h1;obtain rfl:q=j:=f.resolve_right fun h=>h1 h.symm;rw[Au rfl]at g;cases g;exact⟨_,hj,hb⟩
      obtain⟨h2,h3⟩:=h.re (fun q=>q=j \/ q=l) (R':=R') (rho':=rho)
       (fun q f=>by rw[a0,Ay (fun h=>f (.inr h.symm)),Ay (fun h=>f (.inl h.symm))]) (fun q f=>⟨by rw[hR'];exact AI (AI f),rfl⟩)
       (fun q f a4=>by
        rw[hR']at a4;rcases AJ a4 with rfl|a4
        .exact Ba (Hy hl) f
        rcases AJ a4 with rfl|a4
        .exact Ba (Hy hj) f
        exact Ba a4 f)
       (fun q r b f=>by rw[a0];rcases f with rfl|rfl<;>simp[hne,WN hne])
       (fun q o b f g hb=>by obtain⟨oi,h,h'⟩:=hwas q o b f g hb;exact⟨q,oi,f,h,h'⟩)
       (fun q q' o o' b f a4 g ho' hb hb'=>by obtain⟨o1,g1,g2⟩:=hwas q o b f g hb;obtain⟨o2,g3,g4⟩:=hwas q' o' b a4 ho' hb';exact h.hp.sep q q' o1 o2 b g1 g3 g2 g4)
       (fun q o f g off=>by
        rcases f with rfl|rfl
        .rw[hj]at g;cases g;trivial
        rw[hl]at g;cases g;trivial)
       (fun _ hk q o f g=>by
        rw[a0]at g;split at g
        .rename_i h1;subst h1;cases g;rcases k1 with h|⟨b,cap,c,g1,g2,g3,g4,g5,g6,g7⟩
         .exact .inl h
         exact .inr ⟨b,cap,c,g1,g2,g3,g4,g5,g6,fun i l hi hl=>by
          have:=g7 i l hi hl
          obtain rfl:l=0:=by omega
          exact⟨this.1.toV ▸ .v _,this.2⟩⟩
        rename_i h1;obtain rfl:q=j:=f.resolve_right fun h=>h1 h.symm;rw[Au rfl]at g;cases g;rcases f1 with h|⟨b,cap,c,g1,g2,g3,g4,g5,g6,g7⟩
        .exact .inl h
        exact .inr ⟨b,cap,c,g1,g2,g3,g4,g5,g6,fun i l hi hl=>by
         have:=g7 i l hi hl
         obtain rfl:l=0:=by omega
         exact⟨this.1.toV ▸ .v _,this.2⟩⟩)
      have hd' : A2 R' (nid d 0)=none:=by rw[a0,Ay (WN hnl),Ay (WN hnj)];exact hd
      have hj' : A2 R' j=some (.vec e 1 n (fun i=>[.v (cj.getD i undef)]) false):=by rw[a0,Ay (WN hne),Au rfl]
      have hl' : A2 R' l=some (.vec e 1 1 (fun i=>[.v (cl.getD i undef)]) false):=by rw[a0,Au rfl]
      have hop:=JB (P:=P) (o:=o) (d:=d) (out:=⟨[(n+1)*Ag P e<=140737488355328/\n+1<=140737488355328],.vec (nid d 0),ins (nid d 0) (.vec e 1 (n+1) (V7 n (fun i=>[.v (cj.getD i undef)]) fun i=>[.v (cl.getD i undef)]) false) (ins j .dead R')⟩) h2
       (c:=⟨.builtin .append,args,types⟩) (fun s1 x1 e3 m3 b3 hx1=>by rw[a6]at hx1;cases hx1;simp only[hsv,hxv,Fa,hd',hj']) rfl g
       (by rw[g];simp only[aop,a6,htypes,ht,ht2,hk2,hm,hz,hsv,hxv,hd',X0,Kb,hj',hl',Be,and_self,hzl,hby]) a5
      obtain⟨nx,v,w',rho1,p1,p2,p3,p4,p5⟩:=hop;have u:∀q,Lv (A2 st.regs) q->Lv (A2 R') q:=fun q f=>by rw[hR'];exact AI (AI f)
      have hrj:rho1 jr=.agg rv:=(p4.live jr (u jr l1)).2.trans l2;have hx:∃Rz:B5,Rz=ins (nid d 0) (.fam e (n+1) jr (some (n,y))) (ins l .dead (ins j .dead st.regs)):=⟨_,rfl⟩;obtain⟨Rz,hRz⟩:=hx;have hgz:∀q,A2 Rz q=if nid d 0=q then some (.fam e (n+1) jr (some (n,y)))else if l=q then some .dead else if j=q then some .dead else A2 st.regs q:=fun q=>by rw[hRz,A3,A3,A3]
      obtain⟨Ry,hRy⟩:∃Ry:B5,Ry=ins (nid d 0) (.vec e 1 (n+1) (V7 n (fun i=>[.v (cj.getD i undef)]) fun i=>[.v (cl.getD i undef)]) false) (ins j .dead R'):=⟨_,rfl⟩;have hgy:∀q,A2 Ry q=if nid d 0=q then some (.vec e 1 (n+1) (V7 n (fun i=>[.v (cj.getD i undef)]) fun i=>[.v (cl.getD i undef)]) false)else if j=q then some .dead else if l=q then some (.vec e 1 1 (fun i=>[.v (cl.getD i undef)]) false)else A2 st.regs q:=fun q=>by
       rw[hRy,A3,A3,a0];by_cases h1:nid d 0=q
       .rw[Au h1,Au h1]
       rw[Ay h1,Ay h1];by_cases h2:j=q
       .rw[Au h2,Au h2]
       rw[Ay h2,Ay h2,Ay h2]
      simp only[<- hRy]at p3 p4 p5;simp only[<- hRz];have hlz:∀q,Lv (A2 Ry) q->Lv (A2 Rz) q:=fun q f=>by
       unfold Lv at f⊢;rw[hgz];rw[hgy]at f;by_cases h1:nid d 0=q
       .rw[Au h1];rfl
       rw[Ay h1]at f⊢;by_cases h2:l=q
       .rw[Au h2];rfl
       rw[Ay h2];by_cases h3:j=q
       .rw[Au h3];rfl
       rw[Ay h3,Ay h2]at f;rw[Ay h3];exact f
      have hlz' : ∀q,Lv (A2 Rz) q->Lv (A2 Ry) q:=fun q f=>by
       unfold Lv at f⊢;rw[hgy];rw[hgz]at f;by_cases h1:nid d 0=q
       .rw[Au h1];rfl
       rw[Ay h1]at f⊢;by_cases h3:j=q
       .rw[Au h3];rfl
       rw[Ay h3];by_cases h2:l=q
       .rw[Au h2];rfl
       rw[Ay h2,Ay h3]at f;rw[Ay h2];exact f
      obtain⟨q2,q3⟩:=p3.re (fun q=>q=nid d 0 \/ q=l) (R':=Rz) (rho':=rho1)
       (fun q f=>by
        show A2 Rz q=A2 Ry q;have a1:¬nid d 0=q:=fun h=>f (.inl h.symm);have a2:¬l=q:=fun h=>f (.inr h.symm);rw[hgz,hgy,Ay a1,Ay a1,Ay a2];by_cases a3:j=q
        .rw[Au a3,Au a3]
        rw[Ay a3,Ay a3,Ay a2]) (fun q f=>⟨hlz q f,rfl⟩)
       (fun q f a4=>Ba (hlz' q a4) f)
       (fun q r b f=>by rw[hgz];rcases f with rfl|rfl<;>simp[hnl])
       (fun q o b f g hb=>by
        rw[hgz]at g;split at g
        .rename_i h1;subst h1;cases g;exact⟨_,_,.inl rfl,(hgy (nid d 0)).trans (Au rfl),hb⟩
        rename_i h1;obtain rfl:q=l:=f.resolve_left fun h=>h1 h.symm;rw[Au rfl]at g;cases g;cases hb)
       (fun q q' o o' b f a4 g ho' hb hb'=>by
        have key:∀q o,(q=nid d 0 \/ q=l)->A2 Rz q=some o->D3 (rho1 q) o b->q=nid d 0:=by
         intro q o f g hb;rcases f with h1|h1
         .exact h1
         rw[h1,hgz,Ay hnl,Au rfl]at g;have g:=Ww g;subst g;exact Ba hb (by simp[D3,J4])
        rw[key q o f g hb,key q' o' a4 ho' hb'])
       (fun q o f g off=>by
        replace g:A2 Ry q=some o:=g;rw[hgy]at g;rcases f with h1|h1
        .rw[Au h1.symm]at g;have g:=Ww g;subst g;trivial
        rw[h1,Ay hnl,Ay hne,Au rfl]at g;have g:=Ww g;subst g;trivial)
       (fun hpi hk q o f g=>by
        rw[hgz]at g;split at g
        .rename_i h1;subst h1;cases g;refine⟨rv,hlz jr (p4.live jr (u jr l1)).1,hrj,?_⟩;have hh:=p3.hp.holds (nid d 0) _ (by show A2 Ry _=_;rw[hgy,Au rfl]);rcases hh with⟨_,h0⟩ | ⟨b,cap,c,g1,g2,g3,g4,g5,g6,g7⟩
         .omega
         have hc:∀i,i<n+1->c.getD i undef=(if i<n then cj.getD i undef else cl.getD (i-n) undef)/\(c.getD i undef).oneCell' = true:=by
          intro i hi
          have:=g7 i 0 hi (by omega)
          rw[Xk,Xm]at this;refine⟨?_,this.2⟩;have h5:=this.1;unfold V7 at h5;split at h5
          .rename_i h6;rw[Au h6];exact h5.toV
          rename_i h6;rw[Ay h6];exact h5.toV
         refine .inr ⟨b,cap,c,g1,g2,g3,by omega,g5,fun i hi=>⟨(hc i hi).2,fun hx=>?_⟩,?_⟩
         .have hin:i<n:=by
           have:i≠n:=fun h=>hx (by rw[h];rfl)
           omega
          rw[(hc i hi).1,Au hin];exact f3 i hin (by simp)
         show RepA w' _ _ rho1 (c.getD n undef) y;rw[(hc n (by omega)).1,Ay (by omega),Nat.sub_self];exact k3.keeps ((Cd h3).trans (p4.keeps.trans hk)) fun q f=>⟨hlz q (p4.live q (u q f)).1,(p4.live q (u q f)).2⟩
        rename_i h1;obtain rfl:q=l:=f.resolve_left fun h=>h1 h.symm;rw[Au rfl]at g;cases g;trivial)
      refine⟨nx,v,w',rho1,p1,p2,q2,⟨(Cd h3).trans (p4.keeps.trans (Cd q3)),fun q f=>⟨hlz q (p4.live q (u q f)).1,(p4.live q (u q f)).2⟩⟩,?_⟩;exact p5.keeps (Cd q3) fun q f=>⟨hlz q f,rfl⟩
     cases hif
    cases he
   cases he
  cases he
 cases he
theorem Kl (h:Sat C st a w rho){t:TypeId}{n:Nat}{parts:Array (Nat×Operand)}(s:o.op=.buildSlice t n parts)(he:aop P st.env st.regs d o.op=some out)(hc:C4 out.cond):OpOk P C o st a w rho out:=by
 cases u:Fb st.regs n (parts.toList.map fun q=>(q.1,aev st.env q.2))with
 |none=>exact Ee h u s he hc
 |some p=>
  obtain⟨jz,j⟩:=p;have hJ:∃x e1 k m f r g,parts.toList=[(0,x)]/\aev st.env x=.vec j/\n=1/\A2 st.regs j=some (.vec e1 k m f false)/\A2 st.regs jz=some (.rows r g):=by
   cases hp:parts.toList with
   |nil=>rw[hp]at u;simp[Fb]at u
   |cons p1 ps=>
    obtain⟨i,x⟩:=p1;rw[hp]at u;cases ps with
    |cons p2 ps=>simp[Fb]at u
    |nil=>
     simp only[WA,XB]at u;unfold Fb at u;split at u
     .rename_i hx;rename_i j1;simp only[Xd,We,and_true]at hx;obtain⟨rfl,hx⟩:=hx;split at u
      .rename_i h1 h2;split at u
       .rename_i h3;split at u
        .rename_i h4;simp only[VX,We]at u;obtain⟨rfl,rfl⟩:=u;exact⟨x,_,_,_,_,_,_,rfl,hx,h4,h1,h3⟩
        cases u
       cases u
      cases u
     cases u
  obtain⟨x,e1,k,m,f,r,g,a0,hx,rfl,hj,hjz⟩:=hJ;rw[s]at he;simp only[aop,u]at he;split at he
  .rename_i e hk hd;split at he
   .rename_i z hsz hz;split at he
    .rename_i hzl;cases he;obtain⟨rv,l2,_⟩:=h.hp.holds jz _ hjz;have hv:=h.aev x;rw[hx]at hv;obtain⟨b0,nn,cap,hV⟩:∃b0 nn cap,a.eval x=.slice b0 nn cap:=by
      generalize a.eval x=V at hv;cases hv with
      |vec j base nn cap hl hr=>exact⟨_,_,_,rfl⟩
     cases x with
     |const c=>cases hx
     |func q=>cases hx
     |global q=>cases hx
     |tmp t0=>
     obtain⟨env',henv⟩:∃env' : Env,env' = ins t0 (.p (.v (.slice b0 nn cap))) st.env:=⟨_,rfl⟩;have h2:Sat C ⟨env',st.regs⟩ a w rho:=⟨h.toSatE,fun q=>by
      show RepA _ _ _ _ _ (get env' q);rw[henv,Hn];split
      .rename_i h1;subst h1;rw[show a.tmps.getD t0 undef=.slice b0 nn cap from hV];exact .p _ _ (.v _)
      exact h.env q,h.pin,h.marks⟩
     have hx' : aev env' (.tmp t0)=.p (.v (.slice b0 nn cap)):=by show get env' t0=_;rw[henv,Hn,Au rfl]
     obtain⟨Ry,hRy⟩:∃Ry:B5,Ry=ins (nid d 0) (.vec e 1 1 (B8 z [(0,[.v (.slice b0 nn cap)])]) false) st.regs:=⟨_,rfl⟩;have hop:=Ee (P:=P) (o:=o) (d:=d) (st:=⟨env',st.regs⟩) (out:=⟨[BZ 1 1 [0] [.v (.slice b0 nn cap)]=true],.vec (nid d 0),Ry⟩) h2
      (by rw[a0];simp only[WA,XB,hx'];rfl) s
      (by
       rw[s];have h3:Fb st.regs 1 ([(0,Operand.tmp t0)].map fun q=>(q.1,aev env' q.2))=none:=by simp only[WA,XB,hx'];rfl
       have h4:BJ st.regs ([(0,Operand.tmp t0)].map fun (q:Nat×Operand)=>aev env' q.2)=some ([.v (.slice b0 nn cap)],st.regs):=by simp only[WA,XB,hx'];rfl
       simp only[aop,a0,h3,hk,hd,h4,hsz,hz];rw[Au ⟨⟨by omega,by omega⟩,hzl⟩,hRy];rfl)
      (show BZ 1 1 [0] [.v (.slice b0 nn cap)]=true from rfl)
     obtain⟨nx,v,w',rho1,p1,p2,p3,p4,p5⟩:=hop;have a1:∀q,A2 Ry q=if nid d 0=q then some (.vec e 1 1 (B8 z [(0,[.v (.slice b0 nn cap)])]) false)else A2 st.regs q:=fun q=>by rw[hRy,A3]
     obtain⟨Rz,hRz⟩:∃Rz:B5,Rz=ins (nid d 0) (.fam e 1 jz (some (0,.vec j))) st.regs:=⟨_,rfl⟩;have a2:∀q,A2 Rz q=if nid d 0=q then some (.fam e 1 jz (some (0,.vec j)))else A2 st.regs q:=fun q=>by rw[hRz,A3]
     simp only[<- hRz];have y:∀q,Lv (A2 Ry) q↔Lv (A2 Rz) q:=fun q=>by
      unfold Lv;rw[a1,a2];split
      .exact⟨fun _=>rfl,fun _=>rfl⟩
      exact XQ
     have hrz:rho1 jz=.agg rv:=(p4.live jz (Hy hjz)).2.trans l2;obtain⟨q2,q3⟩:=p3.re (fun q=>q=nid d 0) (R':=Rz) (rho':=rho1)
      (fun q l=>by show A2 Rz q=A2 Ry q;rw[a2,a1,Ay (fun h=>l h.symm),Ay (fun h=>l h.symm)]) (fun q l=>⟨(y q).1 l,rfl⟩)
      (fun q l hq'=>Ba ((y q).2 hq') l)
      (fun q r b l=>by rw[a2,l,Au rfl];simp)
      (fun q o b l s hb=>by subst l;rw[a2,Au rfl]at s;have s:=Ww s;subst s;exact⟨_,_,rfl,(a1 (nid d 0)).trans (Au rfl),hb⟩)
      (fun q q' o o' b l hq' _ _ _ _=>l.trans hq'.symm)
      (fun q o l s off=>by replace s:A2 Ry q=some o:=s;rw[a1,Au l.symm]at s;have s:=Ww s;subst s;trivial)
      (fun hpi hk q o l s=>by
       subst l;rw[a2,Au rfl]at s;have s:=Ww s;subst s;refine⟨rv,(y jz).1 (p4.live jz (Hy hjz)).1,hrz,?_⟩;have hh:=p3.hp.holds (nid d 0) _ (by show A2 Ry _=_;rw[a1,Au rfl]);rcases hh with⟨_,h0⟩ | ⟨b,cap',c,g1,g2,g3,g4,g5,g6,g7⟩
       .omega
       have h0:=g7 0 0 (by omega) (by omega);refine .inr ⟨b,cap',c,g1,g2,g3,by omega,g5,fun i hi=>?_,?_⟩
       .obtain rfl:i=0:=by omega
        exact⟨h0.2,fun hx=>Ba rfl hx⟩
       show RepA w' _ _ rho1 (c.getD 0 undef) (.vec j);have h1:c.getD 0 undef=.slice b0 nn cap:=RepP.toV h0.1;rw[h1,<- hV];exact hv.keeps (p4.keeps.trans hk) fun q l=>⟨(y q).1 (p4.live q l).1,(p4.live q l).2⟩)
     refine⟨nx,v,w',rho1,p1,p2,⟨q2.toSatE,fun q=>?_,q2.pin,q2.marks⟩,⟨p4.keeps.trans (Cd q3),fun q l=>⟨(y q).1 (p4.live q l).1,(p4.live q l).2⟩⟩,?_⟩
     .exact (h.env q).keeps (p4.keeps.trans (Cd q3)) fun q l=>⟨(y q).1 (p4.live q l).1,(p4.live q l).2⟩
     exact p5.keeps (Cd q3) fun q l=>⟨(y q).1 l,rfl⟩
    cases he
   cases he
  cases he
end
end Go.AM
namespace Go.AM
section
variable {P:Program}{C:Ctx}{st:St}{a:Act}{w:World}{rho:Nat->Value}{o:Oper}{out:Out}{d:Nat}
theorem Qr (h:Sat C st a w rho)(g:aop P st.env st.regs d o.op=some out)(hc:C4 out.cond):OpOk P C o st a w rho out:=by
 cases j:o.op with
 |move x=>rw[j]at g;simp only[aop,VX]at g;subst g;exact Qe h (.inl j) rfl rfl
 |assign x=>rw[j]at g;simp only[aop,VX]at g;subst g;exact Qe h (.inr j) rfl rfl
 |pick c x y=>exact Tw h j g
 |alloc t=>exact Ru h j g
 |box t x=>exact UK h j g
 |build t ps=>exact RE h j g
 |buildSlice t n ps=>exact Kl h j g hc
 |load t x=>exact Tx h j g hc
 |store t x y=>exact Rv h j g hc
 |nilCheck x=>exact MT h j g
 |binOp op t x y yt=>exact RD h j g hc
 |unOp op t x=>exact Ty h j g
 |convert s t x=>exact OX h j g hc
 |makeInterface t x=>exact GN h j g
 |makeFunc f x y=>
  cases f with
  |func f=>exact MU h j g
  |_=>rw[j]at g;simp[aop]at g
 |makeMap t r=>
  cases r with
  |none=>exact OV h j g
  |some r=>rw[j]at g;simp[aop]at g
 |makeSlice t l c=>exact LF h j g hc
 |slice t x lo hi mx=>
  cases mx with
  |none=>exact RB h j g hc
  |some r=>rw[j]at g;simp[aop]at g
 |fieldAddr t x f=>exact Ly h j g
 |field t x f=>exact Rw h j g hc
 |indexAddr t x i=>exact LB h j g hc
 |index t x i=>exact RA h j g hc
 |lookup t m k ok=>exact Qo h j g hc
 |mapUpdate t m k x=>exact LK h j g hc
 |mapEntry t m k=>exact MZ h j g hc
 |entryStore t m s x=>exact Kk h j g hc
 |extract x i=>exact OU h j g
 |call c=>
  obtain⟨callee,args,types⟩:=c;cases callee with
  |builtin b=>
   cases b with
   |len=>exact UL (c:=⟨.builtin .len,args,types⟩) h rfl j g
   |append=>exact Qq (c:=⟨.builtin .append,args,types⟩) h rfl j g hc
   |min=>exact Lz (c:=⟨.builtin .min,args,types⟩) h (.inl rfl) j g
   |max=>exact Lz (c:=⟨.builtin .max,args,types⟩) h (.inr rfl) j g
   |_=>rw[j]at g;simp[aop]at g
  |_=>rw[j]at g;simp[aop]at g
 |_=>rw[j]at g;simp[aop]at g
end
structure Rel (C:Ctx) (w:World) (O:Nat->Prop) (V:Nat->Nat->Prop):Prop where
 ext:Ext C.w0 w
 size:C.w0.heap.size<=w.heap.size
 same:∀b,b<C.w0.heap.size->¬C.E0 b->w.heap[b]? = C.w0.heap[b]?
 keep:Keeps C.w0 C.Pi0 w (fun b o=>C.X b o \/ V b o)
 own:∀b,O b->C.E0 b \/ C.w0.heap.size<=b
 out:∀b off,O b->¬C.X b off
 lt:∀b,O b->b<w.heap.size
 bnd:∀b off,C.X b off->b<w.heap.size
 vo:∀b o,V b o->O b
def UM (P:Program)(yv:Value)(vs:Array Value)(w:World)(R:Bool->World->Prop):Prop:= ∃l fn tmps assign body,yv=.func (.yield l) #[] #[]/\(Instr.yield l vs).run P w=.ok (.round l fn tmps assign body) w /\ RoundIn Fence.wide 0 P l fn tmps assign body w fun e w'=>∃b:Bool,e=.returned (.bool b)/\R b w'
def NZ (s:String):List Value:=if s == "math/bits.deBruijn64tab" then Lib.deBruijn64tab.map fun n=>.int .u8 (n:Nat)else []
def TabOk (P:Program)(w:World)(Pi:Nat->Nat->Prop):Prop:=∀(g:Nat) (s:Global) (j:Nat) (v:Value),P.globals[g]? = some s->(NZ s.name)[j]? = some v->w.cell? ⟨g,j,none⟩=some v/\¬Pi g j
theorem TabOk.keeps {P:Program}{w w' : World}{Pi Pi' : Nat->Nat->Prop}(h:TabOk P w Pi)(hk:Keeps w Pi w' Pi'):TabOk P w' Pi':=fun g s j v hs a=>hk g j v (h g s j v hs a).2 (h g s j v hs a).1
structure Prot (P:Program) where
 G:Ctx->Prop
 tab:∀C,G C->TabOk P C.w0 C.Pi0
 call:∀(C:Ctx) (w:World) (O:Nat->Prop) (V:Nat->Nat->Prop) (ys:List PV) (rest:List (List PV)) (vs:Array Value),G C->Rel C w O V->C.Y (ys::rest) true->vs.size=ys.length ->
  (∀i,i<ys.length->RepP w (fun b o=>C.X b o \/ V b o) (vs.getD i undef) (ys.getD i default)) ->
  UM P C.yv vs w fun b w'=>∃C',G C' /\ C'.yv=C.yv/\C'.rho0=C.rho0/\C'.Y (if b then rest else []) b/\C'.w0=w' /\ C'.E0=O/\(C'.Pi0=fun b o=>C'.X b o \/ V b o)/\Rel C' w' O V /\
   (∀b,O b->w'.heap[b]? = w.heap[b]?)/\Keeps w (fun b o=>C.X b o \/ V b o) w' (fun b o=>C'.X b o \/ V b o)/\w.heap.size<=w'.heap.size/\Ext w w'
def Prot.triv (P:Program)(C:Ctx)(a:∀r b,¬C.Y r b)(c:TabOk P C.w0 C.Pi0):Prot P:=
 ⟨fun C'=>C' = C,fun C' h=>h ▸ c,fun C' w O V ys rest vs d hR f=>by subst d;exact Ba f (a _ _)⟩
def Na (l:List Deferred)(b:Nat):Prop:=({ target:=.collected b,args:=#[] }:Deferred)∈l
def PvR (R:B5)(rho:Nat->Value)(b off:Nat):Prop:=∃j o,A2 R j=some o/\D3 (rho j) o b/\EW o off
def MH (R:B5)(rho:Nat->Value)(l:List Deferred)(b:Nat):Prop:=Own (A2 R) rho b \/ Na l b
def CallF (P:Program)(f:FuncId)(vs:Array Value)(w:World)(R:Ending->World->Prop):Prop:=
 ∃nx w1,(callFunc f vs).run P w=.ok nx w1/\match nx with
  |.enter f' as=>CallsIn Fence.wide 0 P f' as w1 R
  |.value v=>R (.returned v) w1
  |.row row as=>RowsIn Fence.wide 0 P row as w1 fun v w'=>R (.returned v) w'
  |_=>False
theorem CallF.mono {P:Program}{f:FuncId}{vs:Array Value}{w:World}{R R' : Ending->World->Prop}(h:CallF P f vs w R)(b:∀e w',R e w' -> R' e w'):CallF P f vs w R':=by
 obtain⟨nx,w1,h1,a⟩:=h;refine⟨nx,w1,h1,?_⟩;cases nx with
 |enter f' as=>exact a.mono b
 |value v=>exact b _ _ a
 |row row as=>exact RowsIn.mono a fun v w'=>b _ _
 |_=>exact a
def ST (w:World)(Pi:Nat->Nat->Prop)(live:Nat->Prop)(rho:Nat->Value)(e:Ending):Hi->Prop
 |.ret a=>∃v,e=.returned v/\RepA w Pi live rho v a
 |.panic x=>∃v,e=.panicked [{ v,recovered:=false }]/\RepP w Pi v x
def SemF (P:Program)(f:FuncId)(args:List AV)(objs:List Obj)(Q:Hi->List Obj->List Bool->Prop):Prop:= ∀(𝒢 : Prot P) (C:Ctx) (w:World) (vs:Array Value) (rho:Nat->Value),𝒢.G C->Sat C ⟨argEnv args,objRegs objs⟩ ⟨vs,[]⟩ w rho->vs.size=args.length -> CallF P f vs w fun e w'=>∃C' r objs' ks rho', 𝒢.G C' /\ Q r objs' ks/\SatE C' (objRegs objs') w' rho' /\ ST w' (Prv C'.X (A2 (objRegs objs')) rho') (Lv (A2 (objRegs objs'))) rho' e r/\∀i:Nat,ks[i]? = some true->i<objs'.length/\rho' i=rho i
def semUp (st:St)(K:St->Prop):Prop:=∀C a w rho,Sat C st a w rho->∃st' rho',K st' /\ (∀b off,Prv C.X (A2 st'.regs) rho' b off->Prv C.X (A2 st.regs) rho b off)/\Sat C st' a w rho'
def DO (P:Program):O7:=⟨SemF P,semUp⟩
end Go.AM
namespace Go.AM
section
variable {w w' : World}{Pi Pi' : Nat->Nat->Prop}{live live' : Nat->Prop}{rho rho' : Nat->Value}
theorem I0:∀{ids:List Nat}{j p:Nat},idx ids j=some p->ids[p]? = some j
 |[],j,p,h=>by simp[idx]at h
 |i::r,j,p,h=>by
  simp only[idx]at h;split at h
  .rename_i e;cases h;simp[e]
  split at h
  .rename_i n hn;cases h;simpa using I0 hn
  cases h
theorem Y1 {ids:List Nat}:∀{l l' : List AV},AD ids l=some l' -> l.length=l'.length/\∀i,i<l.length->Lj ids (l.getD i .top)=some (l'.getD i .top)
 |[],l',h=>by simp only[AD,VX]at h;subst h;exact⟨rfl,fun i b=>Ba b (by simp)⟩
 |a::r,l',h=>by
  simp only[AD]at h;split at h
  .rename_i a' r' ha c;cases h;obtain⟨h1,d⟩:=Y1 c;refine⟨by simp[h1],fun i b=>?_⟩;cases i with
   |zero=>simpa using ha
   |succ i=>simpa using d i (by simpa using b)
  cases h
theorem JF {ids:List Nat}:∀{l:List AV},unL ids l=l.map (unA ids)
 |[]=>rfl
 |a::r=>by simp only[unL,WA,JF]
theorem RepA.ren {ids:List Nat}(hk:Keeps w Pi w' Pi')(g:∀p j,ids[p]? = some j->live j->live' p/\rho' p=rho j){v:Value}{a:AV}(h:RepA w Pi live rho v a):∀{a' : AV},Lj ids a=some a' -> RepA w' Pi' live' rho' v a':=by
 induction h with
 |p v x h=>intro a' c;simp only[Lj,VX]at c;subst c;exact .p _ _ (h.nP.keeps hk)
 |reg j off b hl h=>
  intro a' c;simp only[Lj]at c;split at c
  .rename_i p hp;cases c;obtain⟨h1,d⟩:=g p j (I0 hp) hl;exact .reg p off b h1 (d.trans h)
  cases c
 |vec j base n cap hl h=>
  intro a' c;simp only[Lj]at c;split at c
  .rename_i p hp;cases c;obtain⟨h1,d⟩:=g p j (I0 hp) hl;exact .vec p base n cap h1 (d.trans h)
  cases c
 |vecp j m base n cap hl h hm=>
  intro a' c;simp only[Lj]at c;split at c
  .rename_i p hp;cases c;obtain⟨h1,d⟩:=g p j (I0 hp) hl;exact .vecp p m base n cap h1 (d.trans h) hm
  cases c
 |elt j k i off b n cap hl h=>
  intro a' c;simp only[Lj]at c;split at c
  .rename_i p hp;cases c;obtain⟨h1,d⟩:=g p j (I0 hp) hl;exact .elt p k i off b n cap h1 (d.trans h)
  cases c
 |mref j r hl h=>
  intro a' c;simp only[Lj]at c;split at c
  .rename_i p hp;cases c;obtain⟨h1,d⟩:=g p j (I0 hp) hl;exact .mref p r h1 (d.trans h)
  cases c
 |clo f x y a b hx hy ha hb iha ihb=>
  intro a' c;simp only[Lj]at c;split at c
  .rename_i a2 b2 h1 d;cases c;obtain⟨l1,g1⟩:=Y1 h1;obtain⟨l2,g2⟩:=Y1 d;exact .clo f x y a2 b2 (hx.trans l1) (hy.trans l2) (fun i o=>iha i (by omega) (g1 i (by omega))) fun i o=>ihb i (by omega) (g2 i (by omega))
  cases c
 |tup x a hx ha ih=>
  intro a' c;simp only[Lj]at c;split at c
  .rename_i a2 h1;cases c;obtain⟨l1,g1⟩:=Y1 h1;exact .tup x a2 (hx.trans l1) fun i o=>ih i (by omega) (g1 i (by omega))
  cases c
 |agr x a hx h1' ha ih=>
  intro a' c;simp only[Lj]at c;split at c
  .rename_i a2 h1;cases c;obtain⟨l1,g1⟩:=Y1 h1;exact .agr x a2 (hx.trans l1) (fun i o=>h1' i (by omega)) fun i o=>ih i (by omega) (g1 i (by omega))
  cases c
 |yf j l hl h=>
  intro a' c;simp only[Lj]at c;split at c
  .rename_i p hp;cases c;obtain⟨h1,d⟩:=g p j (I0 hp) hl;exact .yf p l h1 (d.trans h)
  cases c
 |top v=>intro a' c;simp only[Lj,VX]at c;subst c;exact .top _
theorem RepA.un {ids:List Nat}(hk:Keeps w Pi w' Pi')(o:∀p,live p->live' (ids.getD p 0)/\rho' (ids.getD p 0)=rho p){v:Value}{a:AV}(h:RepA w Pi live rho v a):RepA w' Pi' live' rho' v (unA ids a):=by
 induction h with
 |p v x h=>exact .p _ _ (h.keeps hk)
 |reg j off b hl h=>obtain⟨h1,d⟩:=o j hl;exact .reg _ off b h1 (d.trans h)
 |vec j base n cap hl h=>obtain⟨h1,d⟩:=o j hl;exact .vec _ base n cap h1 (d.trans h)
 |vecp j m base n cap hl h hm=>obtain⟨h1,d⟩:=o j hl;exact .vecp _ m base n cap h1 (d.trans h) hm
 |elt j k i off b n cap hl h=>obtain⟨h1,d⟩:=o j hl;exact .elt _ k i off b n cap h1 (d.trans h)
 |mref j r hl h=>obtain⟨h1,d⟩:=o j hl;exact .mref _ r h1 (d.trans h)
 |clo f x y a b hx hy ha hb iha ihb=>
  simp only[unA,JF];refine .clo f x y _ _ (by simpa using hx) (by simpa using hy) (fun i g=>?_) fun i g=>?_
  .have c : i<a.length:=by simpa using g
   have:=iha i c
   simpa[VW,Wb,VZ c]using this
  have c : i<b.length:=by simpa using g
  have:=ihb i c
  simpa[VW,Wb,VZ c]using this
 |tup x a hx ha ih=>
  simp only[unA,JF];refine .tup x _ (by simpa using hx) fun i g=>?_;have c : i<a.length:=by simpa using g
  have:=ih i c
  simpa[VW,Wb,VZ c]using this
 |agr x a hx h1' ha ih=>
  simp only[unA,JF];refine .agr x _ (by simpa using hx) (fun i g=>h1' i (by simpa using g)) fun i g=>?_;have c : i<a.length:=by simpa using g
  have:=ih i c
  simpa[VW,Wb,VZ c]using this
 |yf j l hl h=>obtain⟨h1,d⟩:=o j hl;exact .yf _ l h1 (d.trans h)
 |top v=>exact .top v
theorem HoldsO.ren {ids:List Nat}(hk:Keeps w Pi w' Pi')(u:∀p j,ids[p]? = some j->live j->live' p/\rho' p=rho j){h:Value}{o o' : Obj}(hb:∀b,D3 h o b->w'.heap[b]? = w.heap[b]?)(a:Kd ids o=some o')(q:HoldsO w Pi live rho h o):HoldsO w' Pi' live' rho' h o':=by
 cases o with
 |cells cs=>
  simp only[Kd]at a;split at a
  .rename_i cs' s;cases a;obtain⟨l1,g1⟩:=Y1 s;obtain⟨b,c,T,rfl,h1,l,d⟩:=q;exact⟨b,c,T,rfl,(hb b rfl).trans h1,l.trans l1,fun i m=>⟨(d i (by omega)).1.ren hk u (g1 i (by omega)),(d i (by omega)).2⟩⟩
  cases a
 |vec e k n f vw=>
  simp only[Kd,VX]at a;subst a;rcases q with hn|⟨b,cap,c,rfl,h1,l,d,v,y,z⟩
  .exact .inl hn
  exact .inr ⟨b,cap,c,rfl,(hb b rfl).trans h1,l,d,v,y,fun i j m t=>⟨(z i j m t).1.keeps hk,(z i j m t).2⟩⟩
 |map es=>simp only[Kd,VX]at a;subst a;obtain⟨b,ents,clock,rfl,h1,l,d,h9⟩:=q;exact⟨b,ents,clock,rfl,(hb b rfl).trans h1,l,fun i m=>⟨(d i m).1.keeps hk,(d i m).2.keeps hk⟩,h9⟩
 |arr n f=>simp only[Kd,VX]at a;subst a;obtain⟨b,c,T,rfl,h1,l,d⟩:=q;exact⟨b,c,T,rfl,(hb b rfl).trans h1,l,fun i m=>⟨(d i m).1.keeps hk,(d i m).2⟩⟩
 |ghost cs=>
  simp only[Kd]at a;split at a
  .rename_i cs' s;cases a;obtain⟨l1,g1⟩:=Y1 s;obtain⟨vs,rfl,h1,l⟩:=q;exact⟨vs,rfl,h1.trans l1,fun i m=>(l i (by omega)).ren hk u (g1 i (by omega))⟩
  cases a
 |yld r b=>simp only[Kd,VX]at a;subst a;exact q
 |dead=>simp only[Kd,VX]at a;subst a;trivial
 |fam e n jr x=>
  simp only[Kd]at a;split at a
  .rename_i jr' t;cases a;obtain⟨rv,g1,g2,hv⟩:=q;obtain⟨g3,g4⟩:=u _ _ (I0 t) g1;refine⟨rv,g3,g4.trans g2,?_⟩;rcases hv with hv|⟨b,cap,c,rfl,h1,l,d,v,y,z⟩
   .exact .inl hv
   exact .inr ⟨b,cap,c,rfl,(hb b rfl).trans h1,l,d,v,y,trivial⟩
  cases a
 |rows n g=>simp only[Kd,VX]at a;subst a;exact DF hk hb q
theorem Q4 {ids:List Nat}{h:Value}{o o' : Obj}(a:Kd ids o=some o'):D3 h o' = D3 h o:=by
 cases o<;>simp only[Kd]at a
 case fam=>split at a<;>cases a;rfl
 case cells=>split at a<;>cases a;rfl
 case ghost=>split at a<;>cases a;rfl
 all_goals (cases a;rfl)
theorem Fn {ids:List Nat}{o o' : Obj}(a:Kd ids o=some o')(off:Nat):EW o' off↔EW o off:=by
 cases o<;>simp only[Kd]at a
 case fam=>split at a<;>cases a;exact XQ
 case cells=>split at a<;>cases a;exact XQ
 case ghost=>split at a<;>cases a;exact XQ
 all_goals (cases a;exact XQ)
theorem HoldsO.un {ids:List Nat}(hk:Keeps w Pi w' Pi')(t:∀p,live p->live' (ids.getD p 0)/\rho' (ids.getD p 0)=rho p){h:Value}{o:Obj}(hb:∀b,D3 h o b->w'.heap[b]? = w.heap[b]?)(s:HoldsO w Pi live rho h o):HoldsO w' Pi' live' rho' h (unO ids o):=by
 cases o with
 |cells cs=>
  obtain⟨b,c,T,rfl,h1,l,a⟩:=s;simp only[unO,JF];refine⟨b,c,T,rfl,(hb b rfl).trans h1,by simpa using l,fun i m=>?_⟩;have d : i<cs.length:=by simpa using m
  refine⟨?_,(a i d).2⟩
  have:=(a i d).1.un hk t
  simpa[VW,Wb,VZ d]using this
 |vec e k n f vw=>
  rcases s with hn|⟨b,cap,c,rfl,h1,l,a,u,v,y⟩
  .exact .inl hn
  exact .inr ⟨b,cap,c,rfl,(hb b rfl).trans h1,l,a,u,v,fun i j m hj=>⟨(y i j m hj).1.keeps hk,(y i j m hj).2⟩⟩
 |map es=>obtain⟨b,ents,clock,rfl,h1,l,a,h9⟩:=s;exact⟨b,ents,clock,rfl,(hb b rfl).trans h1,l,fun i m=>⟨(a i m).1.keeps hk,(a i m).2.keeps hk⟩,h9⟩
 |arr n f=>obtain⟨b,c,T,rfl,h1,l,a⟩:=s;exact⟨b,c,T,rfl,(hb b rfl).trans h1,l,fun i m=>⟨(a i m).1.keeps hk,(a i m).2⟩⟩
 |ghost cs=>
  obtain⟨vs,rfl,h1,l⟩:=s;simp only[unO,JF];refine⟨vs,rfl,by simpa using h1,fun i m=>?_⟩;have d : i<cs.length:=by simpa using m
  have:=(l i d).un hk t
  simpa[VW,Wb,VZ d]using this
 |yld r b=>exact s
 |dead=>trivial
 |fam e n jr x=>
  obtain⟨rv,g1,g2,z⟩:=s;obtain⟨g3,g4⟩:=t _ g1;refine⟨rv,g3,g4.trans g2,?_⟩;rcases z with z|⟨b,cap,c,rfl,h1,l,a,u,v,y⟩
  .exact .inl z
  cases x with
  |none=>exact .inr ⟨b,cap,c,rfl,(hb b rfl).trans h1,l,a,u,v,trivial⟩
  |some q=>exact .inr ⟨b,cap,c,rfl,(hb b rfl).trans h1,l,a,u,v,y.un hk t⟩
 |rows n g=>exact DF hk hb s
theorem Km {ids:List Nat}{h:Value}{o:Obj}:D3 h (unO ids o)=D3 h o:=by cases o<;>rfl
theorem Qs {ids:List Nat}{o:Obj}(off:Nat):EW (unO ids o) off↔EW o off:=by cases o<;>exact XQ
theorem C5 (objs:List Obj)(j:Nat):A2 (objRegs objs) j=objs[j]?:=by
 have a:∀(objs:List Obj) (n:Nat) (acc:B5),A2 (objRegs.go n objs acc) j=if n<=j/\j<n+objs.length then objs[j-n]? else A2 acc j:=by
  intro objs
  induction objs with
  |nil=>intro n acc;simp[objRegs.go];intro h1 b;omega
  |cons o r ih=>
   intro n acc;simp only[objRegs.go,ih,A2,WI];by_cases h:n=j
   .subst h;rw[Ay (by omega),Au rfl,Au ⟨by omega,by omega⟩];simp
   by_cases h1:n+1<=j/\j<n+1+r.length
   .rw[Au h1,Au ⟨by omega,by omega⟩];obtain⟨i,rfl⟩:∃i,j=n+1+i:=⟨j-(n+1),by omega⟩;rw[show n+1+i-(n+1)=i by omega,show n+1+i-n=i+1 by omega];simp
   rw[Ay h1,Ay h,Ay (by omega)]
 unfold objRegs;rw[a];by_cases h:j<objs.length
 .rw[Au ⟨by omega,by omega⟩];simp
 rw[Ay (by omega),Wx (by omega)];rfl
theorem Q5 (args:List AV)(j:Nat):get (argEnv args) j=args.getD j .top:=by
 have a:∀(objs:List AV) (n:Nat) (acc:Env),get (argEnv.go n objs acc) j=if n<=j/\j<n+objs.length then objs.getD (j-n) .top else get acc j:=by
  intro objs
  induction objs with
  |nil=>intro n acc;simp[argEnv.go];intro h1 b;omega
  |cons o r ih=>
   intro n acc;simp only[argEnv.go,ih,get,WI];by_cases h:n=j
   .subst h;rw[Ay (by omega),Au rfl,Au ⟨by omega,by omega⟩];simp
   by_cases h1:n+1<=j/\j<n+1+r.length
   .rw[Au h1,Au ⟨by omega,by omega⟩];obtain⟨i,rfl⟩:∃i,j=n+1+i:=⟨j-(n+1),by omega⟩;rw[show n+1+i-(n+1)=i by omega,show n+1+i-n=i+1 by omega];simp
   rw[Ay h1,Ay h,Ay (by omega)]
 unfold argEnv;rw[a];by_cases h:j<args.length
 .rw[Au ⟨by omega,by omega⟩];simp
 rw[Ay (by omega)];simp[get,VW,Wx (show args.length<=j by omega)]
theorem Q6 {ids:List Nat}{regs:B5}:∀{l:List Nat}{objs:List Obj},H6 ids regs l=some objs->objs.length=l.length/\∀(p j:Nat),l[p]? = some j->∃o o',A2 regs j=some o/\Kd ids o=some o' /\ objs[p]? = some o'
 |[],objs,h=>by simp only[H6,VX]at h;subst h;exact⟨rfl,fun p j hp=>by simp at hp⟩
 |j::l,objs,h=>by
  simp only[H6]at h;split at h
  .rename_i o a;split at h
   .rename_i o' l' h1 b;cases h;obtain⟨c,d⟩:=Q6 b;refine⟨by simp[c],fun p i hp=>?_⟩;cases p with
    |zero=>simp only[WR,VX]at hp;subst hp;exact⟨o,o',a,h1,by simp⟩
    |succ p=>simpa using d p i (by simpa using hp)
   cases h
  cases h
theorem X3:∀{l:List Nat},E6 l=true->l.Nodup
 |[],_=>Xj
 |a::r,h=>by simp only[E6,Wa,Ws,WM,decide_eq_false_iff_not]at h;exact WL.2 ⟨h.1,X3 h.2⟩
theorem BP:∀{l:List Nat}(h:l.Nodup) {p q j:Nat}(hp:l[p]? = some j) (b:l[q]? = some j),p=q
 |[],h,p,q,j,hp,b=>by simp at hp
 |a::l,h,p,q,j,hp,b=>by
  obtain⟨h1,c⟩:=WL.1 h;cases p with
  |zero=>
   cases q with
   |zero=>rfl
   |succ q=>simp only[WR,VX]at hp;simp only[XJ]at b;subst hp;exact Ba (Wq b) h1
  |succ p=>
   cases q with
   |zero=>simp only[WR,VX]at b;simp only[XJ]at hp;subst b;exact Ba (Wq hp) h1
   |succ q=>exact congrArg (· + 1) (BP (j:=j) c (by simpa using hp) (by simpa using b))
theorem JG:∀{l:List Obj},BM l=true->∀(p:Nat) (r:List (List PV)) (b:Bool),l[p]? ≠ some (.yld r b)
 |[],_,p,r,b=>by simp
 |o::l,h,p,r,b=>by
  cases p with
  |zero=>intro a;simp only[WR,VX]at a;subst a;simp[BM]at h
  |succ p=>simp only[XJ];exact JG (by cases o<;>simp[BM]at h<;>exact h) p r b
end
end Go.AM
namespace Go.AM
def Uv (C:Ctx)(R:B5)(rho:Nat->Value)(ids:List Nat)(b off:Nat):Prop:= C.X b off \/ ∃j o,j ∉ ids/\A2 R j=some o/\D3 (rho j) o b/\EW o off
def Ctx.callee (C:Ctx)(R:B5)(w:World)(rho:Nat->Value)(ids:List Nat):Ctx where
 X:=Uv C R rho ids
 w0:=w
 E0:=fun b=>∃j o,j∈ids/\A2 R j=some o/\D3 (rho j) o b
 Pi0:=Prv C.X (A2 R) rho
 rho0:=fun p=>rho (ids.getD p 0)
 Y:=fun _ _=>False
 yv:=C.yv
section
variable {P:Program}{C:Ctx}{st:St}{a:Act}{w:World}{rho:Nat->Value}
theorem Z7 {ids:List Nat}{p j:Nat}(h:ids[p]? = some j):ids.getD p 0=j:=by simp[VW,h]
theorem JH {R:B5}{ids:List Nat}{objs:List Obj}(g:H6 ids R ids=some objs)(b off:Nat) :Prv (Uv C R rho ids) (A2 (objRegs objs)) (fun p=>rho (ids.getD p 0)) b off↔Prv C.X (A2 R) rho b off:=by
 obtain⟨hl,m⟩:=Q6 g;constructor
 .rintro ((i|⟨j,o,_,d,hb,hp⟩)|⟨p,o',hp,hb,l⟩)
  .exact .inl i
  .exact .inr ⟨j,o,d,hb,hp⟩
  rw[C5]at hp;have a:p<ids.length:=by rw[<- hl];exact (Wh.1 hp).1
  obtain⟨o,o2,h1,c,f⟩:=m p _ (VZ a);rw[hp]at f;cases f;simp only[Z7 (VZ a),Q4 c]at hb;exact .inr ⟨_,o,h1,hb,(Fn c off).1 l⟩
 rintro (i|⟨j,o,d,hb,hp⟩)
 .exact .inl (.inl i)
 by_cases hm:j∈ids
 .obtain⟨p,a,rfl⟩:=Xo.1 hm;obtain⟨o1,o2,h1,c,f⟩:=m p _ (VZ a);rw[d]at h1;cases h1;refine .inr ⟨p,o2,by rw[C5];exact f,?_,(Fn c off).2 hp⟩;simp only[Z7 (VZ a),Q4 c];exact hb
 exact .inl (.inr ⟨j,o,hm,d,hb,hp⟩)
theorem Gt (h:Sat C st a w rho){ids:List Nat}{objs:List Obj}{as args:List AV}{vs:Array Value}(hd:E6 ids=true)(s:H6 ids st.regs ids=some objs)(hny:BM objs=true)(u:True)
 (hr:AD ids as=some args) (hvs:vs.size=as.length) (hv:∀i,i<as.length->RS C st w rho (vs.getD i undef) (as.getD i .top)) :
 Sat (C.callee st.regs w rho ids) ⟨argEnv args,objRegs objs⟩ ⟨vs,[]⟩ w (fun p=>rho (ids.getD p 0)):=by
 obtain⟨hl,hg⟩:=Q6 s;have x:=X3 hd;have hpi:=JH (C:=C) (rho:=rho) s;have hk:Keeps w (Prv C.X (A2 st.regs) rho) w (Prv (Uv C st.regs rho ids) (A2 (objRegs objs)) (fun p=>rho (ids.getD p 0))):=
  fun b o v hp hc=>⟨hc,fun hp'=>hp ((hpi b o).1 hp')⟩
 have c:∀p o',A2 (objRegs objs) p=some o' -> ∃j o,ids[p]? = some j/\A2 st.regs j=some o/\Kd ids o=some o' /\ rho (ids.getD p 0)=rho j:=by
  intro p o' hp;rw[C5]at hp;have m:p<ids.length:=by rw[<- hl];exact (Wh.1 hp).1
  obtain⟨o,o2,h1,f,g⟩:=hg p _ (VZ m);rw[hp]at g;cases g;exact⟨_,o,VZ m,h1,f,by rw[Z7 (VZ m)]⟩
 have l:∀p j,ids[p]? = some j->Lv (A2 st.regs) j->Lv (A2 (objRegs objs)) p/\rho (ids.getD p 0)=rho j:=by intro p j hp _;obtain⟨o,o2,h1,f,g⟩:=hg p j hp;exact⟨by simp[Lv,C5,g],by rw[Z7 hp]⟩
 refine⟨⟨⟨?_,?_,?_,?_⟩,Ext.refl _,Wp _,fun b _ _=>rfl,hk,?_,?_⟩,?_,fun j _ _=>rfl,Xj,fun d hd=>by simp at hd⟩
 .intro p o' hp;obtain⟨j,o,h1,f,g,n⟩:=c p o' hp;show HoldsO w _ _ _ (rho (ids.getD p 0)) o';rw[n];exact (h.hp.holds j o f).ren hk l (fun b _=>rfl) g
 .intro p q op oq b hp hq y z;obtain⟨j,o,h1,f,g,n⟩:=c p op hp;obtain⟨j',o',h1',h2',h3',h4'⟩:=c q oq hq;simp only[n,h4',Q4 g,Q4 h3']at y z
  have:=h.hp.sep j j' o o' b f h2' y z
  subst this;exact BP x h1 h1'
 .intro p o' b off hp hb hX;obtain⟨j,o,h1,f,g,n⟩:=c p o' hp;simp only[n,Q4 g]at hb;rcases hX with hX|⟨j',o2,hj',h5,h6,_⟩
  .exact h.hp.out j o b off f hb hX
  have:=h.hp.sep j j' o o2 b f h5 hb h6
  subst this;exact hj' (Wq h1)
 .rintro b off (hX|⟨j,o,_,hj,hb,_⟩)
  .exact h.hp.bound b off hX
  exact (h.hp.holds j o hj).lt hb
 .rintro b ⟨p,o',hp,hb⟩;obtain⟨j,o,h1,f,g,n⟩:=c p o' hp;simp only[n,Q4 g]at hb;exact .inl ⟨j,o,Wq h1,f,hb⟩
 .intro p r b hp;rw[C5]at hp;exact Ba hp (JG hny p r b)
 intro t;show RepA w _ _ _ (vs.getD t undef) (get (argEnv args) t);rw[Q5];obtain⟨h1,f⟩:=Y1 hr;by_cases ht:t<as.length
 .exact (hv t ht).ren hk l (f t ht)
 rw[VW,Wx (by omega)];exact .top _
theorem Oa (all:List Nat)(j:Nat):∀(ids:List Nat) (objs:List Obj) (regs:B5),ids.Nodup->ids.length=objs.length ->
 A2 (MM all ids objs regs) j=match idx ids j with
  |some p=>(objs[p]?).map (unO all)
  |none=>A2 regs j
 |[],objs,regs,_,hl=>by
  cases objs with
  |nil=>rfl
  |cons=>simp at hl
 |i::ids,[],regs,_,hl=>by simp at hl
 |i::ids,o::objs,regs,hn,hl=>by
  obtain⟨h1,a⟩:=WL.1 hn;simp only[MM];rw[Oa all j ids objs _ a (by simpa using hl)];simp only[idx];by_cases e:i=j
  .subst e
   have:idx ids i=none:=by
    cases hx:idx ids i with
    |none=>rfl
    |some p=>exact Ba (Wq (I0 hx)) h1
   simp[this,A3]
  simp only[e,Br];cases hx:idx ids j with
  |none=>simp[A3,e]
  |some p=>simp
theorem BQ (j:Nat):∀(ids:List Nat) (ks:List Bool) (regs:B5),ids.Nodup ->
 A2 (I9 ids ks regs) j=match idx ids j with
  |some p=>if ks[p]? = some true then A2 regs j else some .dead
  |none=>A2 regs j
 |[],ks,regs,_=>by cases ks<;>rfl
 |i::ids,[],regs,hn=>by
  obtain⟨h1,b⟩:=WL.1 hn;simp only[I9];rw[BQ j ids [] _ b];simp only[idx];by_cases e:i=j
  .subst e
   have:idx ids i=none:=by
    cases hx:idx ids i with
    |none=>rfl
    |some p=>exact Ba (Wq (I0 hx)) h1
   simp[this,A3]
  simp only[e,Br];cases hx:idx ids j with
  |none=>simp[A3,e]
  |some p=>simp
 |i::ids,k::ks,regs,hn=>by
  obtain⟨h1,b⟩:=WL.1 hn;simp only[I9];have a:idx ids i=none:=by
   cases hx:idx ids i with
   |none=>rfl
   |some p=>exact Ba (Wq (I0 hx)) h1
  by_cases hk:k=true
  .rw[Au hk,BQ j ids ks _ b];simp only[idx];by_cases e:i=j
   .subst e;simp[a,hk]
   simp only[e,Br];cases hx:idx ids j with
   |none=>rfl
   |some p=>simp
  rw[Ay hk,BQ j ids ks _ b];simp only[idx];by_cases e:i=j
  .subst e;simp[a,hk,A3]
  simp only[e,Br];cases hx:idx ids j with
  |none=>simp[A3,e]
  |some p=>simp[A3,e]
theorem Kn {ids:List Nat}{j:Nat}(h:j∈ids):∃p,idx ids j=some p:=by
 induction ids with
 |nil=>simp at h
 |cons i r ih=>
  simp only[idx];by_cases e:i=j
  .exact⟨0,by simp[e]⟩
  rcases WH.1 h with h' | h'
  .exact Ba h'.symm e
  obtain⟨p,hp⟩:=ih h';exact⟨p+1,by simp[e,hp]⟩
theorem SU {ids:List Nat}(hn:ids.Nodup){p j:Nat}(h:ids[p]? = some j):idx ids j=some p:=by obtain⟨q,a⟩:=Kn (Wq h);rw[a,BP hn (I0 a) h]
theorem Hz {n p:Nat}(h:p<n):(List.range n)[p]? = some p:=by simp[h]
theorem FY {d:Nat}{ids:List Nat}{ks:List Bool}{n p j:Nat}(h:(H9 d ids ks n)[p]? = some j):p<n/\((ids[p]? = some j/\ks[p]? = some true) \/ (j=nid d p/\∀i,ids[p]? = some i->ks[p]? ≠ some true)):=by
 unfold H9 at h;rw[Wb,Wo]at h;obtain⟨q,b,c⟩:=h;have a:p<n:=by simpa using (Wh.1 b).1
 rw[Hz a]at b;cases b;refine⟨a,?_⟩;split at c
 .rename_i j' h1 g;subst c;exact .inl ⟨h1,g⟩
 rename_i f;subst c;exact .inr ⟨rfl,fun i l hk=>f i l hk⟩
theorem Pa {d:Nat}{ids:List Nat}{ks:List Bool}{n:Nat}:(H9 d ids ks n).length=n:=by simp[H9]
theorem ED {regs:B5}{ids:List Nat}{ks:List Bool}{d n p:Nat}(a:Z6 regs ids ks d n=true)(hp:p<n)(b:∀i,ids[p]? = some i->ks[p]? ≠ some true):A2 regs (nid d p)=none:=by
 unfold Z6 at a;rw[Wn]at a
 have:=a p (by simp[hp])
 split at this
 .rename_i i h1 c;exact Ba c (b i h1)
 simpa using this
theorem Gu:∀{l:List Nat},(∀p q j:Nat,l[p]? = some j->l[q]? = some j->p=q)->l.Nodup
 |[],_=>Xj
 |a::l,h=>by
  refine WL.2 ⟨fun hm=>?_,Gu fun p q j hp b=>?_⟩
  .obtain⟨p,hp⟩:=WZ.1 hm
   have:=h 0 (p+1) a (by simp) (by simpa using hp)
   omega
  have:=h (p+1) (q+1) j (by simpa using hp) (by simpa using b)
  omega
theorem LL {regs:B5}{ids:List Nat}{ks:List Bool}{d n:Nat}{objs:List Obj}(g:H6 ids regs ids=some objs)(r:ids.Nodup)(l:Z6 regs ids ks d n=true):(H9 d ids ks n).Nodup:=by
 refine Gu fun p q j hp s=>?_;obtain⟨h1,a⟩:=FY hp;obtain⟨t,b⟩:=FY s;obtain⟨_,m⟩:=Q6 g;rcases a with⟨a,u⟩ | ⟨c,a⟩<;>rcases b with⟨b,v⟩ | ⟨f,b⟩
 .exact BP r a b
 .obtain⟨o,_,i,_⟩:=m p _ a
  have:=ED l t b
  rw[<- f,i]at this;cases this
 .obtain⟨o,_,i,_⟩:=m q _ b
  have:=ED l h1 a
  rw[<- c,i]at this;cases this
 have:nid d p=nid d q:=c.symm.trans f
 unfold nid at this;omega
def Ob (new:List Nat)(rho rho' : Nat->Value)(j:Nat):Value:=match idx new j with
 |some p=>rho' p
 |none=>rho j
theorem Pb (h:Sat C st a w rho){ids:List Nat}{objs objs' : List Obj}{ks:List Bool}{d:Nat}{w' : World}{rho' : Nat->Value}(hd:E6 ids=true)(hob:H6 ids st.regs ids=some objs)
 (hE:SatE (C.callee st.regs w rho ids) (objRegs objs') w' rho') (hks:∀i:Nat,ks[i]? = some true->i<objs'.length/\rho' i=rho (ids.getD i 0)) (hf:Z6 st.regs ids ks d objs'.length=true) :
 let new:=H9 d ids ks objs'.length
 let R':=MM new new objs' (I9 ids ks st.regs)
 Sat C { st with regs:=R' } a w' (Ob new rho rho')/\Kp C st.regs R' w w' rho (Ob new rho rho') /\
  Keeps w' (Prv (Uv C st.regs rho ids) (A2 (objRegs objs')) rho') w' (Prv C.X (A2 R') (Ob new rho rho')) /\
  ∀p,Lv (A2 (objRegs objs')) p->Lv (A2 R') (new.getD p 0)/\Ob new rho rho' (new.getD p 0)=rho' p:=by
 intro new R';have hdup:=X3 hd;obtain⟨hl,hg⟩:=Q6 hob;have hnd:new.Nodup:=LL hob hdup hf;have hnl:new.length=objs'.length:=Pa;have hR:∀j,A2 R' j=match idx new j with
  |some p=>(objs'[p]?).map (unO new)
  |none=>A2 (I9 ids ks st.regs) j:=fun j=>Oa new j new objs' _ hnd hnl
 have hD:∀j,A2 (I9 ids ks st.regs) j=match idx ids j with
  |some p=>if ks[p]? = some true then A2 st.regs j else some .dead
  |none=>A2 st.regs j:=fun j=>BQ j ids ks _ hdup
 have z:∀j p,idx new j=some p->p<objs'.length/\((ids[p]? = some j/\rho' p=rho j/\Lv (A2 st.regs) j) \/ (A2 st.regs j=none/\1000<=j)):=by
  intro j p hp;obtain⟨h1,f⟩:=FY (I0 hp);refine⟨h1,?_⟩;rcases f with⟨f,x⟩ | ⟨rfl,f⟩
  .obtain⟨o,_,ho,_⟩:=hg p j f;exact .inl ⟨f,by rw[(hks p x).2,Z7 f],by simp[Lv,ho]⟩
  exact .inr ⟨ED hf h1 f,Ai d p⟩
 have l:∀j,idx new j=none->j∈ids->A2 R' j=some .dead:=by
  intro j c hm;rw[hR j,c];obtain⟨p,hp⟩:=Kn hm;simp only[hD j,hp];by_cases hk:ks[p]? = some true
  .exfalso;have hlt:=(hks p hk).1
   have:new[p]? = some j:=by show (H9 d ids ks objs'.length)[p]? = some j;unfold H9;rw[Wb,Hz hlt];simp[I0 hp,hk]
   rw[SU hnd this]at c;cases c
  simp[hk]
 have g:∀j,idx new j=none->j ∉ ids->A2 R' j=A2 st.regs j:=by
  intro j c hm;rw[hR j,c]
  have:idx ids j=none:=by
   cases hx:idx ids j with
   |none=>rfl
   |some p=>exact Ba (Wq (I0 hx)) hm
  simp only[hD j,this]
 have s:∀j p,idx new j=some p->∃o',objs'[p]? = some o' /\ A2 R' j=some (unO new o')/\Ob new rho rho' j=rho' p:=by intro j p hp;obtain⟨h1,_⟩:=z j p hp;refine⟨objs'[p],VZ h1,?_,by simp[Ob,hp]⟩;rw[hR j,hp];simp[VZ h1]
 have hrn:∀j,idx new j=none->Ob new rho rho' j=rho j:=fun j c=>by simp[Ob,c]
 have a0:∀j,Lv (A2 st.regs) j->Lv (A2 R') j/\Ob new rho rho' j=rho j:=by
  intro j c;cases hx:idx new j with
  |some p=>
   obtain⟨o',_,f,x⟩:=s j p hx;refine⟨by simp[Lv,f],?_⟩;rcases (z j p hx).2 with⟨_,y,_⟩ | ⟨y,_⟩
   .rw[x,y]
   simp[Lv,y]at c
  |none=>
   refine⟨?_,hrn j hx⟩;by_cases hm:j∈ids
   .simp[Lv,l j hx hm]
   simpa[Lv,g j hx hm]using c
 have hback:∀p,p<objs'.length->idx new (new.getD p 0)=some p:=by
  intro p hp
  have:new[p]? = some (new.getD p 0):=by rw[VW,VZ (by omega)];rfl
  exact SU hnd this
 have hpi:∀b off,Prv C.X (A2 R') (Ob new rho rho') b off->Prv (Uv C st.regs rho ids) (A2 (objRegs objs')) rho' b off:=by
  rintro b off (hX|⟨j,o,c,hb,hp⟩)
  .exact .inl (.inl hX)
  cases hx:idx new j with
  |some p=>obtain⟨o',h1,f,x⟩:=s j p hx;rw[f]at c;cases c;rw[x,Km]at hb;exact .inr ⟨p,o',by rw[C5];exact h1,hb,(Qs off).1 hp⟩
  |none=>
   by_cases hm:j∈ids
   .rw[l j hx hm]at c;cases c;simp[D3,J4]at hb
   rw[g j hx hm]at c;rw[hrn j hx]at hb;exact .inl (.inr ⟨j,o,hm,c,hb,hp⟩)
 have hk2:Keeps w' (Prv (Uv C st.regs rho ids) (A2 (objRegs objs')) rho') w' (Prv C.X (A2 R') (Ob new rho rho')):=fun b o v hp hc=>⟨hc,fun u=>hp (hpi b o u)⟩;have hlb:∀p,Lv (A2 (objRegs objs')) p->Lv (A2 R') (new.getD p 0)/\Ob new rho rho' (new.getD p 0)=rho' p:=by
  intro p hp;have hlt:p<objs'.length:=by simp only[Lv,C5]at hp;exact (Wh.1 (Option.eq_some_of_isSome hp)).1
  obtain⟨o',_,f,x⟩:=s _ p (hback p hlt);exact⟨by rw[Lv,f];rfl,x⟩
 have hyld:∀(p:Nat) r b,objs'[p]? ≠ some (.yld r b):=by intro p r b hp;exact (hE.yld p r b (by rw[C5];exact hp)).1
 obtain⟨g1,g2⟩:=h.step (R':=R') (rho':=Ob new rho rho') (w':=w') (fun j=>j∈ids \/ ∃p,idx new j=some p)
  (fun j c=>by
   have h1:j ∉ ids:=fun e=>c (.inl e);have f:idx new j=none:=by
    cases hx:idx new j with
    |none=>rfl
    |some p=>exact Ba (.inr ⟨p,hx⟩) c
   exact g j f h1)
  a0 hE.size
  (fun j c hj'=>by
   cases hx:idx new j with
   |some p=>
    rcases (z j p hx).2 with⟨_,_,y⟩ | ⟨_,y⟩
    .exact Ba y c
    exact y
   |none=>
    by_cases hm:j∈ids
    .obtain⟨p,hp⟩:=Kn hm;obtain⟨o,_,ho,_⟩:=hg p j (I0 hp);exact Ba (by simp[Lv,ho]) c
    rw[Lv,g j hx hm]at hj';exact Ba hj' c)
  (fun j r b m c=>by
   cases hx:idx new j with
   |some p=>
    obtain⟨o',h1,f,x⟩:=s j p hx;rw[f]at c
    have:o' = .yld r b:=by cases o'<;>simp[unO]at c⊢;exact c
    subst this;exact hyld p r b h1
   |none=>
    rcases m with hm|⟨p,hp⟩
    .rw[l j hx hm]at c;cases c
    rw[hx]at hp;cases hp)
  (fun b hb hno=>hE.same b hb (by rintro⟨j,o,hm,c,n⟩;exact hno j o (.inl hm) c n))
  (fun j o b m c n=>by
   cases hx:idx new j with
   |some p=>
    obtain⟨o',h1,f,x⟩:=s j p hx;rw[f]at c;cases c;rw[x,Km]at n;rcases hE.own b ⟨p,o',by rw[C5];exact h1,n⟩with⟨i,oi,hm,hi,t⟩ | hge
    .exact .inl ⟨i,oi,.inl hm,hi,t⟩
    exact .inr hge
   |none=>
    rcases m with hm|⟨p,hp⟩
    .rw[l j hx hm]at c;cases c;simp[D3,J4]at n
    rw[hx]at hp;cases hp)
  (fun i j oi oj b hDi m hi c t hbj=>by
   have key:∀i oi,(i∈ids \/ ∃p,idx new i=some p)->A2 R' i=some oi->D3 (Ob new rho rho' i) oi b->∃p o',idx new i=some p/\A2 (objRegs objs') p=some o' /\ D3 (rho' p) o' b:=by
    intro i oi hDi hi t;cases hx:idx new i with
    |some p=>obtain⟨o',h1,f,x⟩:=s i p hx;rw[f]at hi;cases hi;rw[x,Km]at t;exact⟨p,o',rfl,by rw[C5];exact h1,t⟩
    |none=>
     rcases hDi with hm|⟨p,hp⟩
     .rw[l i hx hm]at hi;cases hi;simp[D3,J4]at t
     rw[hx]at hp;cases hp
   obtain⟨p,o1,h1,f,x⟩:=key i oi hDi hi t;obtain⟨q,o2,y,h5,h6⟩:=key j oj m c hbj
   have:=hE.hp.sep p q o1 o2 b f h5 x h6
   subst this;have e1:=I0 h1;have e2:=I0 y;rw[e1]at e2;cases e2;rfl)
  (fun i oi b off v hDi hi t hnp hc=>by
   obtain⟨h1,f⟩:=hE.keep b off v hnp hc;refine⟨h1,fun j o m c n hp=>f ?_⟩;cases hx:idx new j with
   |some p=>obtain⟨o',y,h5,h6⟩:=s j p hx;rw[h5]at c;cases c;rw[h6,Km]at n;exact .inr ⟨p,o',by rw[C5];exact y,n,(Qs off).1 hp⟩
   |none=>
    rcases m with hm|⟨p,u⟩
    .rw[l j hx hm]at c;cases c;simp[D3,J4]at n
    rw[hx]at u;cases u)
  (fun hk j o m c=>by
   cases hx:idx new j with
   |some p=>obtain⟨o',y,h5,h6⟩:=s j p hx;rw[h5]at c;cases c;rw[h6];exact (hE.hp.holds p o' (by rw[C5];exact y)).un hk2 hlb (fun b _=>rfl)
   |none=>
    rcases m with hm|⟨p,u⟩
    .rw[l j hx hm]at c;cases c;trivial
    rw[hx]at u;cases u) hE.ext
 exact⟨g1,⟨g2,a0⟩,hk2,hlb⟩
end
end Go.AM
namespace Go.AM
section
variable {P:Program}{C:Ctx}{st t:St}{a:Act}{w:World}{rho:Nat->Value}
theorem semUp.refl {st:St}{K:St->Prop}(h:K st):semUp st K:=fun C a w rho hs=>⟨st,rho,h,fun _ _ h=>h,hs⟩
theorem semUp.trans {st:St}{K:St->Prop}(h:semUp st fun t=>semUp t K):semUp st K:=fun C a w rho hs=>
 let ⟨st',rho',h1,hp,h2⟩:=h C a w rho hs
 let ⟨st2,rho2,h3,hp',h4⟩:=h1 C a w rho' h2
 ⟨st2,rho2,h3,fun b o hx=>hp b o (hp' b o hx),h4⟩
theorem semUp.mono {st:St}{K K' : St->Prop}(hk:∀t,K t->K' t)(h:semUp st K):semUp st K':=fun C a w rho hs=>
 let ⟨st',rho',h1,h2⟩:=h C a w rho hs
 ⟨st',rho',hk _ h1,h2⟩
theorem Sat.slot (h:Sat C st a w rho){t:Nat}{x:AV}(hx:RS C st w rho (a.tmps.getD t undef) x):Sat C ⟨ins t x st.env,st.regs⟩ a w rho:=by
 refine⟨h.toSatE,fun i=>?_,h.pin,h.marks⟩;show RepA w _ _ rho _ (get (ins t x st.env) i);rw[Hn];split
 .rename_i e;subst e;exact hx
 exact h.env i
theorem semUp.bool {st:St}{t:Nat}{b:Bool}{K:St->Prop}(c:get st.env t=.p (.bb b))(h:K ⟨ins t (.p (.v (.bool b))) st.env,st.regs⟩):semUp st K:=fun C a w rho hs=>by
 refine⟨_,rho,h,fun _ _ h=>h,hs.slot ?_⟩
 have:=hs.env t
 rw[c]at this;rw[this.toP.toBool];exact .p _ _ (.v _)
theorem semUp.pq {st:St}{t:Nat}{x y:PV}{K:St->Prop}(b:get st.env t=.p x)(c:leQ x y)(h:K ⟨ins t (.p y) st.env,st.regs⟩):semUp st K:=fun C a w rho hs=>by
 refine⟨_,rho,h,fun _ _ h=>h,hs.slot ?_⟩
 have:=hs.env t
 rw[b]at this;exact .p _ _ (this.toP.leQ c)
theorem semUp.nil {st:St}{t k n:Nat}{f:Nat->List PV}{K:St->Prop}(g:get st.env t=.p (.sl false k n f))
 (h1:n=0->K ⟨ins t (.p (.v (.slice none 0 0))) st.env,st.regs⟩) (i:K ⟨ins t (.p (.sl true k n f)) st.env,st.regs⟩):semUp st K:=fun C a w rho hs=>by
 have:=hs.env t
 rw[g]at this
 have:=this.toP
 generalize d:a.tmps.getD t undef=v at this;cases this with
 |slnil=>exact⟨_,rho,h1 rfl,fun _ _ h=>h,hs.slot (by rw[d];exact .p _ _ (.v _))⟩
 |sl _ b off cap _ _ _ c hn hk hc h sp hsp=>exact⟨_,rho,i,fun _ _ h=>h,hs.slot (by rw[d];exact .p _ _ (.sl true b off cap k n f c hn hk hc h sp hsp))⟩
theorem Oc (n:Nat)(f:Nat->PV){i:Nat}(a:i<n):(Rn n f).getD i .top=.p (f i):=by simp[Rn,VW,a]
theorem Ko (n:Nat)(f:Nat->PV):(Rn n f).length=n:=by simp[Rn]
theorem semUp.swap {st:St}{j:Nat}{o o' : Obj}{K:St->Prop}(m:A2 st.regs j=some o)(hb:∀v,D3 v o' = D3 v o)(hp:∀off,EW o' off↔EW o off)(hy:∀r b,o' ≠ .yld r b)
 (hh:∀{w:World}{Pi:Nat->Nat->Prop}{live:Nat->Prop}{rho:Nat->Value}{v:Value},HoldsO w Pi live rho v o->HoldsO w Pi live rho v o') (hK:K ⟨st.env,ins j o' st.regs⟩):semUp st K:=fun C a w rho hs=>by
 have d:∀i,A2 (ins j o' st.regs) i=if j=i then some o' else A2 st.regs i:=fun i=>A3 _ _ _ _
 have q:∀i,Lv (A2 (ins j o' st.regs)) i↔Lv (A2 st.regs) i:=fun i=>by
  unfold Lv;rw[d];split
  .rename_i e;subst e;rw[m];simp
  rfl
 have s:∀b off,Prv C.X (A2 (ins j o' st.regs)) rho b off↔Prv C.X (A2 st.regs) rho b off:=fun b off=>by
  unfold Prv;refine or_congr XQ ⟨?_,?_⟩
  .rintro⟨i,oi,h1,l,n⟩;rw[d]at h1;split at h1
   .rename_i e;subst e;cases h1;exact⟨j,o,m,by rw[<- hb];exact l,(hp off).1 n⟩
   exact⟨i,oi,h1,l,n⟩
  rintro⟨i,oi,h1,l,n⟩;by_cases e:j=i
  .subst e;rw[m]at h1;cases h1;exact⟨j,o',by rw[d,Au rfl],by rw[hb];exact l,(hp off).2 n⟩
  exact⟨i,oi,by rw[d,Ay e];exact h1,l,n⟩
 have hk:Keeps w (Prv C.X (A2 st.regs) rho) w (Prv C.X (A2 (ins j o' st.regs)) rho):=fun b off v h1 l=>⟨l,fun h=>h1 ((s b off).1 h)⟩;have hl:∀i,Lv (A2 st.regs) i->Lv (A2 (ins j o' st.regs)) i/\rho i=rho i:=fun i c=>⟨(q i).2 c,rfl⟩;refine⟨_,rho,hK,fun b off h=>(s b off).1 h,⟨⟨⟨fun i oi f=>?_,fun i i' oi oi' b c x g u=>?_,fun i oi b off f g=>?_,hs.hp.bound⟩,hs.ext,hs.size,hs.same,hs.keep.trans hk,fun b y=>?_,fun i r b f=>?_⟩,fun t=>(hs.env t).keeps hk hl,fun i c z=>hs.pin i c ((q i).1 z),hs.marks⟩⟩
 .have c:A2 (ins j o' st.regs) i=some oi:=f;clear f;rw[d]at c;split at c
  .rename_i e;subst e;cases c;exact hh ((hs.hp.holds j o m).keeps hk hl fun _ _=>rfl)
  exact (hs.hp.holds i oi c).keeps hk hl fun _ _=>rfl
 .have own:∀{i:Nat}{oi:Obj}{b:Nat},A2 (ins j o' st.regs) i=some oi->D3 (rho i) oi b->∃o2,A2 st.regs i=some o2/\D3 (rho i) o2 b:=by
   intro i oi b c g;rw[d]at c;split at c
   .rename_i e;subst e;cases c;exact⟨o,m,by rw[<- hb];exact g⟩
   exact⟨oi,c,g⟩
  obtain⟨o2,h1,l⟩:=own c g;obtain⟨o3,n,h4⟩:=own x u;exact hs.hp.sep i i' o2 o3 b h1 n l h4
 .have c:A2 (ins j o' st.regs) i=some oi:=f;clear f;rw[d]at c;split at c
  .rename_i e;subst e;cases c;exact hs.hp.out j o b off m (by rw[<- hb];exact g)
  exact hs.hp.out i oi b off c g
 .obtain⟨i,oi,f,g⟩:=y;have c:A2 (ins j o' st.regs) i=some oi:=f;clear f;rw[d]at c;split at c
  .rename_i e;subst e;cases c;exact hs.own b ⟨j,o,m,by rw[<- hb];exact g⟩
  exact hs.own b ⟨i,oi,c,g⟩
 have c:A2 (ins j o' st.regs) i=some (.yld r b):=f;clear f;rw[d]at c;split at c
 .cases c;exact Ba rfl (hy r b)
 exact hs.yld i r b c
theorem semUp.toArr {st:St}{j n:Nat}{f:Nat->PV}{K:St->Prop}(l:A2 st.regs j=some (.cells (Rn n f)))(m:K ⟨st.env,ins j (.arr n f) st.regs⟩):semUp st K:=
 semUp.swap (o':=.arr n f) l (fun _=>rfl) (fun _=>XQ) (fun _ _ h=>by cases h) (fun o=>by obtain⟨b,c,T,h1,q,g,a⟩:=o;rw[Ko]at g a;exact⟨b,c,T,h1,q,g,fun i d=>⟨by have:=(a i d).1;rw[Oc n f d]at this;exact this.toP,(a i d).2⟩⟩) m
theorem semUp.ofArr {st:St}{j n:Nat}{f:Nat->PV}{K:St->Prop}(g:A2 st.regs j=some (.arr n f))(l:K ⟨st.env,ins j (.cells (Rn n f)) st.regs⟩):semUp st K:=
 semUp.swap (o':=.cells (Rn n f)) g (fun _=>rfl) (fun _=>XQ) (fun _ _ h=>by cases h) (fun m=>by obtain⟨b,c,T,h1,o,q,d⟩:=m;exact⟨b,c,T,h1,o,by rw[Ko];exact q,fun i a=>by rw[Ko]at a;rw[Oc n f a];exact⟨.p _ _ (d i a).1,(d i a).2⟩⟩) l
theorem semUp.vecq {st:St}{j n k:Nat}{e:TypeId}{f g:Nat->List PV}{vw:Bool}{K:St->Prop}(r:A2 st.regs j=some (.vec e k n f vw))(m:∀i,i<n->leC (f i) (g i))(s:K ⟨st.env,ins j (.vec e k n g vw) st.regs⟩):semUp st K:=
 semUp.swap (o':=.vec e k n g vw) r (fun _=>rfl) (fun _=>by cases vw<;>exact XQ) (fun _ _ h=>by cases h) (fun t=>by
  rcases t with⟨h1,l⟩ | ⟨b,cap,c,h1,l,u,v,w,x,o⟩
  .exact .inl ⟨h1,l⟩
  exact .inr ⟨b,cap,c,h1,l,u,v,w,fun i a=>by rw[<- (m i a).1];exact x i a,fun i q a d=>⟨(o i q a d).1.leQ ((m i a).2 q),(o i q a d).2⟩⟩) s
theorem RF (j:Nat)(ps:List PV)(env:Env)(t:Nat):get (Rf j ps env) t=frzA j ps (get env t):=by
 induction env with
 |nil=>rfl
 |cons p r ih=>
  obtain⟨i,a⟩:=p;simp only[Rf,get];split
  .rfl
  exact ih
theorem semUp.frz {st:St}{j:Nat}{ps:List PV}{K:St->Prop}(z:A2 st.regs j=some (.cells (ps.map .p)))(hK:K ⟨Rf j ps st.env,ins j .dead st.regs⟩):semUp st K:=fun C a w rho hs=>by
 have d:∀i,A2 (ins j .dead st.regs) i=if j=i then some .dead else A2 st.regs i:=fun i=>A3 _ _ _ _
 obtain⟨h1,hk⟩:=hs.step (D:=(· = j)) (R':=ins j .dead st.regs) (rho':=rho) (w':=w)
  (fun i f=>by rw[d,Ay (fun e=>f e.symm)])
  (fun i f=>⟨by
   unfold Lv at f⊢;rw[d];split
   .rfl
   exact f,rfl⟩) (Wp _)
  (fun i f hl=>by
   unfold Lv at f hl;rw[d]at hl;split at hl
   .rename_i e;subst e;rw[z]at f;exact Ba rfl f
   exact Ba hl f)
  (fun i r b f=>by subst f;rw[d,Au rfl];simp)
  (fun _ _ _=>rfl)
  (fun i o b f l hb=>by subst f;rw[d,Au rfl]at l;cases l;cases hb)
  (fun i i' oi oj b f g _ _ _ _=>f.trans g.symm)
  (fun i oi b off v f l hb hp hc=>⟨hc,fun i' o g s m=>by subst g;rw[d,Au rfl]at s;cases s;cases m⟩)
  (fun _ i o f l=>by subst f;rw[d,Au rfl]at l;cases l;trivial)
 have u:∀b off,Prv C.X (A2 (ins j .dead st.regs)) rho b off->Prv C.X (A2 st.regs) rho b off:=by
  rintro b off (hX|⟨i,o,f,hb,hp⟩)
  .exact .inl hX
  rw[d]at f;split at f
  .cases f;cases hb
  exact .inr ⟨i,o,f,hb,hp⟩
 refine⟨_,rho,hK,u,⟨h1.toSatE,fun t=>?_,h1.pin,h1.marks⟩⟩;show RepA w _ _ rho (a.tmps.getD t undef) (get (Rf j ps st.env) t);rw[RF];have y:=h1.env t;have y:RepA w (Prv C.X (A2 (ins j .dead st.regs)) rho) (Lv (A2 (ins j .dead st.regs))) rho (a.tmps.getD t undef) (get st.env t):=y;have l:=hs.env t;generalize get st.env t=x at y l⊢;cases x with
 |reg i o=>
  simp only[frzA];split
  .rename_i e;subst e;generalize a.tmps.getD t undef=v at l⊢;cases l with
   |reg _ _ b hl hr=>
    obtain⟨b',c,T,e1,e2,e3,e4⟩:=hs.hp.holds i _ z;rw[hr]at e1;cases e1;have hsz:c.size=ps.length:=by simpa using e3
    refine .p _ _ (.ptr b o (ps.drop o) (fun q=>c.getD (o+q) undef) (fun q hq=>?_) fun q hq=>?_)
    .have n:o+q<ps.length:=by simp only[Wm]at hq;omega
     refine⟨C9 e2 (by omega),?_,(e4 (o+q) (by simpa using n)).2⟩;rintro (hX|⟨i',o',g,m,hp'⟩)
     .exact hs.hp.out i _ b _ z (by simp[D3,J4,hr]) hX
     rw[d]at g;split at g
     .cases g;cases m
     rename_i hne;exact hne (hs.hp.sep i i' _ o' b z g (by simp[D3,J4,hr]) m)
    have n:o+q<ps.length:=by simp only[Wm]at hq;omega
    have h4:=(e4 (o+q) (by simpa using n)).1;have e5:(ps.map AV.p).getD (o+q) .top=.p (ps.getD (o+q) default):=by simp[VW,n]
    rw[e5]at h4;have e6:(ps.drop o).getD q default=ps.getD (o+q) default:=by simp[VW,WT]
    rw[e6];exact h4.toP.keeps hk
  exact y
 |_=>exact y
theorem Sat.congr {s t:St}(h:Sat C s a w rho)(h1:∀x,get s.env x=get t.env x)(b:∀j,A2 s.regs j=A2 t.regs j):Sat C t a w rho:=by have e1:get s.env=get t.env:=funext h1;have e2:A2 s.regs=A2 t.regs:=funext b;obtain⟨⟨g1,g0,g2,g3,g4,g5,g6⟩,g7,g8,g9⟩:=h;rw[e2]at g1 g4 g5 g6 g7 g8;rw[e1]at g7;exact⟨⟨g1,g0,g2,g3,g4,g5,g6⟩,g7,g8,g9⟩
theorem semUp.eqv {s t:St}{K:St->Prop}(h1:∀x,get s.env x=get t.env x)(c:∀j,A2 s.regs j=A2 t.regs j)(h:K t):semUp s K:=fun C a w rho hs=>
 ⟨t,rho,h,fun b o hp=>by rw[funext c];exact hp,hs.congr h1 c⟩
theorem semUp.less {s t:St}{K:St->Prop}(h1:∀x,Ke (get t.env x) (get s.env x))(d:∀j,A2 s.regs j=A2 t.regs j)(h:K t):semUp s K:=fun C a w rho hs=>by
 have c:Sat C ⟨s.env,t.regs⟩ a w rho:=hs.congr (fun _=>rfl) d;refine⟨t,rho,h,fun b o hp=>by rw[funext d];exact hp,c.toSatE,fun x=>?_,c.pin,c.marks⟩
 have:=c.env x
 rcases h1 x with e|e|⟨y,e1,e2⟩
 .rw[e];exact .top _
 .rw[e];exact this
 rw[e1];rw[show get (St.mk s.env t.regs).env x=_ from e2]at this;exact .p _ _ (this.toP.leP (.inr (.inr (.inr (.inl ⟨y,rfl,rfl⟩)))))
theorem SV {ids:List (Nat×Nat)}{j i:Nat}(h:lk ids j=some i):(j,i)∈ids:=by
 induction ids with
 |nil=>simp[lk]at h
 |cons p r ih=>
  obtain⟨x,y⟩:=p;simp only[lk]at h;split at h
  .rename_i e;cases h;subst e;simp
  exact Wr _ (ih h)
theorem UN {ids:List (Nat×Nat)}(hn:E6 (ids.map (·.2))=true){j j' i:Nat}(h:lk ids j=some i)(h' : lk ids j' = some i):j=j':=by
 have b:=X3 hn;obtain⟨p,hp⟩:=WZ.1 (SV h);obtain⟨q,a⟩:=WZ.1 (SV h')
 have:p=q:=BP (j:=i) b (by rw[Wb,hp];rfl) (by rw[Wb,a];rfl)
 subst this;rw[hp]at a;cases a;rfl
theorem UO {ids:List (Nat×Nat)}(hp:OQ ids=true){j i:Nat}(h:lk ids j=some i)(a:j<1000):i=j:=by
 induction ids with
 |nil=>simp[lk]at h
 |cons p r ih=>
  obtain⟨x,y⟩:=p;simp only[OQ,Wa,Xq,beq_iff_eq,decide_eq_true_eq]at hp;simp only[lk]at h;split at h
  .rename_i e;cases h;omega
  exact ih hp.2 h
theorem Kq {regs:B5}{j:Nat}{o:Obj}(h:A2 regs j=some o):(j,o)∈regs:=by
 induction regs with
 |nil=>simp[A2]at h
 |cons p r ih=>
  obtain⟨x,y⟩:=p;simp only[A2]at h;split at h
  .rename_i e;cases h;subst e;simp
  exact Wr _ (ih h)
theorem RG {regs:B5}{j:Nat}(h:j∈regs.map (·.1)):(A2 regs j).isSome=true:=by
 induction regs with
 |nil=>simp at h
 |cons p r ih=>
  obtain⟨x,y⟩:=p;simp only[A2];split
  .rfl
  rename_i e;simp only[WA,WH]at h;rcases h with h|h
  .exact Ba h.symm e
  exact ih h
theorem BR {regs:B5}{ids:List (Nat×Nat)}:∀{r:B5},Lr regs ids r->∀{j:Nat}{p:Obj},A2 r j=some p ->
 (∃i o,lk ids j=some i/\A2 regs i=some o/\leO regs ids o p) \/ (lk ids j=none/\∃e k f vw,p=.vec e k 0 f vw)
 |[],_,j,p,h=>by simp[A2]at h
 |(x,y)::r,hl,j,p,h=>by
  simp only[A2]at h;split at h
  .rename_i e;cases h;subst e;exact hl.1
  exact BR hl.2 h
theorem LM {regs:B5}{ids:List (Nat×Nat)}{env:Env}:∀{r:Env},PX regs ids env r->∀(t:Nat),(∃b,(t,b)∈r/\get r t=b/\leA regs ids (get env t) b/\∀i∈Ff (get env t) b,i∈Rl env r) \/ get r t=.top
 |[],_,t=>.inr rfl
 |(x,y)::r,hl,t=>by
  simp only[get];split
  .rename_i e;subst e;exact .inl ⟨y,by simp,rfl,hl.1,fun i a=>by simp only[Rl];exact Wt _ a⟩
  rcases LM hl.2 t with⟨b,h1,c,d,f⟩ | h
  .exact .inl ⟨b,Wr _ h1,c,d,fun i a=>by simp only[Rl];exact Wl _ (f i a)⟩
  exact .inr h
theorem JI {ids:List (Nat×Nat)}{js:List Nat}:∀{r:B5},Gq ids js r=true->∀{j e k n f i},(j,Obj.vec e k n f false)∈r->lk ids j=some i->i ∉ js
 |[],_,j,e,k,n,f,i,h,_=>by simp at h
 |p::r,hs,j,e,k,n,f,i,h,hi=>by
  rcases WH.1 h with h|h
  .subst h;simp only[Gq,hi,Wa,Ws,WM,decide_eq_false_iff_not]at hs;exact hs.1
  refine JI (r:=r) ?_ h hi;obtain⟨x,o⟩:=p;cases o with
  |vec _ _ _ _ b=>cases b<;>simp only[Gq,Wa]at hs<;>first|exact hs.2|exact hs
  |_=>exact hs
theorem EE {regs:B5}{ids:List (Nat×Nat)}:∀{l m:List AV},leL regs ids l m->l.length=m.length/\∀i,i<l.length->leA regs ids (l.getD i .top) (m.getD i .top)/\∀x∈Ff (l.getD i .top) (m.getD i .top),x∈Hl l m
 |l,[],h=>by unfold leL at h;subst h;exact⟨rfl,fun i a=>Ba a (by simp)⟩
 |l,y::m,h=>by
  unfold leL at h;obtain⟨x,r,rfl,h1,c⟩:=h;obtain⟨d,f⟩:=EE c;refine⟨by simp[d],fun i a=>?_⟩;cases i with
  |zero=>exact⟨by simpa using h1,fun z b=>by unfold Hl;exact Wt _ (by simpa using b)⟩
  |succ i=>obtain⟨g,j⟩:=f i (by simpa using a);exact⟨by simpa using g,fun z b=>by unfold Hl;exact Wl _ (j z (by simpa using b))⟩
theorem EF {js:List Nat}:∀{m:List AV},inL js m=true->∀i,i<m.length->inA js (m.getD i .top)=true
 |[],_,i,hi=>Ba hi (by simp)
 |y::m,h,i,hi=>by
  unfold inL at h;rw[Wa]at h;cases i with
  |zero=>simpa using h.1
  |succ i=>simpa using EF h.2 i (by simpa using hi)
section
variable {Pi Pi' : Nat->Nat->Prop}{live live' : Nat->Prop}{rho' : Nat->Value}{regs:B5}{ids:List (Nat×Nat)}{js:List Nat}
theorem RepA.viewP (hk:Keeps w Pi w Pi'){seenP:Nat->Prop}
 (o:∀i,seenP i->∀e k n f vw base n' cap,A2 regs i=some (.vec e k n f vw)->rho i=.slice base n' cap->n' = n/\∀m,m<=n->RepP w Pi' (.slice base m cap) (.sl false k m f))
 {v:Value}{a:AV}(h:RepA w Pi live rho v a) {x y:PV}(hx:AM.viewP regs a=some x) (hs:∀i∈Ff a (.p y),seenP i):RepP w Pi' v x:=by
 cases h with
 |p _ z hz=>simp only[AM.viewP,VX]at hx;subst hx;exact hz.keeps hk
 |vec j base n' cap hl hr=>
  simp only[AM.viewP]at hx;split at hx
  .rename_i e k n f vw c;cases hx;obtain⟨rfl,d⟩:=o j (hs j (by simp[Ff])) _ _ _ _ _ _ _ _ c hr;exact d _ (Wp _)
  cases hx
 |vecp j m base n' cap hl hr hm=>
  simp only[AM.viewP]at hx;split at hx
  .rename_i e k n f vw c;cases hx;obtain⟨rfl,d⟩:=o j (hs j (by simp[Ff])) _ _ _ _ _ _ _ _ c hr;rw[XW hm];exact d _ hm
  cases hx
 |clo f x' y' l r hx' hy' hl hr=>
  have gen:(match Li l,Li r with
   |some a,some b=>some (PV.fn f a b)
   |_,_=>none)=some x->RepP w Pi' (.func (.func f) x' y') x:=by
   intro g;split at g
   .rename_i a' b' ha hb;cases g;exact (RepA.clo_fn ha hb (.clo f x' y' l r hx' hy' hl hr)).keeps hk
   cases g
  cases l with
  |cons _ _=>exact gen hx
  |nil=>
   cases r with
   |cons _ _=>exact gen hx
   |nil=>simp only[AM.viewP,VX]at hx;subst hx;have e1:x' = #[]:=Xb.1 (by simpa using hx');have e2:y' = #[]:=Xb.1 (by simpa using hy');subst e1;subst e2;exact .v _
 |_=>simp[AM.viewP]at hx
theorem RepA.le (hk:Keeps w Pi w Pi')(t:∀j i,lk ids j=some i->rho' j=rho i)(hnil:∀j,lk ids j=none->rho' j=.slice none 0 0)(s:∀j,js.contains j=true->live' j){seenP:Nat->Prop}
 (u:∀i,seenP i->∀e k n f vw base n' cap,A2 regs i=some (.vec e k n f vw)->rho i=.slice base n' cap->n' = n/\∀m,m<=n->RepP w Pi' (.slice base m cap) (.sl false k m f))
 {v:Value}{a:AV}(h:RepA w Pi live rho v a):∀{b:AV},leA regs ids a b->inA js b=true->(∀i∈Ff a b,seenP i)->RepA w Pi' live' rho' v b:=by
 induction h with
 |p v x h=>
  intro b' hle c hs;cases b' with
  |top=>exact .top _
  |p y'=>unfold leA at hle;obtain⟨x',d,g⟩:=hle;exact .p _ _ (((RepA.p (live:=live) v x h).viewP hk u d hs).leP g)
  |vec j'=>
   unfold leA at hle;rcases hle with⟨i',_,o⟩ | ⟨hn,o⟩
   .cases o
   cases o;rw[h.toV];exact .vec j' none 0 0 (s j' (by unfold inA at c;exact c)) (hnil j' hn)
  |_=>simp[leA]at hle
 |reg j off b hl h=>
  intro b' hle c hs;cases b' with
  |top=>exact .top _
  |p y'=>unfold leA at hle;obtain⟨x',d,g⟩:=hle;exact .p _ _ (((RepA.reg j off b hl h).viewP hk u d hs).leP g)
  |reg j' off'=>unfold leA at hle;obtain⟨i',q,o⟩:=hle;cases o;exact .reg j' off b (s j' (by unfold inA at c;exact c)) ((t _ _ q).trans h)
  |_=>simp[leA]at hle
 |vec j base n cap hl h=>
  intro b' hle c hs;cases b' with
  |top=>exact .top _
  |p y'=>unfold leA at hle;obtain⟨x',d,g⟩:=hle;exact .p _ _ (((RepA.vec j base n cap hl h).viewP hk u d hs).leP g)
  |vec j'=>
   unfold leA at hle;rcases hle with⟨i',q,o⟩ | ⟨hn,o⟩
   .cases o;exact .vec j' base n cap (s j' (by unfold inA at c;exact c)) ((t _ _ q).trans h)
   cases o
  |_=>simp[leA]at hle
 |vecp j m base n cap hl h hm=>
  intro b' hle c hs;cases b' with
  |top=>exact .top _
  |p y'=>unfold leA at hle;obtain⟨x',d,g⟩:=hle;exact .p _ _ (((RepA.vecp j m base n cap hl h hm).viewP hk u d hs).leP g)
  |vecp j' m'=>unfold leA at hle;obtain⟨i',q,o⟩:=hle;cases o;exact .vecp j' m base n cap (s j' (by unfold inA at c;exact c)) ((t _ _ q).trans h) hm
  |_=>simp[leA]at hle
 |elt j k i off b n cap hl h=>
  intro b' hle c hs;cases b' with
  |top=>exact .top _
  |p y'=>unfold leA at hle;obtain⟨x',d,g⟩:=hle;exact .p _ _ (((RepA.elt j k i off b n cap hl h).viewP hk u d hs).leP g)
  |elt j' k' i2 off'=>unfold leA at hle;obtain⟨i',q,o⟩:=hle;cases o;exact .elt j' k i off b n cap (s j' (by unfold inA at c;exact c)) ((t _ _ q).trans h)
  |_=>simp[leA]at hle
 |mref j r hl h=>
  intro b' hle c hs;cases b' with
  |top=>exact .top _
  |p y'=>unfold leA at hle;obtain⟨x',d,g⟩:=hle;exact .p _ _ (((RepA.mref j r hl h).viewP hk u d hs).leP g)
  |mref j'=>unfold leA at hle;obtain⟨i',q,o⟩:=hle;cases o;exact .mref j' r (s j' (by unfold inA at c;exact c)) ((t _ _ q).trans h)
  |_=>simp[leA]at hle
 |clo f x y a b hx hy ha hb iha ihb=>
  intro b' hle c hs;cases b' with
  |top=>exact .top _
  |p y'=>unfold leA at hle;obtain⟨x',d,g⟩:=hle;exact .p _ _ (((RepA.clo f x y a b hx hy ha hb).viewP hk u d hs).leP g)
  |clo f' x2 y2=>
   unfold leA at hle;obtain⟨x3,y3,o,h1,h2⟩:=hle;cases o;unfold inA at c;rw[Wa]at c;obtain⟨l1,g1⟩:=EE h1;obtain⟨l2,g2⟩:=EE h2;exact .clo f x y x2 y2 (hx.trans l1) (hy.trans l2)
    (fun i hi=>iha i (by omega) (g1 i (by omega)).1 (EF c.1 i hi) fun z hz=>hs z (by unfold Ff;exact Wt _ ((g1 i (by omega)).2 z hz)))
    fun i hi=>ihb i (by omega) (g2 i (by omega)).1 (EF c.2 i hi) fun z hz=>hs z (by unfold Ff;exact Wl _ ((g2 i (by omega)).2 z hz))
  |_=>simp[leA]at hle
 |tup x a hx ha ih=>
  intro b' hle c hs;cases b' with
  |top=>exact .top _
  |p y'=>unfold leA at hle;obtain⟨x',d,g⟩:=hle;exact .p _ _ (((RepA.tup x a hx ha).viewP hk u d hs).leP g)
  |tup l2=>unfold leA at hle;obtain⟨l3,o,h1'⟩:=hle;cases o;unfold inA at c;obtain⟨l1,g1⟩:=EE h1';exact .tup x l2 (hx.trans l1) fun i hi=>ih i (by omega) (g1 i (by omega)).1 (EF c i hi) fun z hz=>hs z (by unfold Ff;exact (g1 i (by omega)).2 z hz)
  |_=>simp[leA]at hle
 |agr x a hx h1 ha ih=>
  intro b' hle c hs;cases b' with
  |top=>exact .top _
  |p y'=>unfold leA at hle;obtain⟨x',d,g⟩:=hle;exact .p _ _ (((RepA.agr x a hx h1 ha).viewP hk u d hs).leP g)
  |agr l2=>unfold leA at hle;obtain⟨l3,o,h1'⟩:=hle;cases o;unfold inA at c;obtain⟨l1,g1⟩:=EE h1';exact .agr x l2 (hx.trans l1) (fun i hi=>h1 i (by omega)) fun i hi=>ih i (by omega) (g1 i (by omega)).1 (EF c i hi) fun z hz=>hs z (by unfold Ff;exact (g1 i (by omega)).2 z hz)
  |_=>simp[leA]at hle
 |yf j l hl h=>
  intro b' hle c hs;cases b' with
  |top=>exact .top _
  |p y'=>unfold leA at hle;obtain⟨x',d,g⟩:=hle;exact .p _ _ (((RepA.yf j l hl h).viewP hk u d hs).leP g)
  |yf j'=>unfold leA at hle;obtain⟨i',q,o⟩:=hle;cases o;exact .yf j' l (s j' (by unfold inA at c;exact c)) ((t _ _ q).trans h)
  |_=>simp[leA]at hle
 |top v=>
  intro b' hle c hs;cases b' with
  |top=>exact .top _
  |p y'=>unfold leA at hle;obtain⟨x',d,g⟩:=hle;exact .p _ _ (((RepA.top (live:=live) v).viewP hk u d hs).leP g)
  |_=>simp[leA]at hle
end
def PK (ids:List (Nat×Nat))(rho:Nat->Value)(j:Nat):Value:=match lk ids j with
 |some i=>rho i
 |none=>.slice none 0 0
theorem TD {regs:B5}{ids:List (Nat×Nat)}{o p:Obj}(h:leO regs ids o p){v:Value}{b:Nat}(hb:D3 v p b):D3 v o b/\∀off,EW p off->EW o off:=by
 cases p with
 |cells cs=>obtain⟨cs',rfl,_⟩:=h;exact⟨hb,fun _ h=>h⟩
 |vec e k n f vw=>
  obtain⟨g,vw',rfl,h1,c⟩:=h;refine⟨hb,fun off hp=>?_⟩;cases vw'
  .trivial
  rw[c rfl]at hp;exact hp
 |map es=>subst h;exact⟨hb,fun _ h=>h⟩
 |arr n f=>obtain⟨g,rfl,_⟩:=h;exact⟨hb,fun _ h=>h⟩
 |fam e n jr x=>obtain⟨_,_,rfl,_⟩:=h;exact⟨hb,fun _ h=>h⟩
 |rows n g=>obtain⟨g',rfl,h1⟩:=h;obtain⟨rv,d,i,a,hb⟩:=hb;exact⟨⟨rv,d,i,a,by rw[h1 i a];exact hb⟩,fun _ _=>trivial⟩
 |_=>simp[D3,J4]at hb
theorem Sat.le (h:Sat C st a w rho){ids:List (Nat×Nat)}(hle:Le ids st t):Sat C t a w (PK ids rho)/\∀b off,Prv C.X (A2 t.regs) (PK ids rho) b off->Prv C.X (A2 st.regs) rho b off:=by
 obtain⟨⟨hwf,hnd,hpin,hpn,hseen⟩,hE,hR⟩:=hle;have hlk:∀j i,lk ids j=some i->PK ids rho j=rho i:=fun j i u=>by simp[PK,u]
 have hnil:∀j,lk ids j=none->PK ids rho j=.slice none 0 0:=fun j u=>by simp[PK,u]
 simp only[wf,Wa,Wn]at hwf;obtain⟨⟨⟨_,_⟩,hwe⟩,hwr⟩:=hwf;have hjs:∀j,(t.regs.map (·.1)).contains j=true->Lv (A2 t.regs) j:=fun j u=>RG (by simpa using u);have hown:∀j p b,A2 t.regs j=some p->D3 (PK ids rho j) p b->∃i o,lk ids j=some i/\A2 st.regs i=some o/\D3 (rho i) o b/\leO st.regs ids o p/\∀off,EW p off->EW o off:=by
  intro j p b u hb;rcases BR hR u with⟨i,o,h1,h2,d⟩ | ⟨h1,e,k,f,vw,rfl⟩
  .rw[hlk j i h1]at hb;obtain⟨h4,h5⟩:=TD d hb;exact⟨i,o,h1,h2,h4,d,h5⟩
  rw[hnil j h1]at hb;simp[D3,J4]at hb
 have hpi:∀b off,Prv C.X (A2 t.regs) (PK ids rho) b off->Prv C.X (A2 st.regs) rho b off:=by
  rintro b off (hX|⟨j,p,u,hb,hp⟩)
  .exact .inl hX
  obtain⟨i,o,_,h2,d,_,h5⟩:=hown j p b u hb;exact .inr ⟨i,o,h2,d,h5 off hp⟩
 have hk:Keeps w (Prv C.X (A2 st.regs) rho) w (Prv C.X (A2 t.regs) (PK ids rho)):=fun b o v hp hc=>⟨hc,fun hp'=>hp (hpi b o hp')⟩;have hv:∀i,i∈Rl st.env t.env++Fg ids st.regs t.regs->∀e k n f vw base n' cap,A2 st.regs i=some (.vec e k n f vw)->rho i=.slice base n' cap->n' = n/\∀m,m<=n->RepP w (Prv C.X (A2 t.regs) (PK ids rho)) (.slice base m cap) (.sl false k m f):=by
  intro i hi e k n f vw base n' cap hri hrho;have hh:=h.hp.holds i _ hri;rw[hrho]at hh;rcases hh with⟨he,rfl⟩ | ⟨b,cap',c,he,h1,h2,d,h4,h5,h6⟩
  .cases he;refine⟨rfl,fun m hm=>?_⟩;obtain rfl:m=0:=by omega
   exact .slnil k f
  cases he;refine⟨rfl,fun m hm=>?_⟩;refine .sl false b 0 cap k m f (fun i j=>c.getD (i*k+j) undef) (by omega) (fun i hi=>h5 i (by omega)) (fun x y hx hy=>?_) (fun x y hx hy=>((h6 x y (by omega) hy).1).keeps hk) none (fun _=>rfl);have hlt:=F4 (show x<n by omega) hy;have hle' : n*k<=c.size:=by rw[d];exact Wk k h2
  rw[WG];refine⟨C9 h1 (by omega),?_,(h6 x y (by omega) hy).2⟩;rintro (hX|⟨j,p,u,hb,hp⟩)
  .exact h.hp.out i _ b _ hri (by simp[D3,J4,hrho]) hX
  obtain⟨i',o,h7,h8,h9,h10,h11⟩:=hown j p b u hb
  have:=h.hp.sep i' i o _ b h8 hri h9 (by simp[D3,J4,hrho])
  subst this;rw[hri]at h8;cases h8;cases p with
  |vec e2 k2 n2 f2 vw2=>
   obtain⟨g,vw',he,h12,h13⟩:=h10;cases he;cases vw2
   .exact JI hseen (Kq u) h7 hi
   simp only[EW]at hp;omega
  |cells cs=>obtain⟨cs',he,_⟩:=h10;cases he
  |map es=>cases h10
  |arr n f=>obtain⟨g,he,_⟩:=h10;cases he
  |ghost cs=>obtain⟨cs',he,_⟩:=h10;cases he
  |yld r b=>cases h10
  |fam e n jr x=>obtain⟨_,_,he,_⟩:=h10;cases he
  |rows n g=>obtain⟨_,he,_⟩:=h10;cases he
  |dead=>simp[D3,J4]at hb
 have hA:∀{v:Value}{x:AV},RS C st w rho v x->∀{y:AV},leA st.regs ids x y->inA (t.regs.map (·.1)) y=true->(∀i∈Ff x y,i∈Rl st.env t.env++Fg ids st.regs t.regs)->RepA w (Prv C.X (A2 t.regs) (PK ids rho)) (Lv (A2 t.regs)) (PK ids rho) v y:=
  fun hx y hle hin hs=>hx.le (live':=Lv (A2 t.regs)) hk hlk hnil hjs hv hle hin hs
 have hseenR:∀{r:B5}{j i:Nat}{cs cs' : List AV},(∀(q:Nat) (p:Obj),(q,p)∈r->(q,p)∈t.regs)->lk ids j=some i->((j,Obj.cells cs)∈r/\A2 st.regs i=some (.cells cs') \/ (j,Obj.ghost cs)∈r/\A2 st.regs i=some (.ghost cs'))->∀x∈Hl cs' cs,x∈Fg ids st.regs r:=by
  intro r
  induction r with
  |nil=>intro j i cs cs' _ _ h;simp at h
  |cons p r ih=>
   intro j i cs cs' hsub hi hm x hx;obtain⟨q,p⟩:=p;have hrec:((j,Obj.cells cs)∈r/\A2 st.regs i=some (.cells cs') \/ (j,Obj.ghost cs)∈r/\A2 st.regs i=some (.ghost cs'))->x∈Fg ids st.regs r:=fun hm'=>ih (fun q p hqp=>hsub q p (Wr _ hqp)) hi hm' x hx;rcases hm with⟨hm,hr⟩ | ⟨hm,hr⟩
   .rcases WH.1 hm with he|hm
    .cases he;simp only[Fg,hi,hr];exact Wt _ hx
    have:=hrec (.inl ⟨hm,hr⟩)
    cases p<;>simp only[Fg]<;>first|exact Wl _ this|exact this
   rcases WH.1 hm with he|hm
   .cases he;simp only[Fg,hi,hr];exact Wt _ hx
   have:=hrec (.inr ⟨hm,hr⟩)
   cases p<;>simp only[Fg]<;>first|exact Wl _ this|exact this
 refine⟨⟨⟨⟨?_,?_,?_,fun b off hX=>h.hp.bound b off hX⟩,h.ext,h.size,h.same,h.keep.trans hk,?_,?_⟩,?_,?_,h.marks⟩,hpi⟩
 .intro j p u;rcases BR hR u with⟨i,o,h1,h2,d⟩ | ⟨h1,e,k,f,vw,rfl⟩
  .rw[hlk j i h1];have hh:=h.hp.holds i o h2;have hmem:=Kq u;have hin:=hwr _ hmem;cases p with
   |cells cs=>obtain⟨cs',rfl,hl⟩:=d;obtain⟨l1,g1⟩:=EE hl;obtain⟨b,c,T,hb,h4,h5,h6⟩:=hh;refine⟨b,c,T,hb,h4,h5.trans l1,fun q s=>⟨?_,(h6 q (by omega)).2⟩⟩;refine hA (h6 q (by omega)).1 (g1 q (by omega)).1 (EF hin q s) fun z hz=>Wl _ ?_;exact hseenR (fun _ _ h=>h) h1 (.inl ⟨hmem,h2⟩) z ((g1 q (by omega)).2 z hz)
   |vec e k n f vw=>
    obtain⟨g,vw',rfl,h4,h5⟩:=d;rcases hh with hn|⟨b,cap,c,hb,h6,h7,h8,h9,h10,h11⟩
    .exact .inl hn
    exact .inr ⟨b,cap,c,hb,h6,h7,h8,h9,fun q s=>by rw[<- h4 q s];exact h10 q s,fun q r s hr=>by rw[<- h4 q s];exact⟨(h11 q r s hr).1.keeps hk,(h11 q r s hr).2⟩⟩
   |map es=>have d:o=.map es:=d;subst d;obtain⟨b,ents,clock,hb,h4,h5,h6,h9⟩:=hh;exact⟨b,ents,clock,hb,h4,h5,fun q s=>⟨(h6 q s).1.keeps hk,(h6 q s).2.keeps hk⟩,h9⟩
   |arr n f=>obtain⟨g,rfl,h7⟩:=d;obtain⟨b,c,T,hb,h4,h5,h6⟩:=hh;exact⟨b,c,T,hb,h4,h5,fun q s=>by rw[<- h7 q s];exact⟨(h6 q s).1.keeps hk,(h6 q s).2⟩⟩
   |ghost cs=>obtain⟨cs',rfl,hl⟩:=d;obtain⟨l1,g1⟩:=EE hl;obtain⟨vs,hb,h5,h6⟩:=hh;refine⟨vs,hb,h5.trans l1,fun q s=>?_⟩;refine hA (h6 q (by omega)) (g1 q (by omega)).1 (EF hin q s) fun z hz=>Wl _ ?_;exact hseenR (fun _ _ h=>h) h1 (.inr ⟨hmem,h2⟩) z ((g1 q (by omega)).2 z hz)
   |yld r b=>have d:o=.yld r b:=d;subst d;exact hh
   |fam e n jr x=>
    obtain⟨jr',x',rfl,h4,h5⟩:=d;obtain⟨rv,g1,g2,hv2⟩:=hh;simp only[inO,Wa]at hin;refine⟨rv,hjs jr hin.1,(hlk _ _ h4).trans g2,?_⟩;rcases hv2 with hv2|⟨b,cap,c,hb,k1,k2,k3,k4,k5,k6⟩
    .exact .inl hv2
    refine .inr ⟨b,cap,c,hb,k1,k2,k3,k4,?_,?_⟩
    .intro q s;refine⟨(k5 q s).1,fun hx=>(k5 q s).2 ?_⟩;cases x with
     |none=>subst h5;exact hx
     |some y=>obtain⟨a',rfl,_⟩:=h5;exact hx
    cases x with
    |none=>trivial
    |some q=>obtain⟨i,a⟩:=q;obtain⟨a',rfl,h6,h7⟩:=h5;refine hA k6 h7 hin.2 fun z hz=>?_;cases a<;>cases a'<;>first|(simp[nov]at h6;done)|(unfold Ff at hz;simp at hz)
   |rows n g=>obtain⟨g',rfl,h4⟩:=d;obtain⟨rv,hb,k1,k2⟩:=hh;refine⟨rv,hb,fun q s=>by rw[<- h4 q s];exact (k1 q s).keeps' hk fun _ _=>rfl,fun q l b s hl h8 h9=>?_⟩;rw[<- h4 q s]at h8;rw[<- h4 l hl]at h9;exact k2 q l b s hl h8 h9
   |dead=>trivial
  rw[hnil j h1];exact .inl ⟨rfl,rfl⟩
 .intro i j oi oj b hi u hbi hbj;obtain⟨i',o1,h1,h2,d,_⟩:=hown i oi b hi hbi;obtain⟨j',o2,h4,h5,h6,_⟩:=hown j oj b u hbj
  have:=h.hp.sep i' j' o1 o2 b h2 h5 d h6
  subst this;exact UN hnd h1 h4
 .intro j p b off u hb;obtain⟨i,o,_,h2,d,_⟩:=hown j p b u hb;exact h.hp.out i o b off h2 d
 .rintro b ⟨j,p,u,hb⟩;obtain⟨i,o,_,h2,d,_⟩:=hown j p b u hb;exact h.own b ⟨i,o,h2,d⟩
 .intro j r b u;rcases BR hR u with⟨i,o,h1,h2,d⟩ | ⟨h1,e,k,f,vw,he⟩
  .have d:o=.yld r b:=d;subst d;rw[hlk j i h1];exact h.yld i r b h2
  cases he
 .intro x;rcases LM hE x with⟨b,h1,h2,d,h4⟩ | h1
  .rw[h2];exact hA (h.env x) d (hwe _ h1) fun z hz=>Wt _ (h4 z hz)
  rw[h1];exact .top _
 intro j u hl;obtain⟨p,hp⟩:=Wj.1 hl;rcases BR hR hp with⟨i,o,h1,h2,d⟩ | ⟨h1,_⟩
 .have:=UO hpin h1 u
  subst this;rw[hlk _ _ h1];exact h.pin _ u (by simp[Lv,h2])
 exfalso
 have:∀{r:B5},Jw ids r=true->(j,p)∈r->False:=by
  intro r
  induction r with
  |nil=>intro _ hm;simp at hm
  |cons q r ih=>
   intro s hm;obtain⟨x,y⟩:=q;simp only[Jw,Wa,Xq,decide_eq_true_eq]at s;rcases WH.1 hm with he|hm
   .cases he;rcases s.1 with h5|h5
    .rw[h1]at h5;cases h5
    omega
   exact ih s.2 hm
 exact this hpn (Kq hp)
theorem semUp.le {ids:List (Nat×Nat)}{K:St->Prop}(hle:Le ids st t)(b:K t):semUp st K:=fun C a w rho hs=>⟨t,_,b,(hs.le hle).2,(hs.le hle).1⟩
end
end Go.AM
