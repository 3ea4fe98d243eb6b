/- Part 2. -/
import Derived.Test.YtppapmfonjmfbaaGreatDoorRA
import Derived.Laws.BytesString
import Derived.Laws.StructEq
import Derived.ChangeKeysEq
import Derived.RangeFuncRecord
import Derived.Lib.TrailingZeros
set_option linter.defProp false
set_option linter.unusedSimpArgs false
set_option linter.unusedVariables false
set_option linter.unusedSectionVars false
namespace Go.AM
def AR0:=@Bool.false_eq_true
def AR6:=@Go.Result.andThen_ok
def AR8:=@Option.isSome_iff_exists
def AS5:=@List.map_congr_left
def AS7:=@Bool.not_eq_true'
def AS8:=@Option.some.inj
def AT1:=@List.mem_of_getElem?
def AT4:=@Nat.not_lt_zero
def AT7:=@Go.Sem.run_bind
def AT9:=@List.mem_cons
def AU0:=@Classical.byContradiction
def AU6:=@List.contains_eq_mem
def AU9:=@List.mem_range
def AV3:=@Go.Sem.run_pure
def AW0:=@List.nodup_cons
def AW7:=@List.mem_iff_getElem?
def AW9:=@List.getElem?_cons_zero
def AX0:=@Function.comp_def
def AX2:=@Option.getD_none
def AX5:=@List.nodup_nil
def AX8:=@List.map_map
def AY0:=@List.drop_eq_nil_of_le
def AY4:=@Array.getElem?_modify
def AY5:=@Array.getElem?_append
def AZ0:=@Option.bind_eq_some_iff
def AZ5:=@List.all_cons
def AZ9:=@List.drop_eq_getElem_cons
def Ba0:=@List.mem_iff_getElem
def Ba3:=@List.append_nil
def Ba4:=@List.length_nil
def Ba5:=@Int.emod_eq_of_lt
def Ba6:=@Array.getElem?_setIfInBounds_ne
def Bb0:=@List.take_succ_cons
def Bc2:=@Array.getElem_modify
def Bc3:=@List.drop_drop
def Bc6:=@List.range'_succ
def Bd2:=@Bool.not_true
def Bd3:=@List.foldl_cons
def Bd4:=@Bool.true_and
def Bd5:=@List.getElem?_cons_succ
def Bd7:=@List.getElem?_set_self
def Be7:=@List.getElem?_set_ne
def Bf1:=@Array.getElem?_push
def Bf2:=@List.getElem?_concat_length
def Bf4:=@Array.toList_setIfInBounds
def Bf8:=@List.take_zero
def Bh4:=@Array.mem_of_getElem?
def Bh6:=@Option.map_none
def Bh7:=@List.length_set
def Bi9:=@Nat.pos_of_ne_zero
def Bj0:=@Array.foldl_toList
def Bk1:=@Int.toNat_le
def Bk3:=@Nat.mod_one
section
variable {P:Program}{C:Ctx}{st:St}{a:Act}{w:World}{rho:Nat->Value}{o:Oper}{out:Out}{d:Nat}
theorem Se (h:Sat C st a w rho){t:TypeId}{x ix:Operand}(u:o.op=.indexAddr t x ix)(he:aop P st.env st.regs d o.op=some out)(hc:D0 out.cond):OpOk P C o st a w rho out:=by
 rw[u]at he;simp only[aop]at he;split at he
 .rename_i i hi;split at he
  .rename_i c y hy;cases he;obtain⟨ik,q⟩:=Bt (h.aev ix) hi;have hx:=h.aev x;unfold EB at hy;split at hy
   .
    rename_i n e j oo hk l;split at hy
    .rename_i m hm;cases hy;rw[l]at hx;generalize g:a.eval x=v at hx;cases hx with
     |reg j off b hl hr=>refine OpOk.pure h (v:=.pointer (some ⟨b,oo+i.toNat*m,none⟩)) ?_ (.reg j _ b hl hr);have h1:(0<=i/\i<(n:Int)):=hc;simp[execOp,u,Instr.indexAt,q,asIntOf,AE w (LW hk),g,Instr.sureAddr,h1,Ht w hm,AW6]
    cases hy
   .rename_i n e cs hk l;split at hy
    .rename_i m hm;cases hy;rw[l]at hx;have hx:=hx.toP;generalize g:a.eval x=v at hx;cases hx with
     |ptr b off cs c hcell hrep=>
      refine OpOk.pure h (v:=.pointer (some ⟨b,off+i.toNat*m,none⟩)) ?_ (.p _ _ (.ptr b _ _ (fun j=>c (i.toNat*m+j)) (fun j hj=>?_) fun j hj=>?_))
      .have h1:(0<=i/\i<(n:Int)):=hc;simp[execOp,u,Instr.indexAt,q,asIntOf,AE w (LW hk),g,Instr.sureAddr,h1,Ht w hm,AW6]
      .simp only[AS9]at hj
       have:=hcell (i.toNat*m+j) (by omega)
       rwa [<- Bd1]at this
      simp only[AS9]at hj
      have:=hrep (i.toNat*m+j) (by omega)
      simpa[AQ1,AX1]using this
    cases hy
   .rename_i e nn k n f hk l;split at hy
    .rename_i hm;cases hy;rw[l]at hx;have hx:=hx.toP;have h1:(0<=i/\i<(n:Int)):=hc;generalize g:a.eval x=v at hx;cases hx with
     |slnil=>omega
     |sl _ b off cap _ _ _ c hn hlen hcell hrep sp hsp=>
      have s:i.toNat<n:=by omega
      obtain rfl:=hsp (by omega);refine OpOk.pure h (v:=.pointer (some ⟨b,off+i.toNat*k,none⟩)) ?_ (.p _ _ (.ptr b _ _ (fun j=>c i.toNat j) (fun j hj=>?_) fun j hj=>?_))
      .simp[execOp,u,Instr.indexAt,q,asIntOf,AE w (G9 hk),g,h1,Ht w hm,AW6]
      .rw[hlen _ s]at hj;exact hcell _ _ s hj
      rw[hlen _ s]at hj;exact hrep _ _ s hj
    cases hy
   .rename_i e j hk l;split at hy
    .rename_i e' k n f vw hj;split at hy
     .rename_i hm;cases hy;rw[l]at hx;have h1:(0<=i/\i<(n:Int)):=hc;generalize g:a.eval x=v at hx;cases hx with
      |vec j base nn cap hl hr=>
       have z:=h.hp.holds j _ hj;rw[hr]at z;rcases z with⟨_,rfl⟩ | ⟨b,cap',c,r,_⟩
       .omega
       cases r;refine OpOk.pure h (v:=.pointer (some ⟨b,i.toNat*k+0,none⟩)) ?_ (.elt j k _ _ b _ cap hl hr);simp[execOp,u,Instr.indexAt,q,asIntOf,AE w (G9 hk),g,h1,Ht w hm,AW6]
     cases hy
    .rename_i e' n jr x0 hj;split at hy
     .rename_i hm;cases hy;rw[l]at hx;have h1:(0<=i/\i<(n:Int)):=hc;generalize g:a.eval x=v at hx;cases hx with
      |vec j base nn cap hl hr=>
       obtain⟨rv,_,_,z⟩:=h.hp.holds j _ hj;rw[hr]at z;rcases z with⟨_,rfl⟩ | ⟨b,cap',c,r,_⟩
       .omega
       cases r;refine OpOk.pure h (v:=.pointer (some ⟨b,i.toNat*1+0,none⟩)) ?_ (.elt j 1 _ _ b _ cap hl hr);simp[execOp,u,Instr.indexAt,q,asIntOf,AE w (G9 hk),g,h1,Ht w hm,AW6]
     cases hy
    cases hy
   .rename_i e j m0 hk l;split at hy
    .rename_i e' k n f vw hj;split at hy
     .rename_i hm;cases hy;rw[l]at hx;have h1:(0<=i/\i<(m0:Int)/\m0<=n):=hc;generalize g:a.eval x=v at hx;cases hx with
      |vecp j _ base nn cap hl hr hmn=>
       have z:=h.hp.holds j _ hj;rw[hr]at z;rcases z with⟨_,rfl⟩ | ⟨b,cap',c,r,_⟩
       .omega
       cases r;refine OpOk.pure h (v:=.pointer (some ⟨b,i.toNat*k+0,none⟩)) ?_ (.elt j k _ _ b _ cap hl hr);simp[execOp,u,Instr.indexAt,q,asIntOf,AE w (G9 hk),g,h1.1,h1.2.1,Ht w hm,AW6]
     cases hy
    cases hy
   .rename_i e j n hk l;split at hy
    .rename_i hm;cases hy;rw[l]at hx;have h1:(0<=i/\i<(n:Int)):=hc;generalize g:a.eval x=v at hx;cases hx with
     |rsl j n b hl hr=>refine OpOk.pure h (v:=.pointer (some ⟨b,i.toNat,none⟩)) ?_ (.reg j _ b hl hr);simp[execOp,u,Instr.indexAt,q,asIntOf,AE w (G9 hk),g,h1,Ht w hm,AW6]
    cases hy
   cases hy
  cases he
 cases he
theorem Ai1 (h:Sat C st a w rho){t:TypeId}{x ix:Operand}(j:o.op=.index t x ix)(b:aop P st.env st.regs d o.op=some out)(hc:D0 out.cond):OpOk P C o st a w rho out:=by
 rw[j]at b;simp only[aop]at b;split at b
 .rename_i i hi;split at b
  .rename_i c y hy;cases b;obtain⟨ik,g⟩:=Bt (h.aev ix) hi;have hx:=h.aev x;unfold As3 at hy;split at hy
   .rename_i l hk f;cases hy;rw[f]at hx;have h1:(0<=i/\i<(l.length:Int)):=hc;refine OpOk.pure h (v:=.int .u8 ((l.getD i.toNat 0).toNat:Nat)) ?_ (.p _ _ (.v _));have q:i.toNat<l.length:=by omega
    simp[execOp,j,Instr.index,g,asIntOf,AE w (Hs hk),hx.toP.toStr,h1.1,bget,q,AQ1]
   .rename_i n e cs hk f;split at hy
    .rename_i m hm;split at hy
     .rename_i c' y' r;cases hy;rw[f]at hx;have hx:=hx.toP;obtain⟨s,z⟩:=(LQ _ _).1 hc;generalize a0:a.eval x=v at hx;cases hx with
      |agg vs cs hs h1 hrep=>obtain⟨u,hu,hr⟩:=OJ (rho:=rho) (live:=Lv (A1 st.regs)) hs h1 hrep r s;exact OpOk.pure h (by simp[execOp,j,Instr.index,g,asIntOf,AE w (LW hk),a0,z,Ht w hm,hu]) hr
     cases hy
    cases hy
   cases hy
  cases b
 cases b
theorem Cv {x:Value}{k:IntKind}{i:Int}(hx:x=.int k i){y:Nat}(h:0<=i/\i<=y)(code:BoundsCode):(Instr.sliceBound x y code).run P w=.ok i.toNat w:=by subst hx;simp[Instr.sliceBound,asIntOf,h]
def W1 (v:Option Value)(i:Option Int):Prop:=(v=none/\i=none) \/ ∃k n,v=some (.int k n)/\i=some n
theorem Dr {isS:Bool}{len cap:Nat}{lo a:Option Value}{l h:Option Int}(hl:W1 lo l)(b:W1 a h)(hc:0<=l.getD 0/\l.getD 0<=h.getD len/\h.getD len<=cap) :(Instr.sliceBounds isS len cap lo a none).run P w=.ok ((l.getD 0).toNat,(h.getD len).toNat,cap) w:=by
 have c:0<=h.getD len:=by omega
 rcases hl with⟨rfl,rfl⟩ | ⟨k,n,rfl,rfl⟩<;>rcases b with⟨rfl,rfl⟩ | ⟨k',n',rfl,rfl⟩<;>simp only[AX2,AR2]at hc c⊢
 .simp[Instr.sliceBounds]
 .simp[Instr.sliceBounds,Cv (P:=P) (w:=w) (k:=k') (i:=n') rfl (show 0<=n' /\ n' <= (cap:Int) by omega)]
 .simp[Instr.sliceBounds,Cv (P:=P) (w:=w) (k:=k) (i:=n) rfl (show 0<=n/\n<=(len:Int) by omega)]
 simp[Instr.sliceBounds,Cv (P:=P) (w:=w) (k:=k') (i:=n') rfl (show 0<=n' /\ n' <= (cap:Int) by omega),Cv (P:=P) (w:=w) (k:=k) (i:=n) rfl (show 0<=n/\n<=(n'.toNat:Int) by omega)]
theorem S6 {t e:TypeId}{k:Nat}(ht:tk P t=some (.slice e))(hm:tsz P e=some k){base:Option Addr}{len cap:Nat}{lo a:Option Value}{l h:Option Int}(hl:W1 lo l)(b:W1 a h)
 (hc:0<=l.getD 0/\l.getD 0<=h.getD len/\h.getD len<=cap) :
 (Instr.sliceAt t (.slice base len cap) lo a none).run P w=.ok (.slice (if cap=(l.getD 0).toNat then base else base.map (·.add ((l.getD 0).toNat*k))) ((h.getD len).toNat-(l.getD 0).toNat) (cap-(l.getD 0).toNat)) w:=by
 have hb:=Dr (P:=P) (w:=w) (isS:=true) hl b hc;simp[Instr.sliceAt,AE w (G9 ht),Instr.slice,hb,Ht w hm]
theorem PX {t:TypeId}(ht:tk P t=some .str){s:List UInt8}{lo a:Option Value}{l h:Option Int}(hl:W1 lo l)(b:W1 a h)(hc:0<=l.getD 0/\l.getD 0<=h.getD s.length/\h.getD s.length<=s.length) :(Instr.sliceAt t (.string ⟨s.toArray⟩) lo a none).run P w=.ok (.string ⟨((s.take (h.getD s.length).toNat).drop (l.getD 0).toNat).toArray⟩) w:=by have hb:=Dr (P:=P) (w:=w) (isS:=false) hl b hc;simp[Instr.sliceAt,AE w (Hs ht),Instr.slice,NK,hb,Ai0]
theorem Iy {t e:TypeId}{n:Nat}(ht:tk P t=some (.arr n e))(hm:tsz P e=some 1){b o:Nat}{lo a:Option Value}{h:Option Int}(hl:W1 lo none)(c:W1 a h)
 (hc:0<=h.getD n/\h.getD n<=n):(Instr.sliceAt t (.pointer (some ⟨b,o,none⟩)) lo a none).run P w=.ok (.slice (some ⟨b,o,none⟩) (h.getD n).toNat n) w:=by
 have hb:=Dr (P:=P) (w:=w) (isS:=false) hl c (len:=n) (cap:=n) (by simpa using hc);simp[Instr.sliceAt,AE w (LW ht),Instr.sureAddr,hb,Ht w hm,Addr.add]
theorem Zk {Pi:Nat->Nat->Prop}{b off cap k n l h' : Nat}{sp:Option Nat}{nn:Bool}{f:Nat->List PV}(m:RepP w Pi (.slice (some ⟨b,off,sp⟩) n cap) (.sl nn k n f))(o:l<=h')(r:h' <= n) :RepP w Pi (.slice (if cap=l then some ⟨b,off,sp⟩else some ((⟨b,off,sp⟩:Addr).add (l*k))) (h' - l) (cap-l)) (.sl nn k (h' - l) (fun i=>f (l+i))):=by
 cases m with
 |sl _ _ _ _ _ _ _ c hn hlen hcell hrep _ hsp=>
  have e:∃off' sp',(if cap=l then some (⟨b,off,sp⟩:Addr)else some ((⟨b,off,sp⟩:Addr).add (l*k)))=some ⟨b,off',sp'⟩/\(h' - l≠0->off' = off+l*k/\sp' = none):=by
   split
   .exact⟨off,sp,rfl,fun h=>by omega⟩
   by_cases a:l*k=0
   .exact⟨off,sp,by simp[Addr.add,a],fun h=>⟨by omega,hsp (by omega)⟩⟩
   exact⟨off+l*k,none,by simp[Addr.add,a],fun _=>⟨rfl,rfl⟩⟩
  obtain⟨off',sp',q,d⟩:=e;rw[q];refine .sl nn b off' (cap-l) k (h' - l) _ (fun i j=>c (l+i) j) (by omega) (fun i g=>hlen _ (by omega)) (fun i j g hj=>?_) (fun i j g hj=>hrep _ _ (by omega) hj) sp' (fun h=>(d (by omega)).2)
  have:=hcell (l+i) j (by omega) hj
  rw[(d (by omega)).1,show off+l*k+i*k+j=off+(l+i)*k+j by rw[Bc9];omega];exact this
theorem JE {Pi:Nat->Nat->Prop}{base:Option Addr}{len cap k n l h' : Nat}{nn:Bool}{f:Nat->List PV}(d:RepP w Pi (.slice base len cap) (.sl nn k n f))(a:l<=h')(g:h' <= n) :RepP w Pi (.slice (if cap=l then base else base.map (·.add (l*k))) (h' - l) (cap-l)) (.sl nn k (h' - l) (fun i=>f (l+i))):=by
 cases d with
 |slnil=>
  obtain rfl:h' = 0:=by omega
  obtain rfl:l=0:=by omega
  simpa using RepP.slnil (w:=w) (Pi:=Pi) k _
 |sl _ b off cap _ _ _ c hn hlen hcell hrep sp hsp=>exact Zk (.sl nn b off cap k _ f c hn hlen hcell hrep sp hsp) a g
theorem Bu (h:Sat C st a w rho){x:Option Operand}{i:Option (Option Int)}(b:x.map (fun o=>asInt (aev st.env o))=i):(i=none->W1 (x.map a.eval) none)/\∀n,i=some (some n)->W1 (x.map a.eval) (some n):=by
 subst b;cases x with
 |none=>exact⟨fun _=>.inl ⟨rfl,rfl⟩,fun n h=>by simp at h⟩
 |some o=>refine⟨fun h=>by simp at h,fun n hn=>?_⟩;simp only[AR5,AQ2]at hn;obtain⟨k,hk⟩:=Bt (h.aev o) hn;exact .inr ⟨k,n,by simp[hk],rfl⟩
theorem Sf (h:Sat C st a w rho){t:TypeId}{v:Value}{x:AV}(o:RS C st w rho v x){lo hi:Option Value}{l q:Option Int}(hl:W1 lo l)(d:W1 hi q){c:List Prop}{y:AV}{R' : B5}
 (g:EC P st.regs t x l q=some (c,y,R')) (hc:D0 c):∃u,(Instr.sliceAt t v lo hi none).run P w=.ok u w/\Sat C { st with regs:=R' } a w rho/\Kp C st.regs R' w w rho rho/\RepA w (Prv C.X (A1 R') rho) (Lv (A1 R')) rho u y:=by
 unfold EC at g;split at g
 .
  rename_i s hk;have o:=o.toP.toStr;subst o;have fin:∀(l' h' : Option Int),W1 lo l' -> W1 hi h' -> (0<=l'.getD 0/\l'.getD 0<=h'.getD s.length/\h'.getD s.length<=s.length)->y=.p (.str ((s.take (h'.getD s.length).toNat).drop (l'.getD 0).toNat))->R' = st.regs ->
   ∃u,(Instr.sliceAt t (.string ⟨s.toArray⟩) lo hi none).run P w=.ok u w/\Sat C { st with regs:=R' } a w rho/\Kp C st.regs R' w w rho rho/\RepA w (Prv C.X (A1 R') rho) (Lv (A1 R')) rho u y:=by
   rintro l' h' h1 h2 h3 rfl rfl;exact⟨_,PX hk h1 h2 h3,h,Kp.refl _ _ _ _,.p _ _ (.str _)⟩
  split at g<;>cases g
  .exact fin _ _ hl d (by simp only[D0,AX2]at hc⊢;omega) (by simp) rfl
  .exact fin _ _ hl d (by simp only[D0,AR2,AX2]at hc⊢;omega) (by simp) rfl
  .exact fin _ _ hl d (by simp only[D0,AR2,AX2]at hc⊢;omega) (by simp) rfl
  exact fin _ _ hl d (by simp only[D0,AR2]at hc⊢;omega) (by simp) rfl
 .
  rename_i e nn k n f hk;split at g
  .rename_i hm;have o:=o.toP;obtain⟨base,len,cap,rfl,hlen,r⟩:∃base len cap,v=.slice base len cap/\len=n/\n<=cap:=by
    cases o with
    |slnil=>exact⟨_,_,_,rfl,rfl,AQ8 _⟩
    |sl _ b off cap _ _ _ c hn=>exact⟨_,_,_,rfl,rfl,hn⟩
   subst hlen;have fin:∀(l' h' : Option Int),W1 lo l' -> W1 hi h' -> (0<=l'.getD 0/\l'.getD 0<=h'.getD len/\h'.getD len<=len)->y=.p (.sl nn k ((h'.getD len).toNat-(l'.getD 0).toNat) (fun i=>f ((l'.getD 0).toNat+i)))->R' = st.regs ->
    ∃u,(Instr.sliceAt t (.slice base len cap) lo hi none).run P w=.ok u w/\Sat C { st with regs:=R' } a w rho/\Kp C st.regs R' w w rho rho/\RepA w (Prv C.X (A1 R') rho) (Lv (A1 R')) rho u y:=by
    rintro l' h' h1 h2 h3 rfl rfl;refine⟨_,S6 hk hm h1 h2 (by omega),h,Kp.refl _ _ _ _,.p _ _ ?_⟩;exact JE o (by omega) (by omega)
   split at g<;>cases g
   .exact fin _ _ hl d (by simp only[D0,AX2]at hc⊢;omega) (by simp) rfl
   .exact fin _ _ hl d (by simp only[D0,AR2,AX2]at hc⊢;omega) (by simp) rfl
   .exact fin _ _ hl d (by simp only[D0,AR2,AX2]at hc⊢;omega) (by simp) rfl
   exact fin _ _ hl d (by simp only[D0,AR2]at hc⊢;omega) (by simp) rfl
  cases g
 .
  rename_i e hk;split at g
  .rename_i k hm;cases g;have h1:l.getD 0=0/\q.getD 0=0:=hc;have o:=o.toP.toV;subst o;have hz:q.getD ((0:Nat):Int)=0:=by simpa using h1.2
   refine⟨_,S6 hk hm hl d (len:=0) (cap:=0) (by omega),h,Kp.refl _ _ _ _,.p _ _ ?_⟩;rw[hz,h1.1];simpa using RepP.v (w:=w) (Pi:=PiS C st rho) (.slice none 0 0)
  cases g
 .
  rename_i m e cs hk;split at g
  .rename_i b;split at g
   .rename_i hm;obtain⟨hm,rfl⟩:=hm;cases g;have hc:0<=b/\b<=(cs.length:Int):=hc;cases o.toP with
    |ptr bb off _ c hcc q=>
     refine⟨_,Iy hk hm hl d hc,h,Kp.refl _ _ _ _,.p _ _ (.sl true bb off cs.length 1 b.toNat _ (fun i _=>c i) (by omega) (fun _ _=>rfl) (fun i j hi hj=>?_) (fun i j hi hj=>?_) none fun _=>rfl)⟩
     .obtain rfl:j=0:=by omega
      simpa using hcc i (by omega)
     obtain rfl:j=0:=by omega
     simpa using q i (by omega)
   cases g
  .split at g
   .rename_i hm;obtain⟨hm,rfl⟩:=hm;cases g;cases o.toP with
    |ptr bb off _ c hcc q=>
     refine⟨_,Iy hk hm hl d (by simp),h,Kp.refl _ _ _ _,.p _ _ (.sl true bb off cs.length 1 cs.length _ (fun i _=>c i) (AQ8 _) (fun _ _=>rfl) (fun i j hi hj=>?_) (fun i j hi hj=>?_) none fun _=>rfl)⟩
     .obtain rfl:j=0:=by omega
      simpa using hcc i (by omega)
     obtain rfl:j=0:=by omega
     simpa using q i (by omega)
   cases g
  cases g
 .
  rename_i e j hk;split at g
  .rename_i e' k n f vw hj;split at g
   .rename_i hm;obtain⟨hm,rfl⟩:=hm;cases o with
    |vec j base len cap hlv hr=>
    have r:len<=cap/\len=n:=by
     have q:=h.hp.holds j _ hj;rw[hr]at q;rcases q with⟨hn,rfl⟩ | ⟨b,cap',c,hb',_,hncap,_⟩
     .cases hn;exact⟨AQ8 _,rfl⟩
     cases hb';exact⟨hncap,rfl⟩
    obtain⟨r,rfl⟩:=r;obtain⟨hv1,hv2,hv3⟩:=h.viewed hj;have hsl:=hv1.sl (j:=j) (m:=len) (e:=e') (k:=k) (n:=len) (f:=f) (by simp[A2]) hr (AQ8 _);have z:(if cap=((none:Option Int).getD 0).toNat then base else base.map (·.add (((none:Option Int).getD 0).toNat*k)))=base:=by
     cases base with
     |none=>simp
     |some ad=>simp[Addr.add]
    split at g<;>cases g
    .refine⟨_,S6 hk hm hl d (len:=len) (cap:=cap) (by simp only[D0,AX2]at hc⊢;omega),h,Kp.refl _ _ _ _,?_⟩;rw[z];simpa using RepA.vec (w:=w) (Pi:=PiS C st rho) j base len cap hlv hr
    .refine⟨_,S6 hk hm hl d (len:=len) (cap:=cap) (by simp only[D0,AR2,AX2]at hc⊢;omega),h,Kp.refl _ _ _ _,?_⟩;rw[z];simp only[D0]at hc
     have:=RepA.vecp (w:=w) (Pi:=PiS C st rho) j _ base len cap hlv hr (Bk1.2 hc.2)
     simpa using this
    .refine⟨_,S6 hk hm hl d (len:=len) (cap:=cap) (by simp only[D0,AR2,AX2]at hc⊢;omega),hv1,⟨hv2,hv3⟩,.p _ _ ?_⟩;simp only[D0]at hc
     have:=JE hsl (l:=Int.toNat _) (h':=len) (Bk1.2 hc.2) (AQ8 _)
     simpa using this
    refine⟨_,S6 hk hm hl d (len:=len) (cap:=cap) (by simp only[D0,AR2]at hc⊢;omega),hv1,⟨hv2,hv3⟩,.p _ _ ?_⟩;simp only[D0]at hc
    have:=JE hsl (l:=Int.toNat _) (h':=Int.toNat _) (Int.toNat_le_toNat hc.2.1) (Bk1.2 hc.2.2)
    simpa using this
   cases g
  cases g
 cases g
theorem Ai2 (h:Sat C st a w rho){t:TypeId}{x:Operand}{lo j:Option Operand}(n:o.op=.slice t x lo j none)(b:aop P st.env st.regs d o.op=some out)(hc:D0 out.cond):OpOk P C o st a w rho out:=by
 rw[n]at b;simp only[aop]at b;have fin:∀(l g:Option Int),W1 (lo.map a.eval) l->W1 (j.map a.eval) g->∀c y R',EC P st.regs t (aev st.env x) l g=some (c,y,R')->out=⟨c,y,R'⟩->OpOk P C o st a w rho out:=by rintro l g hl i c y R' hs rfl;obtain⟨u,q,h1,f,r⟩:=Sf h (h.aev x) hl i hs hc;exact⟨_,u,w,rho,by simp[execOp,n,q],.inl rfl,h1,f,r⟩
 split at b
 .rename_i h1 f;split at b
  .rename_i hs;cases b;exact fin none none ((Bu h h1).1 rfl) ((Bu h f).1 rfl) _ _ _ hs rfl
  cases b
 .rename_i l h1 f;split at b
  .rename_i hs;cases b;exact fin (some l) none ((Bu h h1).2 l rfl) ((Bu h f).1 rfl) _ _ _ hs rfl
  cases b
 .rename_i l h1 f;split at b
  .rename_i hs;cases b;exact fin none (some l) ((Bu h h1).1 rfl) ((Bu h f).2 l rfl) _ _ _ hs rfl
  cases b
 .rename_i l m h1 f;split at b
  .rename_i hs;cases b;exact fin (some l) (some m) ((Bu h h1).2 l rfl) ((Bu h f).2 m rfl) _ _ _ hs rfl
  cases b
 cases b
end
end Go.AM
namespace Go.AM
section
variable {P:Program}{C:Ctx}{st:St}{a:Act}{w:World}{rho:Nat->Value}{o:Oper}{out:Out}{d:Nat}
theorem GT {Pi:Nat->Nat->Prop}{v:Value}{x:PV}{b:Bool}(h:RepP w Pi v x)(a:RN x=some b):v=.bool b:=by
 unfold RN at a;split at a<;>cases a
 .exact h.toBool
 exact h.toV
theorem JF {Pi:Nat->Nat->Prop}{t:TypeId}{k:TK}(hk:tk P t=some k){v u:Value}{x y:PV}(d:RepP w Pi v x)(f:RepP w Pi u y){r:Bool}(c:Uh k x y=some r)(D:Nat) :(Op.equalIn (D+1) t v u).run P w=.ok r w:=by
 unfold Uh at c;split at c
 .rename_i k' k1 a k2 b;split at c
  .rename_i g;subst g;cases c;rw[d.toInt,f.toInt];exact run_equalIn_int w D t k1 k' a b (RZ hk)
  cases c
 .split at c
  .rename_i a b ha hb;cases c;rw[GT d ha,GT f hb];exact run_equalIn_bool w D t a b (Ax8 hk)
  cases c
 .cases c;rw[d.toStr,f.toStr,run_equalIn_string w D t _ _ (Hs hk)];simp
 cases c
theorem Sg {n:Nat}{t:TypeId}{k:TK}{ks:List TK}(hk:tk P t=some k)(h:lay P n t=some ks)(hs:∀fs,k ≠ .struct fs):ks=[k]/\VN k=false:=by
 cases n with
 |zero=>simp[lay]at h
 |succ n=>obtain⟨dd,a,rfl⟩:=BA hk;simp only[lay,a]at h;cases dd<;>simp at h<;>first|exact⟨h.symm,rfl⟩ | exact Ln rfl (hs _)
theorem CA:∀{k1 k2:List TK}{a b:List PV}{r:Bool},Y0 (k1++k2) a b=some r->∃r1 r2,Y0 k1 (a.take k1.length) (b.take k1.length)=some r1/\Y0 k2 (a.drop k1.length) (b.drop k1.length)=some r2/\r=(r1&&r2)/\a.length=k1.length+k2.length/\b.length=k1.length+k2.length
 |[],k2,a,b,r,h=>by
  have hl:∀{k:List TK}{a b:List PV}{r:Bool},Y0 k a b=some r->a.length=k.length/\b.length=k.length:=by
   intro k
   induction k with
   |nil=>intro a b r h;cases a<;>cases b<;>simp[Y0]at h⊢
   |cons k ks ih=>
    intro a b r h;cases a with
    |nil=>simp[Y0]at h
    |cons x a=>
     cases b with
     |nil=>simp[Y0]at h
     |cons y b=>
      cases ks with
      |nil=>cases a<;>cases b<;>simp[Y0]at h⊢
      |cons k' ks=>
       simp only[Y0]at h;split at h
       .rename_i p q hp d
        have:=ih d
        simp only[AT5]at this⊢;omega
       cases h
  have:=hl h
  exact⟨true,r,by simp[Y0],by simpa using h,by simp,by simpa using this.1,by simpa using this.2⟩
 |k::k1,k2,a,b,r,h=>by
  cases a with
  |nil=>simp[Y0]at h
  |cons x a=>
   cases b with
   |nil=>simp[Y0]at h
   |cons y b=>
    cases c:k1++k2 with
    |nil=>
     obtain⟨rfl,rfl⟩:=List.append_eq_nil_iff.1 c;simp only[Ba3]at h;cases a with
     |cons _ _=>cases b<;>simp[Y0]at h
     |nil=>
      cases b with
      |cons _ _=>simp[Y0]at h
      |nil=>exact⟨r,true,by simpa using h,by simp[Y0],by simp,rfl,rfl⟩
    |cons k' ks'=>
     have h' : ∃p q,Uh k x y=some p/\Y0 (k1++k2) a b=some q/\r=(p&&q):=by
      rw[AV2,c]at h;simp only[Y0]at h;split at h
      .rename_i p q hp d;cases h;exact⟨p,q,hp,by rw[c];exact d,rfl⟩
      cases h
     obtain⟨p,q,hp,d,rfl⟩:=h';obtain⟨r1,r2,h1,f,rfl,g,i⟩:=CA (k1:=k1) d;refine⟨p&&r1,r2,?_,by simpa using f,by simp[Bool.and_assoc],by simp;omega,by simp;omega⟩;cases k1 with
     |nil=>simp only[Y0,Ba4,Bf8,AQ2]at h1;subst h1;simp[Y0,hp]
     |cons k'' k1=>simp only[AT5,Bb0];simp only[AT5]at h1;simp[Y0,hp,h1]
theorem De {l:List PV}{off:Nat}(d:PV)(h:off<l.length):(l.drop off).take 1=[l.getD off d]:=by rw[AZ9 h,Bb0,Bf8,AQ1,AQ5 h];rfl
structure RowP (w:World) (Pi:Nat->Nat->Prop) (vs:Array Value) (cs:List PV):Prop where
 size:vs.size=cs.length
 rep:∀i,i<cs.length->RepP w Pi (vs.getD i undef) (cs.getD i default)
theorem RowP.extract {Pi:Nat->Nat->Prop}{vs:Array Value}{cs:List PV}(h:RowP w Pi vs cs){off n:Nat}(hle:off+n<=cs.length):RowP w Pi (vs.extract off (off+n)) ((cs.drop off).take n):=by
 have hs:=h.size;refine⟨by simp;omega,fun i a=>?_⟩;simp only[AY7,AS9]at a
 have:=h.rep (off+i) (by omega)
 simpa[AQ0,Bb5,show i<min (off+n) vs.size-off by omega,show off+i<vs.size by omega,show off+i<cs.length by omega,AQ1,Bb6,show i<n by omega,AX1]using this
theorem Ay4 {Pi:Nat->Nat->Prop}:∀(n:Nat) (t:TypeId) (ks:List TK),lay P n t=some ks->YO P n t=true->∀(vs us:Array Value) (as bs:List PV) (off D:Nat) (r:Bool),n<=D ->
 RowP w Pi vs as->RowP w Pi us bs->off+ks.length<=as.length->off+ks.length<=bs.length->Y0 ks ((as.drop off).take ks.length) ((bs.drop off).take ks.length)=some r ->
 ∃x y,(part t vs off).run P w=.ok x w/\(part t us off).run P w=.ok y w/\(Op.equalIn D t x y).run P w=.ok r w:=by
 intro n
 induction n with
 |zero=>intro t ks h;simp[lay]at h
 |succ n ih=>
  intro t ks hl hh vs us as bs off D r hD hv j ha hb hc;obtain⟨D,rfl⟩:∃D',D=D' + 1:=⟨D-1,by omega⟩;cases hk:tk P t with
  |none=>
   have:P.underlying t=none:=by unfold tk at hk;cases j:P.underlying t<;>simp[j]at hk⊢
   simp[lay,this]at hl
  |some k=>
   by_cases hs:∀fs,k ≠ .struct fs
   .obtain⟨rfl,m⟩:=Sg hk hl hs;simp only[AW2]at ha hb hc;have ea:(as.drop off).take 1=[as.getD off default]:=by exact De _ (by omega)
    have eb:(bs.drop off).take 1=[bs.getD off default]:=by exact De _ (by omega)
    rw[ea,eb]at hc;simp only[Y0]at hc;have hvs:=hv.size;have hus:=j.size;refine⟨vs.getD off undef,us.getD off undef,?_,?_,JF hk (hv.rep off (by omega)) (j.rep off (by omega)) hc D⟩
    .simp[part,H7 w hk,m,AQ0,show off<vs.size by omega]
    simp[part,H7 w hk,m,AQ0,show off<us.size by omega]
   obtain⟨fs,rfl⟩:∃fs,k=.struct fs:=AU0 fun hn=>hs fun fs e=>hn ⟨fs,e⟩;obtain⟨fa,b,_⟩:=EE hk;simp only[lay,b]at hl;simp only[YO,b,AQ7,AS7]at hh;split at hl
   .rename_i l hlf;split at hl
    .rename_i q;cases hl;refine⟨.agg (vs.extract off (off+ks.length)),.agg (us.extract off (off+ks.length)),?_,?_,?_⟩
     .simp[part,H7 w hk,VN,Ht w q]
     .simp[part,H7 w hk,VN,Ht w q]
     have s:P.fieldsOf t=fa:=by simp[Program.fieldsOf,b]
     rw[run_equalIn_struct w D t _ _ (by rw[s];exact b) hh.1,s];have c:=hv.extract ha;have d:=j.extract hb;generalize hvs' : vs.extract off (off+ks.length)=vs' at c;generalize hus' : us.extract off (off+ks.length)=us' at d;generalize u : (as.drop off).take ks.length=as' at c hc;generalize v : (bs.drop off).take ks.length=bs' at d hc;have hal:as'.length=0+ks.length:=by rw[<- u];simp;omega
     have hbl:bs'.length=0+ks.length:=by rw[<- v];simp;omega
     have hin:∀(fl:List Field) (o:Nat) (l:List TK) (r:Bool),Aw6 (lay P n) fl o=some l->(fl.all fun f=>decide (f.name ≠ "_")&&YO P n f.type)=true->as'.length=o+l.length->bs'.length=o+l.length ->
      Y0 l (as'.drop o) (bs'.drop o)=some r->(Op.eqFields D vs' us' fl).run P w=.ok r w:=by
      intro fl
      induction fl with
      |nil=>intro o l r h1 _ h2 h3 z;simp only[Aw6,AQ2]at h1;subst h1;have e1:as'.drop o=[]:=AY0 (by simp at h2;omega);have e2:bs'.drop o=[]:=AY0 (by simp at h3;omega);rw[e1,e2]at z;simp only[Y0,AQ2]at z;subst z;simp[Op.eqFields]
      |cons f fl ihf=>
       intro o l r h1 h2 h3 z h5;simp only[Aw6]at h1;split at h1
       .cases h1
       rename_i a;have a:f.offset=o:=AU0 a;split at h1
       .rename_i ka hka;split at h1
        .rename_i kb hkb;cases h1;simp only[AZ5,AQ7,decide_eq_true_eq]at h2;obtain⟨⟨g,hhv⟩,i⟩:=h2;obtain⟨r1,r2,hr1,hr2,rfl,_,_⟩:=CA h5;simp only[AU4]at h3 z;obtain⟨x,y,hx,hy,he⟩:=ih f.type ka hka hhv vs' us' as' bs' o D r1 (by omega) c d (by omega) (by omega) hr1;have a0:=ihf (o+ka.length) kb r2 hkb (by simpa using i) (by omega) (by omega) (by simpa[Bc3,Nat.add_comm]using hr2);simp only[Op.eqFields,Ll g,AT7,a,hx,hy,he,AR6];cases r1
         .simp
         simp[a0]
        cases h1
       cases h1
     exact hin fa.toList 0 ks r hlf hh.2 hal hbl (by simpa using hc)
    cases hl
   cases hl
theorem JG {Pi:Nat->Nat->Prop}{t:TypeId}{v u:Value}{x y:PV}(f:RepP w Pi v x)(i:RepP w Pi u y){r:Bool}(b:NF P t x y=some r)(hc:D0 (OC P t)) :(Op.equal t v u).run P w=.ok r w/\(∀xs ys,v=.agg xs->u=.agg ys->P.eqGuardType P.depth t=false):=by
 unfold NF at b;unfold OC at hc;split at b
 .rename_i fs hk;simp only[hk,D0,Aw7,AQ7,AS7]at hc;split at b
  .rename_i ks xs ys c;refine⟨?_,fun _ _ _ _=>hc.2⟩;cases f with
   |agg vs _ hs1 _ hr1=>
   cases i with
   |agg us _ hs2 _ hr2=>
   obtain⟨fa,g,_⟩:=EE hk;have hl:=c;simp only[lay,g]at hl;split at hl
   .rename_i l m;split at hl
    .rename_i d;cases hl;have a:xs.length=ks.length/\ys.length=ks.length:=by
      have:=CA (k1:=ks) (k2:=[]) (by simpa using b)
      obtain⟨_,_,_,_,_,h1,j⟩:=this;exact⟨by simpa using h1,by simpa using j⟩
     obtain⟨x,y,hx,hy,n⟩:=Ay4 (P:=P) (w:=w) 10 t ks c hc.1 vs us xs ys 0 10000 r (by omega) ⟨hs1,hr1⟩ ⟨hs2,hr2⟩ (by omega) (by omega) (by simp[<- a.1];rw[a.1,<- a.2];simpa using b);have e1:(part t vs 0).run P w=.ok (.agg vs) w:=by
      have:vs.extract 0 ks.length=vs:=by rw[<- a.1,<- hs1];simp
      simp[part,H7 w hk,VN,Ht w d,this]
     have e2:(part t us 0).run P w=.ok (.agg us) w:=by
      have:us.extract 0 ks.length=us:=by rw[<- a.2,<- hs2];simp
      simp[part,H7 w hk,VN,Ht w d,this]
     rw[e1]at hx;rw[e2]at hy;cases hx;cases hy;exact n
    cases hl
   cases hl
  cases b
 .rename_i k o hk;refine⟨JF hk f i b 9999,fun xs ys h1 j=>?_⟩;subst h1;exfalso;cases f<;>unfold Uh at b<;>split at b<;>simp_all [RN]
 cases b
end
end Go.AM
namespace Go.AM
section
variable {P:Program}{C:Ctx}{st:St}{a:Act}{w:World}{rho:Nat->Value}{o:Oper}{out:Out}{d:Nat}
theorem Ai3 {op:BinOp}{t:TypeId}{k l:IntKind}{x y:Int}{c:List Prop}{r:PV}(hk:k=l \/ op=.shl \/ op=.shr)(a:RO op k x y=(c,r))(hc:D0 c)(Pi:Nat->Nat->Prop) :∃v,(binOp op t (.int k x) (.int l y)).run P w=.ok v w/\RepP w Pi v r:=by
 cases op<;>simp only[RO,AR3]at a<;>obtain⟨rfl,rfl⟩:=a
 case shl=>
  have:¬y<0:=by simp only[D0]at hc;omega
  exact⟨_,by first|(simp[binOp,Op.shift,this];done)|(simp[binOp,Op.shift,this];rfl),.v _⟩
 case shr=>
  have:¬y<0:=by simp only[D0]at hc;omega
  exact⟨_,by first|(simp[binOp,Op.shift,this];done)|(simp[binOp,Op.shift,this];rfl),.v _⟩
 all_goals
  obtain rfl:k=l:=by rcases hk with h|h|h<;>first|exact h|cases h
 case quo=>simp only[D0]at hc;exact⟨_,by first|(simp[binOp,Op.intDiv,hc];done)|(simp[binOp,Op.intDiv,hc];rfl),.v _⟩
 case rem=>simp only[D0]at hc;exact⟨_,by first|(simp[binOp,Op.intDiv,hc];done)|(simp[binOp,Op.intDiv,hc];rfl),.v _⟩
 case add=>exact⟨_,by first|(simp[binOp,Op.intArith];done)|(simp[binOp,Op.intArith];rfl),.v _⟩
 case sub=>exact⟨_,by first|(simp[binOp,Op.intArith];done)|(simp[binOp,Op.intArith];rfl),.v _⟩
 case mul=>exact⟨_,by first|(simp[binOp,Op.intArith];done)|(simp[binOp,Op.intArith];rfl),.v _⟩
 case and=>exact⟨_,by first|(simp[binOp,Op.intBits];done)|(simp[binOp,Op.intBits];rfl),.v _⟩
 case or=>exact⟨_,by first|(simp[binOp,Op.intBits];done)|(simp[binOp,Op.intBits];rfl),.v _⟩
 case xor=>exact⟨_,by first|(simp[binOp,Op.intBits];done)|(simp[binOp,Op.intBits];rfl),.v _⟩
 case andNot=>exact⟨.int k (G7 .andNot k x y),by simp only[binOp,ne_eq,not_true_eq_false,Lp,Op.intBits,G7];rfl,.v _⟩
 case eql=>exact⟨_,by first|(simp[binOp,Op.intCmp];done)|(simp[binOp,Op.intCmp];rfl),.bb _⟩
 case neq=>exact⟨_,by first|(simp[binOp,Op.intCmp];done)|(simp[binOp,Op.intCmp];rfl),.bb _⟩
 case lss=>exact⟨_,by first|(simp[binOp,Op.intCmp];done)|(simp[binOp,Op.intCmp];rfl),.bb _⟩
 case leq=>exact⟨_,by first|(simp[binOp,Op.intCmp];done)|(simp[binOp,Op.intCmp];rfl),.bb _⟩
 case gtr=>exact⟨_,by first|(simp[binOp,Op.intCmp];done)|(simp[binOp,Op.intCmp];rfl),.bb _⟩
 case geq=>exact⟨_,by first|(simp[binOp,Op.intCmp];done)|(simp[binOp,Op.intCmp];rfl),.bb _⟩
theorem Ds {op:BinOp}{t:TypeId}{x y:Operand}{v u:Value}(h1:¬(v=.nilIface/\u=.nilIface))(b:∀xs ys,v=.agg xs->u=.agg ys->P.eqGuardType P.depth t=false) :(eqGuard op t x y v u).run P w=.ok () w:=by
 have key:∀op,op=.eql \/ op=.neq->(eqGuard op t x y v u).run P w=.ok () w:=by
  intro op a;rcases a with rfl|rfl<;>simp only[eqGuard,Bd2,AR0,Lp]<;>split
  .exact Ln ⟨rfl,rfl⟩ h1
  .simp[run_program,b _ _ rfl rfl]
  .rfl
  .exact Ln ⟨rfl,rfl⟩ h1
  .simp[run_program,b _ _ rfl rfl]
  rfl
 cases op<;>first|exact key _ (.inl rfl)|exact key _ (.inr rfl)|rfl
theorem Df {t:TypeId}{v u:Value}{r:Bool}(h:(Op.equal t v u).run P w=.ok r w)(neg:Bool)(h1:∀k n,v ≠ .int k n)(a:∀s,v ≠ .string s)(b:∀k n,v ≠ .float k n)(c:∀k n m,v ≠ .complex k n m) :(binOp (if neg then .neq else .eql) t v u).run P w=.ok (.bool (r != neg)) w:=by
 cases neg
 .have:binOp .eql t v u=(do pure (.bool (<- Op.equal t v u)):Sem Value):=by cases v<;>first|rfl|exact Ln rfl (h1 _ _)|exact Ln rfl (a _)|exact Ln rfl (b _ _)|exact Ln rfl (c _ _ _)
  simp[this,h]
 have:binOp .neq t v u=(do pure (.bool (!(<- Op.equal t v u))):Sem Value):=by cases v<;>first|rfl|exact Ln rfl (h1 _ _)|exact Ln rfl (a _)|exact Ln rfl (b _ _)|exact Ln rfl (c _ _ _)
 simp[this,h]
theorem OL {Pi:Nat->Nat->Prop}{t:TypeId}{v u:Value}{x y:PV}(d:RepP w Pi v x)(f:RepP w Pi u y){r:Bool}(c:NF P t x y=some r) :(∃k a b,v=.int k a/\u=.int k b/\r=(a==b)) \/ (∃a b,v=.bool a/\u=.bool b) \/ (∃a b:List UInt8,v=.string ⟨a.toArray⟩/\u=.string ⟨b.toArray⟩/\r=(a==b)) \/ (∃a b,v=.agg a/\u=.agg b):=by
 unfold NF at c;split at c
 .split at c
  .cases d;cases f;exact .inr (.inr (.inr ⟨_,_,rfl,rfl⟩))
  cases c
 .unfold Uh at c;split at c
  .split at c
   .rename_i hk;subst hk;cases c;exact .inl ⟨_,_,_,d.toInt,f.toInt,rfl⟩
   cases c
  .split at c
   .rename_i ha hb;cases c;exact .inr (.inl ⟨_,_,GT d ha,GT f hb⟩)
   cases c
  .cases c;exact .inr (.inr (.inl ⟨_,_,d.toStr,f.toStr,rfl⟩))
  cases c
 cases c
theorem Iz {Pi:Nat->Nat->Prop}{e:TypeId}{k:TK}(hk:tk P e=some k)(hb:Ar9 k=true){vs us:Array Value}{as bs:List PV}(f:RowP w Pi vs as)(g:RowP w Pi us bs)(D:Nat) :∀(m j:Nat) (r:Bool),as.length=j+m->bs.length=j+m->Y0 (List.replicate m k) (as.drop j) (bs.drop j)=some r->(Op.eqItems (D+1) e 1 vs us (List.range' j m)).run P w=.ok r w
 |0,j,r,ha,hbl,h=>by rw[AY0 (by omega),AY0 (by omega)]at h;simp only[List.replicate,Y0,AQ2]at h;subst h;simp[Op.eqItems]
 |m+1,j,r,ha,hbl,h=>by
  have b:VN k=false:=by cases k<;>first|rfl|cases hb
  rw[List.replicate_succ]at h;obtain⟨r1,r2,a,c,rfl,_,_⟩:=CA (k1:=[k]) (k2:=List.replicate m k) h;simp only[AW2]at a c;rw[De default (by omega),De default (by omega)]at a;simp only[Y0]at a;have i:=f.size;have l:=g.size;have hx:(part e vs (j*1)).run P w=.ok (vs.getD j undef) w:=by simp[part,H7 w hk,b,AQ0,show j<vs.size by omega]
  have hy:(part e us (j*1)).run P w=.ok (us.getD j undef) w:=by simp[part,H7 w hk,b,AQ0,show j<us.size by omega]
  have n:=JF hk (f.rep j (by omega)) (g.rep j (by omega)) a D;have d:=Iz hk hb f g D m (j+1) r2 (by omega) (by omega) (by simpa[Bc3,Nat.add_comm]using c);simp only[Bc6,Op.eqItems,AT7,hx,hy,n,AR6];cases r1
  .simp
  simp[d]
theorem Sh {Pi:Nat->Nat->Prop}{t:TypeId}{v u:Value}{x y:PV}(g:RepP w Pi v x)(j:RepP w Pi u y){r:Bool}(a:YP P t x y=some r) :(Op.equal t v u).run P w=.ok r w/\∃xs ys,v=.agg xs/\u=.agg ys:=by
 unfold YP at a;split at a
 .rename_i n e ht;split at a
  .rename_i k xs ys hk;split at a
   .rename_i hc;have b:=LW ht;cases g with
    |agg vs _ hs1 _ hr1=>
    cases j with
    |agg us _ hs2 _ hr2=>
    refine⟨?_,_,_,rfl,rfl⟩;obtain⟨i,f,c⟩:=AS2.1 (show (P.info? e).map (·.size)=some 1 from hc.2);have d:P.cellsOf e=1:=by simp[Program.cellsOf,f,c]
    have hl:xs.length=n/\ys.length=n:=by
     have:=CA (k1:=List.replicate n k) (k2:=[]) (by simpa using a)
     obtain⟨_,_,_,_,_,h1,l⟩:=this;exact⟨by simpa using h1,by simpa using l⟩
    show (Op.equalIn (9999+1) t (.agg vs) (.agg us)).run P w=_;rw[run_equalIn_array w 9999 vs us b f,d,List.range_eq_range'];exact Iz hk hc.1 ⟨hs1,hr1⟩ ⟨hs2,hr2⟩ 9998 n 0 r (by omega) (by omega) (by simpa using a)
   cases a
  cases a
 cases a
theorem Ay5 {t e:TypeId}(hk:P.underlying t=some (.pointer e))(d:Nat)(p q:Option Addr)(h:p=none \/ q=none):(Op.equalIn (d+1) t (.pointer p) (.pointer q)).run P w=.ok (p.isNone&&q.isNone) w:=by
 rcases h with rfl|rfl
 .simp[Op.equalIn,AE w hk]
 cases p<;>simp[Op.equalIn,AE w hk]
theorem Zl {t e:TypeId}(hk:P.underlying t=some (.slice e))(d:Nat)(p q:Option Addr)(n m k l:Nat)(h:p=none \/ q=none):(Op.equalIn (d+1) t (.slice p n m) (.slice q k l)).run P w=.ok (p.isNone&&q.isNone) w:=by
 rcases h with rfl|rfl
 .simp[Op.equalIn,AE w hk]
 cases p<;>simp[Op.equalIn,AE w hk]
theorem Ay6 {t e f:TypeId}(hk:P.underlying t=some (.map e f))(d:Nat)(p q:Option Nat)(h:p=none \/ q=none):(Op.equalIn (d+1) t (.map p) (.map q)).run P w=.ok (p.isNone&&q.isNone) w:=by
 rcases h with rfl|rfl
 .simp[Op.equalIn,AE w hk]
 cases p<;>simp[Op.equalIn,AE w hk]
theorem VU {t:TypeId}{a b:Array TypeId}{c:Bool}(hk:P.underlying t=some (.func a b c))(d:Nat):(Op.equalIn (d+1) t .nilFunc .nilFunc).run P w=.ok true w/\∀f x y,(Op.equalIn (d+1) t (.func f x y) .nilFunc).run P w=.ok false w:=
 ⟨by simp[Op.equalIn,AE w hk],fun f x y=>by simp[Op.equalIn,AE w hk]⟩
theorem Zm {t:TypeId}{ms:Array (String×TypeId)}(hk:P.underlying t=some (.interface ms))(d:Nat)(u:TypeId)(x:Value):(Op.equalIn (d+1) t (.iface u x) .nilIface).run P w=.ok false w:=by simp[Op.equalIn,AE w hk]
def Odd (v:Value):Prop:=(∀xs,v ≠ .agg xs)/\(∀k n,v ≠ .int k n)/\(∀s,v ≠ .string s)/\(∀k n,v ≠ .float k n)/\(∀k n m,v ≠ .complex k n m)
theorem Uo {Pi:Nat->Nat->Prop}{live:Nat->Prop}{t:TypeId}{v u:Value}{x y:AV}(d:RepA w Pi live rho v x)(g:RepA w Pi live rho u y){b:Bool}(i:Aw8 P t x y=some b) :(Op.equal t v u).run P w=.ok b w/\¬(v=.nilIface/\u=.nilIface)/\Odd v:=by
 show (Op.equalIn (9999+1) t v u).run P w=.ok b w/\_;generalize 9999=D;unfold Aw8 at i;split at i
 .rename_i e hk;have fin:∀p q:Option Addr,v=.pointer p->u=.pointer q->(p=none \/ q=none)->b=(p.isNone&&q.isNone)->(Op.equalIn (D+1) t v u).run P w=.ok b w/\¬(v=.nilIface/\u=.nilIface)/\Odd v:=by rintro p q rfl rfl h rfl;exact⟨Ay5 hk D p q h,by simp,by simp[Odd]⟩
  split at i<;>cases i
  .exact fin _ _ d.toP.toV g.toP.toV (.inl rfl) rfl
  .have:=g.toP;generalize u=u at this fin;cases this;exact fin _ _ d.toP.toV rfl (.inl rfl) rfl
  .generalize u=u at g fin;cases g;exact fin _ _ d.toP.toV rfl (.inl rfl) rfl
  .generalize u=u at g fin;cases g;exact fin _ _ d.toP.toV rfl (.inl rfl) rfl
  .have:=d.toP;generalize v=v at this fin;cases this;exact fin _ _ rfl g.toP.toV (.inr rfl) rfl
  .generalize v=v at d fin;cases d;exact fin _ _ rfl g.toP.toV (.inr rfl) rfl
  generalize v=v at d fin;cases d;exact fin _ _ rfl g.toP.toV (.inr rfl) rfl
 .rename_i e hk;have fin:∀(p q:Option Addr) (n m k l:Nat),v=.slice p n m->u=.slice q k l->(p=none \/ q=none)->b=(p.isNone&&q.isNone)->(Op.equalIn (D+1) t v u).run P w=.ok b w/\¬(v=.nilIface/\u=.nilIface)/\Odd v:=by rintro p q n m k l rfl rfl h rfl;exact⟨Zl hk D p q n m k l h,by simp,by simp[Odd]⟩
  split at i<;>cases i
  .exact fin _ _ _ _ _ _ d.toP.toV g.toP.toV (.inl rfl) rfl
  have:=d.toP;generalize v=v at this fin;cases this;exact fin _ _ _ _ _ _ rfl g.toP.toV (.inr rfl) rfl
 .rename_i e f hk;have fin:∀(p q:Option Nat),v=.map p->u=.map q->(p=none \/ q=none)->b=(p.isNone&&q.isNone)->(Op.equalIn (D+1) t v u).run P w=.ok b w/\¬(v=.nilIface/\u=.nilIface)/\Odd v:=by rintro p q rfl rfl h rfl;exact⟨Ay6 hk D p q h,by simp,by simp[Odd]⟩
  split at i<;>cases i
  .exact fin _ _ d.toP.toV g.toP.toV (.inl rfl) rfl
  generalize v=v at d fin;cases d;exact fin _ _ rfl g.toP.toV (.inr rfl) rfl
 .rename_i a c e hk;split at i<;>cases i
  .rw[d.toP.toV,g.toP.toV];exact⟨(VU hk D).1,by simp,by simp[Odd]⟩
  rw[g.toP.toV];cases d;exact⟨(VU hk D).2 _ _ _,by simp,by simp[Odd]⟩
 .rename_i ms hk;split at i<;>cases i
  rw[g.toP.toV];have:=d.toP;cases this;exact⟨Zm hk D _ _,by simp,by simp[Odd]⟩
 cases i
theorem Ai4 (h:Sat C st a w rho){op:BinOp}{t yt:TypeId}{x y:Operand}(ho:o.op=.binOp op t x y yt)(he:aop P st.env st.regs d o.op=some out)(hc:D0 out.cond):OpOk P C o st a w rho out:=by
 rw[ho]at he;simp only[aop]at he;split at he
 .rename_i c r hb;cases he;have hx:=h.aev x;have hy:=h.aev y;have fin:∀v,(eqGuard op t x y (a.eval x) (a.eval y)).run P w=.ok () w->(binOp op t (a.eval x) (a.eval y)).run P w=.ok v w->RepP w (PiS C st rho) v r->OpOk P C o st a w rho ⟨c,.p r,st.regs⟩:=by intro v h1 h2 f;exact OpOk.pure h (by simp[execOp,ho,h1,h2]) (.p _ _ f)
  unfold bin at hb;split at hb
  .rename_i k n l m j s;rw[j]at hx;rw[s]at hy;have u:=hx.toP.toInt;have a0:=hy.toP.toInt;have hg:(eqGuard op t x y (a.eval x) (a.eval y)).run P w=.ok () w:=Ds (by rw[u];simp) (by rw[u];simp);have key:RO op k n m=(c,r)/\(k=l \/ op=.shl \/ op=.shr):=by
    split at hb
    .cases hb;exact⟨rfl,.inr (.inl rfl)⟩
    .cases hb;exact⟨rfl,.inr (.inr rfl)⟩
    split at hb
    .rename_i hkl;exact⟨AS8 hb,.inl hkl⟩
    cases hb
   obtain⟨v,hv,hr⟩:=Ai3 (P:=P) (w:=w) (t:=t) key.2 key.1 hc (PiS C st rho);exact fin v hg (by rw[u,a0];exact hv) hr
  have eq:∀neg:Bool,op=(if neg then .neq else .eql)->eqA P t (aev st.env x) (aev st.env y) neg=some (c,r)->OpOk P C o st a w rho ⟨c,.p r,st.regs⟩:=by
   intro neg a1 i;unfold eqA at i;split at i
   .rename_i r' g;cases i;split at g
    .rename_i p q j s;rw[j]at hx;rw[s]at hy;have a2:=hx.toP;have a3:=hy.toP;obtain⟨h1,h2⟩:=JG a2 a3 g hc;have hg:(eqGuard op t x y (a.eval x) (a.eval y)).run P w=.ok () w:=by refine Ds ?_ h2;rintro⟨e1,e2⟩;rcases OL a2 a3 g with⟨_,_,_,f,_⟩ | ⟨_,_,f,_⟩ | ⟨_,_,f,_⟩ | ⟨_,_,f,_⟩<;>rw[e1]at f<;>cases f
     refine fin (.bool (r' != neg)) hg ?_ (.bb _);subst a1;rcases OL a2 a3 g with⟨k,n,m,f,z,rfl⟩ | ⟨n,m,f,z⟩ | ⟨n,m,f,z,rfl⟩ | ⟨n,m,f,z⟩
     .rw[f,z];cases neg<;>simp[binOp,Op.intCmp,bne]
     .exact Df h1 neg (by rw[f];simp) (by rw[f];simp) (by rw[f];simp) (by rw[f];simp)
     .rw[f,z];cases neg<;>simp[binOp,Op.stringOp]
     exact Df h1 neg (by rw[f];simp) (by rw[f];simp) (by rw[f];simp) (by rw[f];simp)
    cases g
   split at i
   .rename_i r' g;cases i;split at g
    .rename_i p q j s;rw[j]at hx;rw[s]at hy;obtain⟨h1,xs,ys,f,z⟩:=Sh hx.toP hy.toP g;have hg:(eqGuard op t x y (a.eval x) (a.eval y)).run P w=.ok () w:=
      Ds (by rw[f];simp) fun _ _ _ _=>by simpa[D0]using hc
     refine fin (.bool (r' != neg)) hg ?_ (.bb _);subst a1;exact Df h1 neg (by rw[f];simp) (by rw[f];simp) (by rw[f];simp) (by rw[f];simp)
    cases g
   split at i
   .rename_i b hnil;cases i;obtain⟨h1,h2,f,z,h5,h6,h7⟩:=Uo hx hy hnil;refine fin (.bool (b != neg)) (Ds h2 fun xs _ e _=>Ln e (f xs)) ?_ (.v _);subst a1;exact Df h1 neg z h5 h6 h7
   cases i
  split at hb
  .split at hb
   .rename_i l m j s;cases hb;rw[j]at hx;rw[s]at hy;have u:=hx.toP.toStr;have a0:=hy.toP.toStr;refine fin (.string ⟨(l++m).toArray⟩) (Ds (by rw[u];simp) (by rw[u];simp)) ?_ (.str _)
    have:¬(9223372036854775807<((l.length:Int)+(m.length:Int))):=by simp only[D0]at hc;omega
    have hmx:IntKind.i64.max=9223372036854775807:=rfl;rw[u,a0];simp[binOp,Op.stringOp,NK,Ay3,hmx,this]
   cases hb
  .exact eq false rfl hb
  .exact eq true rfl hb
  cases hb
 cases he
end
end Go.AM
namespace Go.AM
section
variable {P:Program}{C:Ctx}{st:St}{a:Act}{w:World}{rho:Nat->Value}{o:Oper}{out:Out}{d:Nat}
theorem Sat.grow (h:Sat C st a w rho){w' : World}(g:w.heap.size<=w'.heap.size)(c:∀b,b<w.heap.size->w'.heap[b]? = w.heap[b]?)(d:Ext w w':=by exact⟨rfl,rfl⟩):Sat C st a w' rho/\Kp C st.regs st.regs w w' rho rho:=by
 obtain⟨h1,l⟩:=h.step (R':=st.regs) (rho':=rho) (w':=w') (fun _=>False) (fun _ _=>rfl) (fun j hj=>⟨hj,rfl⟩) g (fun j h1 l=>Ln l h1) (fun j _ _ h=>h.elim) (fun b hb _=>c b hb)
  (fun j o b hj=>hj.elim) (fun i j oi oj b f=>f.elim) (fun i oi b off v f=>f.elim) (fun _ j o hj=>hj.elim) d
 exact⟨h1,l,fun i f=>⟨f,rfl⟩⟩
theorem JH (e:TypeId)(l:List UInt8):∃w' cap c,(Conv.stringToBytes e ⟨l.toArray⟩).run P w=.ok (.slice (some ⟨w.heap.size,0,none⟩) l.length cap) w' /\ Ext w w' /\ l.length<=cap/\w.heap.size<=w'.heap.size/\(∀b,b<w.heap.size->w'.heap[b]? = w.heap[b]?) /\
 ∀i,i<l.length->w'.cell? ⟨w.heap.size,i,none⟩=some (.int .u8 ((l.getD i 0).toNat:Nat))/\c=():=by
 have d:l.length<=grownCap w l.length 0 e:=grownCap_ge w _ _ e;refine⟨(w.drew.alloc (.cells ((l.toArray.map fun b=>Value.int .u8 (b.toNat:Nat))++Array.replicate (grownCap w l.length 0 e-l.length) (.int .u8 0)) e)).freeze ⟨w.heap.size,l.length+(grownCap w l.length 0 e-l.length),none⟩ 1,grownCap w l.length 0 e,(),?_,⟨rfl,rfl⟩,d,?_,?_,?_⟩
 .have f:∀arr:Array Value,(w.drew.alloc (.cells arr e)).shape? w.heap.size=some (e,arr.size):=by
   intro arr
   have:=heap_alloc_new w.drew (.cells arr e)
   simp only[World.size_drew]at this;unfold World.shape?;rw[this]
  simp[Conv.stringToBytes,NK,Question.forced,newRow,markStringish,f,grownCap]
 .simp[World.freeze]
 .intro b hb;have h1:b≠w.heap.size:=by omega
  simp only[World.freeze,Nat.one_ne_zero,Lp,AY4,Lm (AV5 h1)];exact heap_alloc_old w.drew _ b hb
 intro i g;refine⟨?_,rfl⟩;have a:=heap_alloc_new w.drew (.cells ((l.toArray.map fun b=>Value.int .u8 (b.toNat:Nat))++Array.replicate (grownCap w l.length 0 e-l.length) (.int .u8 0)) e);simp only[World.size_drew]at a;simp only[World.cell?,World.freeze,Nat.one_ne_zero,Lp,AY4,Lo,a,AR5];simp[AY5,g,AQ1]
theorem Up {Pi:Nat->Nat->Prop}{f:List PV}{v:Value}(a:(Ho f).isSome=true)(hl:f.length=1)(b:RepP w Pi v (f.getD 0 default)):∃n,v=.int .u8 n/\Ho f=some (UInt8.ofNat n.toNat):=by
 unfold Ho at a⊢;split at a
 .rename_i n;exact⟨n,b.toInt,rfl⟩
 cases a
theorem Xw (ns:List Int):∀s:ByteArray,ns.foldl (fun r n=>r.push (UInt8.ofNat n.toNat)) s=⟨s.data++(ns.map fun n=>UInt8.ofNat n.toNat).toArray⟩:=by
 induction ns with
 |nil=>intro s;simp
 |cons n ns ih=>intro s;rw[Bd3,ih];apply Bg3;show (s.data.push _)++_=s.data++_;apply Array.ext';simp
theorem IA {v:Value}{n:Nat}{news:List Value}(hs:(Builtin.firstCells 1 n v).run P w=.ok news.toArray w)(hl:(Builtin.lenOf v).run P w=.ok n w)(a:∃b k c,v=.slice b k c){ns:List Int}(hn:news=ns.map (Value.int .u8))(d:∀k c,v=.slice none k c->news=[]) :(Conv.bytesToString v).run P w=.ok (.string (ns.foldl (fun r n=>r.push (UInt8.ofNat n.toNat)) ByteArray.empty)) w:=by
 obtain⟨b,k,c,rfl⟩:=a;simp only[Builtin.lenOf,AV3,Result.ok.injEq,and_true]at hl;subst hl;cases b with
 |none=>
  have:=d k c rfl
  subst this
  have:ns=[]:=by cases ns<;>simp at hn⊢
  subst this;simp[Conv.bytesToString,ByteArray.empty,ByteArray.emptyWithCapacity]
 |some ad=>simp only[Builtin.firstCells,AV9]at hs;rw[hn]at hs;exact run_bytesToString w ad k c ns hs
theorem Xx (h:Sat C st a w rho){s t:TypeId}{x:Operand}(ho:o.op=.convert s t x)(u:aop P st.env st.regs d o.op=some out)(hc:D0 out.cond):OpOk P C o st a w rho out:=by
 rw[ho]at u;simp only[aop]at u;have hx:=h.aev x;split at u
 .rename_i k0 k hs ht;split at u
  .rename_i k1 n a1;cases u;rw[a1]at hx;refine OpOk.pure h (v:=.int k (k.wrap n)) ?_ (.p _ _ (.v _));simp[execOp,ho,convert,AE w (RZ hs),AE w (RZ ht),hx.toP.toInt,Conv.intToInt]
  cases u
 .rename_i hs ht;split at u
  .rename_i l a1;cases u;rw[a1]at hx;refine OpOk.pure h (v:=.string ⟨l.toArray⟩) ?_ (.p _ _ (.str _));simp[execOp,ho,convert,AE w (Hs hs),AE w (Hs ht),hx.toP.toStr]
  cases u
 .rename_i e hs ht;split at u
  .rename_i l a1 a4;cases u;rw[a1]at hx;obtain⟨w',cap,c,hr,hxt,hcap,hsz,a5,a6⟩:=JH (P:=P) (w:=w) e l;obtain⟨h1,h2⟩:=h.grow hsz a5 hxt;refine⟨_,_,w',rho,?_,.inl rfl,h1,h2,.p _ _ (.sl true w.heap.size 0 cap 1 l.length _ (fun i _=>.int .u8 ((l.getD i 0).toNat:Nat)) hcap (fun i z=>rfl) (fun i j z hj=>?_) (fun i j z hj=>?_) none fun _=>rfl)⟩
   .simp[execOp,ho,convert,AE w (Hs hs),AE w (G9 ht),AE w (RZ a4),hx.toP.toStr,hr]
   .obtain rfl:j=0:=by omega
    refine⟨by simpa using (a6 i z).1,?_,rfl⟩;rintro (hX|⟨j',o',hj',hbo,_⟩)
    .have:=h.hp.bound _ _ hX;omega
    have:=h.hp.lt ⟨j',o',hj',hbo⟩;omega
   obtain rfl:j=0:=by omega
   exact .v _
  cases u
 .rename_i e hs ht;split at u
  .rename_i a4;split at u
   .rename_i n f hsl q;cases u;have hc:∀i,i<n->(Ho (f i)).isSome=true:=hc;obtain⟨c,a2,hfl,hfr⟩:=Ma h hx q hs rfl;have hb:∀i,i<n->∃m,c i 0=.int .u8 m/\Ho (f i)=some (UInt8.ofNat m.toNat):=fun i z=>Up (hc i z) (hfl i z) (hfr i 0 z (by omega)).1;obtain⟨g,hg⟩:∃g:Nat->Int,∀i,i<n->c i 0=.int .u8 (g i)/\Ho (f i)=some (UInt8.ofNat (g i).toNat):=
     ⟨fun i=>if z:i<n then (hb i z).choose else 0,fun i z=>by simp only[z,dif_pos];exact (hb i z).choose_spec⟩
    have a7:AU c n 1=((List.range n).map g).map (Value.int .u8):=by simp only[AU,AV9,Nat.div_one,Bk3,AX8];apply AS5;intro i z;exact (hg i (AU9.1 z)).1
    have a0:∃b k cc,a.eval x=.slice b k cc:=by
     generalize a1:aev st.env x=y at hx hsl q;generalize a.eval x=v at hx;cases hx with
     |p _ y hy=>
      cases hy with
      |v y=>
       simp only[elems]at q;split at q<;>first
        |(rename_i a8;cases a8;exact⟨_,_,_,rfl⟩)
        |(cases q;done)
        |(rename_i a8;cases a8)
      |str l=>simp[As0]at hsl
      |slnil=>exact⟨_,_,_,rfl⟩
      |sl=>exact⟨_,_,_,rfl⟩
      |_=>simp[elems]at q
     |vec=>exact⟨_,_,_,rfl⟩
     |vecp=>exact⟨_,_,_,rfl⟩
     |_=>simp[elems]at q
    have hnil:∀k cc,a.eval x=.slice none k cc->AU c n 1=[]:=by intro k cc hv;have h1:=a2.cells;rw[hv]at h1;simp only[Builtin.firstCells,AV3,Result.ok.injEq,and_true]at h1;simpa using (congrArg Array.toList h1).symm
    have a3:=IA a2.cells (a2.len w) a0 a7 hnil;refine OpOk.pure h (v:=.string ⟨((List.range n).map fun i=>(Ho (f i)).getD 0).toArray⟩) ?_ (.p _ _ (.str _));have hfin:(((List.range n).map g).foldl (fun r m=>r.push (UInt8.ofNat m.toNat)) ByteArray.empty)=⟨((List.range n).map fun i=>(Ho (f i)).getD 0).toArray⟩:=by
     rw[Xw];apply Bg3;apply Array.ext';simp only[Bi7,AX8]
     have:ByteArray.empty.data.toList=[]:=rfl
     rw[this,List.nil_append];apply AS5;intro i z;simp[(hg i (AU9.1 z)).2]
    rw[hfin]at a3;obtain⟨b,k,cc,hv⟩:=a0;rw[hv]at a3;simp only[execOp,ho,hv];simp[run_convert_bytes_string w s t e b k cc (G9 hs) (RZ a4) (Hs ht),a3]
   cases u
  cases u
 cases u
theorem Si (h:Sat C st a w rho){t:TypeId}{l c:Operand}(ho:o.op=.makeSlice t l c)(q:aop P st.env st.regs d o.op=some out)(hc:D0 out.cond):OpOk P C o st a w rho out:=by
 rw[ho]at q;simp only[aop]at q;split at q
 .rename_i e n m hk hn hm y;split at q
  .rename_i k z u hz;split at q
   .rename_i a0;cases q;obtain⟨h1,h2,h3,h4⟩:0<=n/\n<=m/\m*CX P e<=140737488355328/\m<=140737488355328:=hc;obtain⟨kn,a1⟩:=Bt (h.aev l) hn;obtain⟨km,a2⟩:=Bt (h.aev c) hm;obtain⟨i,v,hi,hiz,rfl⟩:=Ai hz;have hk' : i.size=k:=by obtain⟨i',f,hs'⟩:=LB u;rw[hi]at f;cases f;exact hs'
    have hvz:v.cells.size=k:=by simpa using a0.1
    have hby:CX P e=i.bytes:=by simp[CX,Program.bytesOf,hi]
    rw[hby]at h3;have w64:∀x:Int,0<=x->x<=140737488355328->IntKind.i64.wrap x=x:=by intro x hx hx';have e1:x % (2 ^ 64:Int)=x:=Ba5 hx (by omega);unfold IntKind.wrap;simp only[IntKind.bits,IntKind.signed,e1];rw[Lm];simp;omega
    have hrange:(i.bytes:Int)*m<=140737488355328:=by have e:m*(i.bytes:Int)=(i.bytes:Int)*m:=Int.mul_comm _ _;omega
    obtain⟨arr,g⟩:∃arr:Array Value,arr=(Array.range (m.toNat*k)).map ((if m.toNat*k=0 then #[]else v.cells)[· % (if m.toNat*k=0 then #[]else v.cells).size]!):=⟨_,rfl⟩;have hrun:(Instr.makeSlice t (a.eval l) (a.eval c)).run P w=.ok (.slice (some ⟨w.heap.size,0,none⟩) n.toNat m.toNat) (w.alloc (.cells arr e)):=by
     have b1:¬(m<0):=by omega
     have b2:¬(281474976710656<(i.bytes:Int)*m):=by omega
     have b3:¬(n<0):=by omega
     have b4:¬(m<n):=by omega
     rw[g];by_cases r:m.toNat*k=0
     .simp[Instr.makeSlice,AE w (G9 hk),a1,a2,_root_.Go.asInt,asIntOf,Ax9 w hi,w64 n h1 (by omega),w64 m (by omega) h4,b1,b2,b3,b4,Ht w u,r,newRow]
     simp[Instr.makeSlice,AE w (G9 hk),a1,a2,_root_.Go.asInt,asIntOf,Ax9 w hi,w64 n h1 (by omega),w64 m (by omega) h4,b1,b2,b3,b4,Ht w u,r,newRow,Ag3 w hi hiz]
    have hget:∀i' j,i' < n.toNat->j<k->arr.getD (i' * k+j) undef=v.cells.getD j undef:=by
     intro i' j f hj;have hlt:=G3 (show i' < m.toNat by omega) hj;have r:¬(m.toNat*k=0):=by omega
     rw[g];simp only[r,Lp]
     have:(i' * k+j) % v.cells.size=j:=by rw[hvz,AY2,Bb7,AX7 hj]
     simp[AQ0,hlt,this,show j<v.cells.size by omega]
    obtain⟨h1',h2',h3'⟩:=h.fresh (Cc d 0) y (.vec e k n.toNat (fun _=>v.cells.toList.map Kw) false) (.slice (some ⟨w.heap.size,0,none⟩) n.toNat m.toNat) (w':=w.alloc (.cells arr e)) (by simp)
     (fun b hb=>heap_alloc_old w _ b hb) (fun b hb=>by simp[D6,K9]at hb;omega) (fun hk=>by
      refine .inr ⟨w.heap.size,m.toNat,arr,rfl,heap_alloc_new w _,by omega,by rw[g];simp,by simp only[maxLen];omega,fun i' f=>by simpa using hvz,fun i' j f hj=>?_⟩;rw[hget i' j f hj];have hj' : j<v.cells.size:=by omega
      have e:(v.cells.getD j undef)=v.cells[j]:=by simp[AQ0,hj']
      rw[e];refine⟨?_,?_⟩
      .simp only[AQ1,AQ9,AU7,AT8 hj',AR5,AR2];exact J9 _ _ _
      have s:=a0.2;simp only[AZ4,AR4,Function.comp]at s;exact (J9 w (fun _ _=>False) _).cell (s _ (by simp)))
    exact⟨_,_,_,_,by simp[execOp,ho,hrun],.inl rfl,h1',⟨h2',h3'⟩,.vec _ (some ⟨w.heap.size,0,none⟩) n.toNat m.toNat (by simp[Lv,A2]) (by simp)⟩
   cases q
  cases q
 cases q
theorem Sat.modifyN (h:Sat C st a w rho){j:Nat}{o ob:Obj}(hj:A1 st.regs j=some o)(n:∀b,¬D6 (rho j) o b)(l : ∀b,¬D6 (rho j) ob b)
 (t:Keeps w (PiS C st rho) w (Prv C.X (A1 (ins j ob st.regs)) rho)->HoldsO w (Prv C.X (A1 (ins j ob st.regs)) rho) (Lv (A1 (ins j ob st.regs))) rho (rho j) ob) (hy:∀r b,ob ≠ .yld r b:=by intro _ _ h;cases h) :
 Sat C { st with regs:=ins j ob st.regs } a w rho/\Kp C st.regs (ins j ob st.regs) w w rho rho:=by
 have d:∀i,Lv (A1 st.regs) i->Lv (A1 (ins j ob st.regs)) i/\rho i=rho i:=by
  intro i c;refine⟨?_,rfl⟩;simp only[Lv,A2];split
  .rfl
  exact c
 obtain⟨h1,u⟩:=h.step (R':=ins j ob st.regs) (rho':=rho) (w':=w) (· = j) (fun i c=>by rw[A2,Lm (AV5 c)]) d (AQ8 _)
  (fun i c f=>by
   simp only[Lv,A2]at c f;split at f
   .rename_i e;subst e;simp[hj]at c
   exact Ln f c)
  (fun i r b c q=>by subst c;simp only[A2,Lo,AQ2]at q;exact hy r b q)
  (fun b' _ _=>rfl)
  (fun i oi b' c m g=>by subst c;simp only[A2,Lo,AQ2]at m;subst m;exact Ln g (l b'))
  (fun i i' oi oi' b c f _ _ _ _=>c.trans f.symm)
  (fun i oi b' off v c s g _ _=>by subst c;rw[hj]at s;cases s;exact Ln g (n b'))
  (fun hk i oi c m=>by subst c;simp only[A2,Lo,AQ2]at m;subst m;exact t hk)
 exact⟨h1,u,d⟩
theorem Ai5 (h:Sat C st a w rho){c:Call}(hc:c.callee=.builtin .clear)(ho:o.op=.call c)(he:aop P st.env st.regs d o.op=some out):OpOk P C o st a w rho out:=by
 obtain⟨callee,args,types⟩:=c;simp only at hc;subst hc;rw[ho]at he;simp only[aop]at he;split at he
 .rename_i x t hargs y;split at he
  .rename_i e j hk hxe;split at he
   .rename_i e' k n f m z hj hsz hz;split at he
    .rename_i hzl;cases he;obtain⟨⟨rfl,hzl⟩,hall⟩:=hzl;obtain⟨args⟩:=args;obtain⟨types⟩:=types;simp only at hargs y;subst hargs;subst y;have hx:=h.aev x;rw[hxe]at hx;obtain⟨i,v,hi,hiz,rfl⟩:=Ai hz;have hvz:v.cells.size=m:=by simpa using hzl
     have fin:∀w',(Builtin.clear_ #[t] o.type #[a.eval x]).run P w=.ok (.tuple #[]) w' -> Sat C { st with regs:=ins j (.vec e' m n (fun _=>v.cells.toList.map Kw) false) st.regs } a w' rho/\Kp C st.regs (ins j (.vec e' m n (fun _=>v.cells.toList.map Kw) false) st.regs) w w' rho rho->OpOk P C o st a w rho ⟨[],PP,ins j (.vec e' m n (fun _=>v.cells.toList.map Kw) false) st.regs⟩:=fun w' h1 h2=>
      ⟨_,_,w',rho,by simp[execOp,ho,resolve,invoke,builtin,h1],.inl rfl,h2.1,h2.2,.p _ _ (.v _)⟩
     generalize hvx:a.eval x=vx at hx fin;cases hx with
     |vec j base n' cap hl hr=>
      have hh:=h.hp.holds j _ hj;rw[hr]at hh;rcases hh with⟨hn,rfl⟩ | ⟨b,cap',cc,g,s,hncap,hcsz,hmax,hlen,hrep⟩
      .cases hn;refine fin w (by simp[Builtin.clear_,AE w (G9 hk)]) ?_;exact h.modifyN hj (fun b hb=>by simp[D6,K9,hr]at hb) (fun b hb=>by simp[D6,K9,hr]at hb) fun _=>.inl ⟨hr,rfl⟩
      cases g;obtain⟨arr,harr⟩:∃arr,arr=Builtin.zeroCells v.cells n:=⟨_,rfl⟩;have r:arr.size=n*m:=by rw[harr];simp[Builtin.zeroCells,hvz]
      have hget:∀i' j,i' < n->j<m->arr.getD (i' * m+j) undef=v.cells.getD j undef:=by
       intro i' j hi' hj;have hlt:=G3 hi' hj;rw[harr];simp only[Builtin.zeroCells,hvz]
       have:(i' * m+j) % m=j:=by rw[AY2,Bb7,AX7 hj]
       simp[AQ0,hlt,this,show j<v.cells.size by omega]
      have hone:∀(w1:World) (Pi1:Nat->Nat->Prop) j,j<m->RepP w1 Pi1 (v.cells.getD j undef) ((v.cells.toList.map Kw).getD j default)/\(v.cells.getD j undef).oneCell' = true:=by
       intro w1 Pi1 j hj;have hj' : j<v.cells.size:=by omega
       have e:(v.cells.getD j undef)=v.cells[j]:=by simp[AQ0,hj']
       rw[e];refine⟨?_,?_⟩
       .simp only[AQ1,AQ9,AU7,AT8 hj',AR5,AR2];exact J9 _ _ _
       simp only[AZ4,AR4,Function.comp]at hall;exact (J9 w (fun _ _=>False) _).cell (hall _ (by simp))
      have hle:n*m<=cc.size:=by rw[hcsz];exact AS1 m hncap
      by_cases hn0:n=0
      .subst hn0;refine fin w (by simp[Builtin.clear_,AE w (G9 hk)]) ?_;obtain⟨h1,h2,h3⟩:=h.modify (ob:=.vec e' m 0 (fun _=>v.cells.toList.map Kw) false) hj (b:=b) (by simp[D6,K9,hr]) (fun _=>trivial) (fun b' g=>by simp[D6,K9,hr]at g;exact g.symm) (w':=w) rfl (fun _ _=>rfl) (fun hk=>.inr ⟨b,cap,cc,hr,s,AZ8 _,hcsz,hmax,fun i hi=>Ln hi (AT4 _),fun i _ hi=>Ln hi (AT4 _)⟩);exact⟨h1,h2,h3⟩
      have hst:=run_storeCells_at (P:=P) b 0 e' arr.toList 0 cc w s (by simp[r];omega) (fun u hu=>by
       obtain⟨q,hq,rfl⟩:=Bc7 hu;simp only[AU5]at hq;have hm0:0<m:=Bi9 fun e=>by rw[r,e]at hq;simp at hq
       have h5:=hget (q / m) (q % m) (Bi3 (by rw[AY2,<- r];exact hq)) (Bj9 _ hm0);rw[AY2,Nat.div_add_mod]at h5;have h6:=(hone w (fun _ _=>False) (q % m) (Bj9 _ hm0)).2;rw[<- h5]at h6;simpa[AQ0,hq]using h6)
      simp only[AX6,AT6,Bf8,List.nil_append,AU5]at hst;refine fin (w.setRow b (arr.toList++cc.toList.drop arr.size).toArray) ?_ ?_
      .cases n with
       |zero=>exact Ln rfl hn0
       |succ n=>simp[Builtin.clear_,AE w (G9 hk),Ag3 w hi hiz,<- harr,hst]
      obtain⟨h1,h2,h3⟩:=h.modify (ob:=.vec e' m n (fun _=>v.cells.toList.map Kw) false) hj (b:=b) (by simp[D6,K9,hr]) (fun _=>trivial) (fun b' g=>by simp[D6,K9,hr]at g;exact g.symm)
       (w':=w.setRow b (arr.toList++cc.toList.drop arr.size).toArray) (by simp) (fun b' g=>setRow_other w b b' _ g) (fun hk=>by
        refine .inr ⟨b,cap,_,hr,setRow_heap w b cc _ e' _ s,hncap,?_,hmax,fun l hl=>by simpa using hvz,fun l jj hl hjj=>?_⟩
        .simp[r];omega
        have hlt:=G3 hl hjj;have e1:((arr.toList++cc.toList.drop arr.size).toArray).getD (l*m+jj) undef=arr.getD (l*m+jj) undef:=by simp[AQ0,Bi2,r,hlt]
        rw[e1,hget l jj hl hjj];exact hone _ _ jj hjj)
      exact⟨h1,h2,h3⟩
    cases he
   cases he
  cases he
 cases he
end
end Go.AM
namespace Go.AM
section
variable {P:Program}{C:Ctx}{st:St}{a:Act}{w:World}{rho:Nat->Value}{o:Oper}{out:Out}{d:Nat}
theorem VV (off:Nat):∀(vs:List Value) (k:Nat) (cells:Array Value),off+k+vs.length<=cells.size ->
 ((vs.zipIdx k).foldl (fun cs (p:Value×Nat)=>cs.setIfInBounds (off+p.2) p.1) cells).toList=splice cells.toList (off+k) vs
 |[],k,cells,h=>by simp[splice]
 |v::vs,k,cells,h=>by simp only[AT5]at h;rw[List.zipIdx_cons,Bd3,VV off vs (k+1) _ (by simp;omega)];have e:=list_seg_step cells.toList (off+k) v vs (by simp;omega);simpa[splice,Bf4,Bd1]using e
theorem Sj (off:Nat)(vs:Array Value)(cells:Array Value)(h:off+vs.size<=cells.size) :(vs.zipIdx.foldl (fun cs (p:Value×Nat)=>cs.setIfInBounds (off+p.2) p.1) cells).toList=splice cells.toList off vs.toList:=by rw[<- Bj0,Array.toList_zipIdx];exact VV off vs.toList 0 cells (by simpa using h)
theorem NL (fs:List Field)(h:∀f∈fs,(tsz P f.type).isSome=true):(fs.mapM fun f=>(do pure (f.offset,<- sizeOf f.type):Sem (Nat×Nat))).run P w=.ok (fs.map fun f=>(f.offset,(tsz P f.type).getD 0)) w:=by
 induction fs with
 |nil=>simp
 |cons f fs ih=>obtain⟨m,hm⟩:=AR8.1 (h f (by simp));rw[List.mapM_cons];simp only[AT7,Ht w hm,AR6,AV3,ih fun g hg=>h g (by simp[hg]),AR9,hm,AR2]
theorem OM (h:Sat C st a w rho){place:Nat->Option (Nat×Nat)}:∀(parts:List (Nat×Operand)) (cs cs' : List AV) (c:Array Value) (f:List AV->Option (List AV)),
 (∀cs,Kx st.env place parts cs=f cs)->f cs=some cs' -> c.size=cs.length->RepL w (PiS C st rho) (Lv (A1 st.regs)) rho (fun i=>c.getD i undef) cs ->
 ∃c',Instr.fill place c (parts.map fun q=>(q.1,a.eval q.2))=some c' /\ c'.size=cs'.length/\RepL w (PiS C st rho) (Lv (A1 st.regs)) rho (fun i=>c'.getD i undef) cs'
 |[],cs,cs',c,f,hf,he,hs,hr=>by rw[<- hf]at he;simp only[Kx,AQ2]at he;subst he;exact⟨c,rfl,hs,hr⟩
 |(i,x)::parts,cs,cs',c,f,hf,he,hs,hr=>by
  rw[<- hf]at he;simp only[Kx]at he;split at he
  .rename_i off m g hp;split at he
   .rename_i l;have hc:=GS (h.aev x) g;have b:=Sj off (a.eval x).cells c (by omega);have j:((a.eval x).cells.zipIdx.foldl (fun cs (p:Value×Nat)=>cs.setIfInBounds (off+p.2) p.1) c).size=(splice cs off (cellsOf (aev st.env x))).length:=by rw[<- AU5,b,H0 _ _ _ (by simp;omega),H0 _ _ _ (by omega)];simpa using hs
    obtain⟨c',h1,n,o⟩:=OM h parts (splice cs off (cellsOf (aev st.env x))) cs' _ _ (fun _=>rfl) he j (by
     have:=RepL.splice (c:=c.toList) (cs:=cs) (vs:=(a.eval x).cells.toList) (new:=cellsOf (aev st.env x)) (off:=off) (by simpa using hs)
      (by intro i d;have:=hr i d;simpa only[B8]using this) (by simpa using hc.1) (by intro i d;have:=hc.2 i d;simpa only[B8]using this) (by omega)
     intro i d
     have:=this i d
     simpa only[B8,b]using this)
    refine⟨c', ?_,n,o⟩;simp only[AR9,Instr.fill,hp];rw[Lm (by simp;omega)];exact h1
   cases he
  cases he
theorem PY {t:TypeId}{i:TypeInfo}{v:Value}{Pi:Nat->Nat->Prop}{live:Nat->Prop}{rho:Nat->Value}(a:(v.cells.toList.map Kw).all He=true):RepL w Pi live rho (fun i=>v.cells.getD i undef) ((v.cells.toList.map Kw).map .p):=by
 intro i b;simp only[AU1,AU5]at b;have e:(v.cells.getD i undef)=v.cells[i]:=by simp[AQ0,b]
 simp only[e];refine⟨?_,?_⟩
 .simp only[AQ1,AQ9,AU7,AT8 b,AR5,AR2];exact .p _ _ (J9 _ _ _)
 simp only[AZ4,AR4,Function.comp]at a;exact (J9 w (fun _ _=>False) _).cell (a _ (by simp))
theorem Ai6 (h:Sat C st a w rho){t:TypeId}{parts:Array (Nat×Operand)}(l:o.op=.build t parts)(c:aop P st.env st.regs d o.op=some out):OpOk P C o st a w rho out:=by
 rw[l]at c;simp only[aop]at c;split at c
 .rename_i z x;split at c
  .rename_i cs g hb;cases c;simp only[AQ7]at g;obtain⟨i,v,u,j,rfl⟩:=Ai x;obtain⟨c',h1,y,h3⟩:=OM h (place:=OD P t) parts.toList _ cs v.cells _ (fun _=>rfl) hb (by simp) (PY (t:=t) (i:=i) g.1);refine OpOk.pure h (v:=.agg c') ?_ (h3.mkAgg y fun _ _=>rfl);have b:(parts.map fun q=>(q.1,a.eval q.2)).toList=parts.toList.map fun q=>(q.1,a.eval q.2):=by simp
   have hs:=g.2;unfold YQ at hs;split at hs
   .rename_i fs hk;obtain⟨fa,hu,rfl⟩:=EE hk;have hp:OD P t=fun i=>((fa.toList.map fun f=>(f.offset,(tsz P f.type).getD 0)).toArray)[i]?:=by
     funext i;simp only[OD,hk,AQ9,AU7,List.getElem?_toArray];cases r:fa[i]? with
     |none=>simp
     |some f=>
      simp only[AZ4,AR4,Function.comp]at hs
      have:=hs f (by have:=Bh4 r;simpa using this)
      obtain⟨m,hm⟩:=AR8.1 this;simp[hm]
    have hm:=NL (P:=P) (w:=w) fa.toList (fun f r=>by simp only[AZ4,AR4,Function.comp]at hs;exact hs f r)
    have s : (fa.mapM fun f=>(do pure (f.offset,<- sizeOf f.type):Sem (Nat×Nat))).run P w=.ok ((fa.toList.map fun f=>(f.offset,(tsz P f.type).getD 0)).toArray) w:=by obtain⟨fl⟩:=fa;rw[List.mapM_toArray];simp only[Sem.run_map,hm,AR6]
    rw[hp]at h1;simp only[execOp,l,AT7,Instr.build,Ag3 w u j,AR6,AE w hu,s,b,h1,AV3]
   .rename_i n e hk;obtain⟨m,hm⟩:=AR8.1 hs;have hp:OD P t=fun i=>some (i*m,m):=by funext i;simp[OD,hk,hm]
    rw[hp]at h1;simp only[execOp,l,AT7,Instr.build,Ag3 w u j,AR6,AE w (LW hk),Ht w hm,b,h1,AV3]
   cases hs
  cases c
 cases c
end
end Go.AM
namespace Go.AM
section
variable {P:Program}{C:Ctx}{st:St}{a:Act}{w:World}{rho:Nat->Value}{o:Oper}{out:Out}{d:Nat}
theorem Zn {regs R' : B5}{x:AV}{y:PV}(h:Eo regs x=some (y,R')){i:Nat}(a:A1 regs i=none):A1 R' i=none:=by
 unfold Eo at h;split at h
 .cases h;exact a
 .split at h
  .rename_i hj;cases h;rw[A2];split
   .rename_i e;subst e;rw[a]at hj;cases hj
   exact a
  cases h
 .split at h
  .rename_i hj;cases h;rw[A2];split
   .rename_i e;subst e;rw[a]at hj;cases hj
   exact a
  cases h
 .cases h;exact a
 .split at h
  .cases h;exact a
  cases h
 .split at h
  .cases h;exact a
  cases h
 cases h
theorem Ff:∀(xs:List Operand) (st:St) (l:List PV) (R' : B5),Sat C st a w rho->EA st.regs (xs.map (aev st.env))=some (l,R') ->
 Sat C { st with regs:=R' } a w rho/\Kp C st.regs R' w w rho rho/\l.length=xs.length/\(∀i x,xs[i]? = some x->RepP w (Prv C.X (A1 R') rho) (a.eval x) (l.getD i default))/\∀i,A1 st.regs i=none->A1 R' i=none
 |[],st,l,R',h,he=>by simp only[AY3,EA,AQ2,AR3]at he;obtain⟨rfl,rfl⟩:=he;exact⟨h,Kp.refl _ _ _ _,rfl,fun i x hx=>by simp at hx,fun i b=>b⟩
 |x::xs,st,l,R',h,he=>by
  simp only[AR9,EA]at he;split at he
  .rename_i y R1 f;split at he
   .rename_i l' R2 c;cases he;obtain⟨h1,j,m⟩:=Dk h (h.aev x) f;obtain⟨n,g,o,q,r⟩:=Ff xs { st with regs:=R1 } l' R' h1 c;refine⟨n,m.trans g,by simp[o],fun i z d=>?_,fun i b=>r i (Zn f b)⟩;cases i with
    |zero=>simp only[AW9,AQ2]at d;subst d;simpa using g.p j
    |succ i=>simpa using q i z (by simpa using d)
   cases he
  cases he
def Lh (F:Nat->List PV):List (Nat×List PV)->Nat->List PV
 |[],i=>F i
 |(j,x)::r,i=>if i=j then x else Lh F r i
theorem PZ (z:List PV)(l:List (Nat×List PV))(i:Nat):Lh (fun _=>z) l i=J5 z l i:=by
 induction l with
 |nil=>rfl
 |cons p r ih=>obtain⟨j,x⟩:=p;simp only[Lh,J5,ih]
theorem Mb {F:Nat->List PV}{j:Nat}{x:List PV}:∀(l:List (Nat×List PV)),(∀p∈l,p.1≠j)->∀i,Lh (fun i=>if i=j then x else F i) l i=if i=j then x else Lh F l i
 |[],_,i=>rfl
 |(k,y)::r,h,i=>by
  have hk:=h (k,y) (by simp);simp only[Lh,Mb r (fun p hp=>h p (by simp[hp])) i];by_cases e:i=k
  .subst e;simp only[Lo];rw[Lm hk]
  simp only[e,Lp]
theorem Uq {x:PV}(h:LO x=true):Cu (.p x)=true/\cellsOf (.p x)=(Br x).map .p:=by cases x<;>simp_all [LO,Cu,YN,cellsOf,Br]
theorem HM {Pi:Nat->Nat->Prop}{m n:Nat}:∀(ps:List (Nat×Value)) (xs:List PV) (c:Array Value) (F:Nat->List PV),ps.length=xs.length->Fd n m (ps.map (·.1)) xs=true ->
 (∀i x,ps[i]? = some x->RepP w Pi x.2 (xs.getD i default))->c.size=n*m->(∀i,i<n->(F i).length=m)->(∀i j,i<n->j<m->RepP w Pi (c.getD (i*m+j) undef) ((F i).getD j default)/\(c.getD (i*m+j) undef).oneCell' = true) ->
 ∃c',Instr.fill (fun i=>some (i*m,m)) c ps=some c' /\ c'.size=n*m/\(∀i,i<n->(Lh F ((ps.map (·.1)).zip (xs.map Br)) i).length=m) /\
  ∀i j,i<n->j<m->RepP w Pi (c'.getD (i*m+j) undef) ((Lh F ((ps.map (·.1)).zip (xs.map Br)) i).getD j default)/\(c'.getD (i*m+j) undef).oneCell' = true
 |[],xs,c,F,hl,f,hr,hs,hF,hc=>⟨c,rfl,hs,by simpa[Lh]using hF,by simpa[Lh]using hc⟩
 |(i0,v)::ps,[],c,F,hl,f,hr,hs,hF,hc=>by simp at hl
 |(i0,v)::ps,x::xs,c,F,hl,f,hr,hs,hF,hc=>by
  simp only[AR9,Fd,AQ7,decide_eq_true_eq,beq_iff_eq,AS7]at f;obtain⟨⟨a1,a2,a3⟩,r,f⟩:=f;obtain⟨s,t⟩:=Uq a2;have hv:RepP w Pi v x:=by simpa using hr 0 (i0,v) rfl
  obtain⟨u,y⟩:=GS (live:=fun _=>False) (rho:=fun _=>undef) (.p _ _ hv) s;rw[t]at u y;simp only[AU1]at u;have hle:i0*m+m<=n*m:=by rw[<- Be1];exact AS1 m a1
  have o:=Sj (i0*m) v.cells c (by omega);obtain⟨c1,a0⟩:∃c1,c1=v.cells.zipIdx.foldl (fun cs (p:Value×Nat)=>cs.setIfInBounds (i0*m+p.2) p.1) c:=⟨_,rfl⟩;rw[<- a0]at o;have a4:c1.size=n*m:=by rw[<- AU5,o,H0 _ _ _ (by simp;omega)];simpa using hs
  obtain⟨c',h1,h2,h3,h4⟩:=HM ps xs c1 (fun i=>if i=i0 then Br x else F i) (by simpa using hl) f (fun i z hz=>by simpa using hr (i+1) z (by simpa using hz)) a4
   (fun i q=>by
    by_cases e:i=i0
    .simp only[e,Lo];exact a3
    .simp only[e,Lp];exact hF i q) (fun i j q hj=>by
    rw[B8,o,T9 _ _ _ _ _ (by simp;omega)];by_cases d:i0*m<=i*m+j/\i*m+j<i0*m+v.cells.toList.length
    .rw[Ll d];simp only[AU5]at d;obtain⟨rfl,hjj⟩:=Zi (l:=i) (i:=i0) (k:=m) (a:=j) (b:=i*m+j-i0*m) (by omega) hj (by omega);simp only[Lo]
     have:=y j (by simp;omega)
     rw[show i*m+j-i*m=j by omega,<- B8];refine⟨?_,this.2⟩;have h5:=this.1;simp only[AQ1,AQ9,AQ5 (show j<(Br x).length by omega),AR5,AR2]at h5⊢;exact h5.toP
    rw[Lm d];have a5:i≠i0:=by rintro rfl;apply d;simp only[AU5];omega
    simp only[a5,Lp];rw[<- B8];exact hc i j q hj)
  have g:∀p∈(ps.map (·.1)).zip (xs.map Br),p.1≠i0:=by
   intro p hp e
   have:=(List.of_mem_zip hp).1
   rw[e]at this;simp only[AU6,decide_eq_false_iff_not]at r;exact r this
  refine⟨c', ?_,h2,fun i q=>?_,fun i j q hj=>?_⟩
  .simp only[Instr.fill];rw[Lm (by simp;omega)];rw[<- a0];exact h1
  .have:=h3 i q
   rw[Mb _ g]at this;simpa[Lh]using this
  have:=h4 i j q hj
  rw[Mb _ g]at this;simpa[Lh]using this
theorem Hu (h:Sat C st a w rho){t:TypeId}{n:Nat}{parts:Array (Nat×Operand)}(hf:Hn st.regs n (parts.toList.map fun q=>(q.1,aev st.env q.2))=none)(a6:Io n (parts.toList.map fun q=>(q.1,aev st.env q.2))=none)(ho:o.op=.buildSlice t n parts)(s:aop P st.env st.regs d o.op=some out)(hc:D0 out.cond):OpOk P C o st a w rho out:=by
 rw[ho]at s;simp only[aop,hf,a6]at s;split at s
 .rename_i e hk a0;split at s
  .rename_i l R' m z hv a7 hz;split at s
   .rename_i a8;cases s;have a9:Fd n m (parts.toList.map (·.1)) l=true:=hc;obtain⟨⟨hmax,b0⟩,r,a1⟩:=a8;have b1 : EA st.regs ((parts.toList.map (·.2)).map (aev st.env))=some (l,R'):=by simpa[AX8,AX0]using hv
    obtain⟨h1,h2,h3,h4,h5⟩:=Ff (parts.toList.map (·.2)) st l R' h b1;obtain⟨i,v,hi,b2,rfl⟩:=Ai hz;have b3:v.cells.size=m:=by simpa using r
    obtain⟨arr,c⟩:∃arr:Array Value,arr=(Array.range (n*m)).map ((if n*m=0 then #[]else v.cells)[· % (if n*m=0 then #[]else v.cells).size]!):=⟨_,rfl⟩;have a2:∀i' j,i' < n->j<m->arr.getD (i' * m+j) undef=v.cells.getD j undef:=by
     intro i' j f hj;have b4:=G3 f hj;have g:¬(n*m=0):=by omega
     rw[c];simp only[g,Lp]
     have:(i' * m+j) % v.cells.size=j:=by rw[b3,AY2,Bb7,AX7 hj]
     simp[AQ0,b4,this,show j<v.cells.size by omega]
    have b5:=PY (w:=w) (Pi:=Prv C.X (A1 R') rho) (live:=fun _=>False) (rho:=rho) (t:=t) (i:=i) a1;obtain⟨c',a3,b6,a4,y⟩:=HM (w:=w) (Pi:=Prv C.X (A1 R') rho) (m:=m) (n:=n) (parts.toList.map fun q=>(q.1,a.eval q.2)) l arr (fun _=>v.cells.toList.map Kw) (by simpa using h3.symm)
     (by simpa[AX8,AX0]using a9) (fun i x hx=>by
      rw[AQ9,AS2]at hx;obtain⟨q,hq,rfl⟩:=hx;exact h4 i q.2 (by rw[AQ9,hq];rfl)) (by rw[c];simp) (fun i hi=>r) (fun i' j f hj=>by
      rw[a2 i' j f hj]
      have:=b5 j (by simp;omega)
      refine⟨?_,this.2⟩;have h6:=this.1;simp only[AQ1,AQ9,AU7,AT8 (show j<v.cells.size by omega),AR5,AR2]at h6⊢;exact h6.toP)
    have b7:(parts.toList.map fun q=>(q.1,a.eval q.2)).map (·.1)=parts.toList.map (·.1):=by simp[AX8,AX0]
    rw[b7]at a4 y;have a5:(Instr.buildSlice t n (parts.map fun q=>(q.1,a.eval q.2))).run P w=.ok (.slice (some ⟨w.heap.size,0,none⟩) n n) (w.alloc (.cells c' e)):=by
     have u:(parts.map fun q=>(q.1,a.eval q.2)).toList=parts.toList.map fun q=>(q.1,a.eval q.2):=by simp
     have hb:¬(n*m>2 ^ 24):=by omega
     simp only[Instr.buildSlice,AT7,AE w (G9 hk),AR6,Ht w a7,Lm hb,u];by_cases g:n*m=0
     .simp only[Ll g]at c;rw[Ll g];simp only[AT7,AV3,AR6];rw[<- c,a3];simp[newRow]
     simp only[Lm g]at c;rw[Lm g];simp only[AT7,AV3,AR6,Ag3 w hi b2];rw[<- c,a3];simp[newRow]
    obtain⟨g1,g2,g3⟩:=h1.fresh (Cc d 0) (h5 _ a0) (.vec e m n (J5 (v.cells.toList.map Kw) ((parts.toList.map (·.1)).zip (l.map Br))) false) (.slice (some ⟨w.heap.size,0,none⟩) n n) (w':=w.alloc (.cells c' e)) (by simp)
     (fun b hb=>heap_alloc_old w _ b hb) (fun b hb=>by simp[D6,K9]at hb;omega) (fun b8=>by
      refine .inr ⟨w.heap.size,n,c',rfl,heap_alloc_new w _,AQ8 _,b6,?_,fun i' f=>?_,fun i' j f hj=>?_⟩
      .simp only[maxLen];omega
      .rw[<- PZ];exact a4 i' f
      rw[<- PZ];exact⟨(y i' j f hj).1.keeps b8,(y i' j f hj).2⟩)
    exact⟨_,_,_,_,by simp[execOp,ho,a5],.inl rfl,g1,h2.trans ⟨g2,g3⟩,.vec _ (some ⟨w.heap.size,0,none⟩) n n (by simp[Lv,A2]) (by simp)⟩
   cases s
  cases s
 cases s
theorem Ur {n:Nat}{L:List (Nat×AV)}{cs:List AV}(h:Io n L=some cs):∃j o i q,L=[(0,.reg j o),(1,.reg i q)]/\n=2/\cs=[.reg j o,.reg i q]:=by
 unfold Io at h;split at h
 .split at h
  .rename_i hn;cases h;exact⟨_,_,_,_,rfl,hn,rfl⟩
  cases h
 cases h
theorem NM (h:Sat C st a w rho){t:TypeId}{n:Nat}{parts:Array (Nat×Operand)}(hf:Hn st.regs n (parts.toList.map fun q=>(q.1,aev st.env q.2))=none){cs:List AV}(a0:Io n (parts.toList.map fun q=>(q.1,aev st.env q.2))=some cs)(ho:o.op=.buildSlice t n parts)(c:aop P st.env st.regs d o.op=some out)(hc:D0 out.cond):OpOk P C o st a w rho out:=by
 rw[ho]at c;simp only[aop,hf,a0]at c;split at c
 .rename_i e hk m;split at c
  .rename_i z hsz hz;split at c
   .rename_i hzl;cases c;obtain⟨j,o1,i,q,hL,rfl,rfl⟩:=Ur a0;obtain⟨iz,v,hi,hiz,rfl⟩:=Ai hz;have hvz:v.cells.size=1:=by simpa using hzl
    obtain⟨p1,p2,hp,s,u,hx2,hy2⟩:∃p1 p2,parts.toList=[p1,p2]/\p1.1=0/\p2.1=1/\aev st.env p1.2=.reg j o1/\aev st.env p2.2=.reg i q:=by
     cases f:parts.toList with
     |nil=>rw[f]at hL;cases hL
     |cons p1 r=>cases r with
      |nil=>rw[f]at hL;simp at hL
      |cons p2 r=>cases r with
       |cons p3 r=>rw[f]at hL;simp at hL
       |nil=>rw[f]at hL;simp only[AR9,AY3,AV7,AR3,and_true]at hL;exact⟨p1,p2,rfl,hL.1.1,hL.2.1,hL.1.2,hL.2.2⟩
    have hX:=h.aev p1.2;have hY:=h.aev p2.2;rw[hx2]at hX;rw[hy2]at hY;obtain⟨x1,s⟩:∃b,a.eval p1.2=.pointer (some b):=by generalize a.eval p1.2=v at hX;cases hX;exact⟨_,rfl⟩
    obtain⟨y1,u⟩:∃b,a.eval p2.2=.pointer (some b):=by generalize a.eval p2.2=v at hY;cases hY;exact⟨_,rfl⟩
    have a1:(Instr.buildSlice t 2 (parts.map fun q=>(q.1,a.eval q.2))).run P w=.ok (.slice (some ⟨w.heap.size,0,none⟩) 2 2) (w.alloc (.cells #[a.eval p1.2,a.eval p2.2] e)):=by
     have g:(parts.map fun q=>(q.1,a.eval q.2)).toList=parts.toList.map fun q=>(q.1,a.eval q.2):=by simp
     have hb:¬(2*1>2 ^ 24):=by omega
     have hr2:(Array.range (2*1)).map (v.cells[· % v.cells.size]!) = #[v.cells[0]!,v.cells[0]!]:=by
      rw[hvz]
      have:(fun x=>v.cells[x % 1]!)=fun _=>v.cells[0]!:=by funext x;rw[Bk3]
      rw[this];apply Array.toList_inj.1;rw[Array.toList_map,Array.toList_range];rfl
     have y:Instr.fill (fun i=>some (i*1,1)) #[v.cells[0]!,v.cells[0]!] [(0,a.eval p1.2),(1,a.eval p2.2)]=some #[a.eval p1.2,a.eval p2.2]:=by rw[s,u];rfl
     simp only[Instr.buildSlice,AT7,AE w (G9 hk),AR6,Ht w hsz,Lm hb,g,hp,AR9,AY3];rw[Lm (by decide)];simp only[AT7,AV3,AR6,Ag3 w hi hiz,hr2];rw[show p1.1=0 from by assumption,show p2.1=1 from by assumption,y];simp[newRow]
    obtain⟨g1,g2,g3⟩:=h.fresh (Cc d 0) m (.cells [.reg j o1,.reg i q]) (.pointer (some ⟨w.heap.size,0,none⟩)) (w':=w.alloc (.cells #[a.eval p1.2,a.eval p2.2] e)) (by simp)
     (fun b hb=>heap_alloc_old w _ b hb) (fun b hb=>by simp[D6,K9]at hb;omega) (fun a2=>by
      have a3:∀l,Lv (A1 st.regs) l->Lv (A1 (ins (nid d 0) (.cells [.reg j o1,.reg i q]) st.regs)) l/\(if l=nid d 0 then (.pointer (some ⟨w.heap.size,0,none⟩))else rho l)=rho l:=by
       intro l hi;by_cases e:l=nid d 0
       .subst e;simp[Lv,m]at hi
       simp only[e,Lp,Lv,A2,Lm (AV5 e)];exact⟨hi,trivial⟩
      refine⟨w.heap.size,_,e,rfl,heap_alloc_new w _,rfl,fun l hl=>?_⟩
      match l,hl with
      |0,_=>exact⟨hX.keeps a2 a3,by show (a.eval p1.2).oneCell' = true;rw[s];rfl⟩
      |1,_=>exact⟨hY.keeps a2 a3,by show (a.eval p2.2).oneCell' = true;rw[u];rfl⟩
      |l+2,hl=>exact Ln hl (by simp))
    exact⟨_,_,_,_,by simp[execOp,ho,a1],.inl rfl,g1,⟨g2,g3⟩,.rsl _ 2 w.heap.size (by simp[Lv,A2]) (by simp)⟩
   cases c
  cases c
 cases c
theorem Mc {regs:B5}:∀{l:List AV}{xs:List PV},YR l=some xs->EA regs l=some (xs,regs)
 |[],_,h=>by cases h;rfl
 |a::r,xs,h=>by
  cases a with
  |p x=>
   simp only[YR]at h;split at h
   .rename_i l hl;cases h;simp only[EA,Eo,Mc hl]
   cases h
  |_=>simp[YR]at h
theorem NO (h:Sat C st a w rho){t:TypeId}{n:Nat}{parts:Array (Nat×Operand)}(ho:o.op=.buildSlice t n parts){cc:List Prop}{x:PV}(r:OE P st.env o.op=some (cc,x))(hc:D0 cc):OpOk P C o st a w rho ⟨cc,.p x,st.regs⟩:=by
 rw[ho]at r;simp only[OE]at r;split at r
 .rename_i e hk;split at r
  .rename_i l m z a6 a7 hz;have hv:=Mc (regs:=st.regs) a6;split at r
   .rename_i a8;cases r;have a9:Fd n m (parts.toList.map (·.1)) l=true:=hc;obtain⟨⟨hmax,b0⟩,g,a0⟩:=a8;have b1 : EA st.regs ((parts.toList.map (·.2)).map (aev st.env))=some (l,st.regs):=by simpa[AX8,AX0]using hv
    obtain⟨h1,h2,h3,h4,h5⟩:=Ff (parts.toList.map (·.2)) st l st.regs h b1;obtain⟨i,v,hi,b2,rfl⟩:=Ai hz;have b3:v.cells.size=m:=by simpa using g
    obtain⟨arr,d⟩:∃arr:Array Value,arr=(Array.range (n*m)).map ((if n*m=0 then #[]else v.cells)[· % (if n*m=0 then #[]else v.cells).size]!):=⟨_,rfl⟩;have a1:∀i' j,i' < n->j<m->arr.getD (i' * m+j) undef=v.cells.getD j undef:=by
     intro i' j c hj;have u:=G3 c hj;have f:¬(n*m=0):=by omega
     rw[d];simp only[f,Lp]
     have:(i' * m+j) % v.cells.size=j:=by rw[b3,AY2,Bb7,AX7 hj]
     simp[AQ0,u,this,show j<v.cells.size by omega]
    have b4:=PY (w:=w) (Pi:=Prv C.X (A1 st.regs) rho) (live:=fun _=>False) (rho:=rho) (t:=t) (i:=i) a0;obtain⟨c',a2,b5,a3,y⟩:=HM (w:=w) (Pi:=Prv C.X (A1 st.regs) rho) (m:=m) (n:=n) (parts.toList.map fun q=>(q.1,a.eval q.2)) l arr (fun _=>v.cells.toList.map Kw) (by simpa using h3.symm)
     (by simpa[AX8,AX0]using a9) (fun i x hx=>by
      rw[AQ9,AS2]at hx;obtain⟨q,hq,rfl⟩:=hx;exact h4 i q.2 (by rw[AQ9,hq];rfl)) (by rw[d];simp) (fun i hi=>g) (fun i' j c hj=>by
      rw[a1 i' j c hj]
      have:=b4 j (by simp;omega)
      refine⟨?_,this.2⟩;have h6:=this.1;simp only[AQ1,AQ9,AU7,AT8 (show j<v.cells.size by omega),AR5,AR2]at h6⊢;exact h6.toP)
    have b6:(parts.toList.map fun q=>(q.1,a.eval q.2)).map (·.1)=parts.toList.map (·.1):=by simp[AX8,AX0]
    rw[b6]at a3 y;have a4:(Instr.buildSlice t n (parts.map fun q=>(q.1,a.eval q.2))).run P w=.ok (.slice (some ⟨w.heap.size,0,none⟩) n n) (w.alloc (.cells c' e)):=by
     have s:(parts.map fun q=>(q.1,a.eval q.2)).toList=parts.toList.map fun q=>(q.1,a.eval q.2):=by simp
     have hb:¬(n*m>2 ^ 24):=by omega
     simp only[Instr.buildSlice,AT7,AE w (G9 hk),AR6,Ht w a7,Lm hb,s];by_cases f:n*m=0
     .simp only[Ll f]at d;rw[Ll f];simp only[AT7,AV3,AR6];rw[<- d,a2];simp[newRow]
     simp only[Lm f]at d;rw[Lm f];simp only[AT7,AV3,AR6,Ag3 w hi b2];rw[<- d,a2];simp[newRow]
    obtain⟨g1,g2⟩:=h.grow (w':=w.alloc (.cells c' e)) (by simp) (fun b hb=>heap_alloc_old w _ b hb);have a5:∀off,¬Prv C.X (A1 st.regs) rho w.heap.size off:=by
     rintro off (hX|⟨j',o',b7,b8,_⟩)
     .have:=h.hp.bound _ _ hX;omega
     have:=h.hp.lt ⟨j',o',b7,b8⟩;omega
    refine⟨_,_,w.alloc (.cells c' e),rho,by simp[execOp,ho,a4],.inl rfl,g1,g2,.p _ _ (.sl true w.heap.size 0 n m n _ (fun i' j=>c'.getD (i' * m+j) undef) (AQ8 _) (fun i' c=>by rw[<- PZ];exact a3 i' c) (fun i' j c hj=>?_) (fun i' j c hj=>?_) none fun _=>rfl)⟩
    .refine⟨?_,a5 _,?_⟩
     .have u:=G3 c hj
      have:=E2 (heap_alloc_new w (.cells c' e)) (o:=i' * m+j) (by rw[b5];exact u)
      rw[AT6];exact this
     have:=(y i' j c hj).2;exact this
    rw[<- PZ];exact (y i' j c hj).1.keeps fun b o v hp hc=>⟨by rw[<- hc];exact AV4 (heap_alloc_old w _ b (AY9 w ⟨b,o,none⟩ hc)),hp⟩
   cases r
  cases r
 cases r
theorem Qa (h:Sat C st a w rho){t:TypeId}{l c:Operand}(ho:o.op=.makeSlice t l c){cc:List Prop}{x:PV}(q:OE P st.env o.op=some (cc,x))(hc:D0 cc):OpOk P C o st a w rho ⟨cc,.p x,st.regs⟩:=by
 rw[ho]at q;simp only[OE]at q;split at q
 .rename_i e n m hk hn hm;split at q
  .rename_i k z y hz;split at q
   .rename_i a1;cases q;obtain⟨h1,h2,h3,h4⟩:0<=n/\n<=m/\m*CX P e<=140737488355328/\m<=140737488355328:=hc;obtain⟨kn,a2⟩:=Bt (h.aev l) hn;obtain⟨km,a3⟩:=Bt (h.aev c) hm;obtain⟨i,v,hi,hiz,rfl⟩:=Ai hz;have hk' : i.size=k:=by obtain⟨i',d,hs'⟩:=LB y;rw[hi]at d;cases d;exact hs'
    have hvz:v.cells.size=k:=by simpa using a1.1
    have hby:CX P e=i.bytes:=by simp[CX,Program.bytesOf,hi]
    rw[hby]at h3;have w64:∀x:Int,0<=x->x<=140737488355328->IntKind.i64.wrap x=x:=by intro x hx hx';have e1:x % (2 ^ 64:Int)=x:=Ba5 hx (by omega);unfold IntKind.wrap;simp only[IntKind.bits,IntKind.signed,e1];rw[Lm];simp;omega
    have hrange:(i.bytes:Int)*m<=140737488355328:=by have e:m*(i.bytes:Int)=(i.bytes:Int)*m:=Int.mul_comm _ _;omega
    obtain⟨arr,g⟩:∃arr:Array Value,arr=(Array.range (m.toNat*k)).map ((if m.toNat*k=0 then #[]else v.cells)[· % (if m.toNat*k=0 then #[]else v.cells).size]!):=⟨_,rfl⟩;have hrun:(Instr.makeSlice t (a.eval l) (a.eval c)).run P w=.ok (.slice (some ⟨w.heap.size,0,none⟩) n.toNat m.toNat) (w.alloc (.cells arr e)):=by
     have b1:¬(m<0):=by omega
     have b2:¬(281474976710656<(i.bytes:Int)*m):=by omega
     have b3:¬(n<0):=by omega
     have b4:¬(m<n):=by omega
     rw[g];by_cases r:m.toNat*k=0
     .simp[Instr.makeSlice,AE w (G9 hk),a2,a3,_root_.Go.asInt,asIntOf,Ax9 w hi,w64 n h1 (by omega),w64 m (by omega) h4,b1,b2,b3,b4,Ht w y,r,newRow]
     simp[Instr.makeSlice,AE w (G9 hk),a2,a3,_root_.Go.asInt,asIntOf,Ax9 w hi,w64 n h1 (by omega),w64 m (by omega) h4,b1,b2,b3,b4,Ht w y,r,newRow,Ag3 w hi hiz]
    have s:∀i' j,i' < n.toNat->j<k->arr.getD (i' * k+j) undef=v.cells.getD j undef:=by
     intro i' j d hj;have a0:=G3 (show i' < m.toNat by omega) hj;have r:¬(m.toNat*k=0):=by omega
     rw[g];simp only[r,Lp]
     have:(i' * k+j) % v.cells.size=j:=by rw[hvz,AY2,Bb7,AX7 hj]
     simp[AQ0,a0,this,show j<v.cells.size by omega]
    obtain⟨g1,g2⟩:=h.grow (w':=w.alloc (.cells arr e)) (by simp) (fun b hb=>heap_alloc_old w _ b hb);have hnew:∀off,¬Prv C.X (A1 st.regs) rho w.heap.size off:=by
     rintro off (hX|⟨j',o',f,hbo,_⟩)
     .have:=h.hp.bound _ _ hX;omega
     have:=h.hp.lt ⟨j',o',f,hbo⟩;omega
    refine⟨_,_,w.alloc (.cells arr e),rho,by simp[execOp,ho,hrun],.inl rfl,g1,g2,.p _ _ (.sl true w.heap.size 0 m.toNat k n.toNat _ (fun i' j=>arr.getD (i' * k+j) undef) (by omega) (fun i' d=>by simpa using hvz) (fun i' j d hj=>?_) (fun i' j d hj=>?_) none fun _=>rfl)⟩
    .refine⟨?_,hnew _,?_⟩
     .have a0:=G3 (show i' < m.toNat by omega) hj
      have:=E2 (heap_alloc_new w (.cells arr e)) (o:=i' * k+j) (by rw[g];simpa using a0)
      rw[AT6];exact this
     rw[s i' j d hj];have f : j<v.cells.size:=by omega
     rw[show (v.cells.getD j undef)=v.cells[j] by simp[AQ0,f]];have u:=a1.2;simp only[AZ4,AR4,Function.comp]at u;exact (J9 w (fun _ _=>False) _).cell (u _ (by simp))
    rw[s i' j d hj];have f : j<v.cells.size:=by omega
    rw[show (v.cells.getD j undef)=v.cells[j] by simp[AQ0,f]];simp only[AQ1,AQ9,AU7,AT8 f,AR5,AR2];exact J9 _ _ _
   cases q
  cases q
 cases q
theorem Xy (h:Sat C st a w rho){cc:List Prop}{x:PV}(b:OE P st.env o.op=some (cc,x))(hc:D0 cc):OpOk P C o st a w rho ⟨cc,.p x,st.regs⟩:=by
 cases d:o.op with
 |buildSlice t n parts=>exact NO h d b hc
 |makeSlice t l c=>exact Qa h d b hc
 |_=>rw[d]at b;simp[OE]at b
end
end Go.AM
namespace Go.AM
section
variable {P:Program}{C:Ctx}{st:St}{a:Act}{w:World}{rho:Nat->Value}{o:Oper}{out:Out}{d:Nat}
theorem Qb {b:Bool}:∀(n:Nat) (t:TypeId) (ks:List TK),lay P n t=some ks->∀(vs:Array Value) (off D:Nat),n<=D->off+ks.length<=vs.size ->
 ∃x,(part t vs off).run P w=.ok x w/\(Instr.checkKey b D t x).run P w=.ok () w:=by
 intro n
 induction n with
 |zero=>intro t ks h;simp[lay]at h
 |succ n ih=>
  intro t ks hl vs off D z ha;obtain⟨D,rfl⟩:∃D',D=D' + 1:=⟨D-1,by omega⟩;cases hk:tk P t with
  |none=>
   have:P.underlying t=none:=by unfold tk at hk;cases j:P.underlying t<;>simp[j]at hk⊢
   simp[lay,this]at hl
  |some k=>
   by_cases hs:∀fs,k ≠ .struct fs
   .obtain⟨rfl,m⟩:=Sg hk hl hs;simp only[AW2]at ha;refine⟨vs.getD off undef,?_,?_⟩
    .simp[part,H7 w hk,m,AQ0,show off<vs.size by omega]
    obtain⟨dd,j,rfl⟩:=BA hk;simp only[lay,j]at hl;cases dd<;>simp at hl<;>first
     |(simp[Instr.checkKey,AE w j];done)
     |exact Ln rfl (hs _)
   obtain⟨fs,rfl⟩:∃fs,k=.struct fs:=AU0 fun hn=>hs fun fs e=>hn ⟨fs,e⟩;obtain⟨fa,d,_⟩:=EE hk;simp only[lay,d]at hl;split at hl
   .rename_i l q;split at hl
    .rename_i r;cases hl;refine⟨.agg (vs.extract off (off+ks.length)),by simp[part,H7 w hk,VN,Ht w r],?_⟩;generalize g : vs.extract off (off+ks.length)=vs';have i : vs'.size=0+ks.length:=by rw[<- g];simp;omega
     simp only[Instr.checkKey,AT7,AE w d,AR6];rw[<- Array.forIn_toList];have s:∀(fl:List Field) (o:Nat) (l:List TK),Aw6 (lay P n) fl o=some l->vs'.size=o+l.length ->
      (forIn fl PUnit.unit (fun f _=>(do
       if f.name ≠ "_" then do
        Instr.checkKey b D f.type (<- part f.type vs' f.offset)
        pure (ForInStep.yield PUnit.unit)
       else pure (ForInStep.yield PUnit.unit):Sem (ForInStep PUnit)))).run P w=.ok PUnit.unit w:=by
      intro fl
      induction fl with
      |nil=>intro o l _ _;simp
      |cons f fl ihf=>
       intro o l h1 y;simp only[Aw6]at h1;split at h1
       .cases h1
       rename_i a;have a:f.offset=o:=AU0 a;split at h1
       .rename_i ka u;split at h1
        .rename_i kb v;cases h1;simp only[AU4]at y;obtain⟨x,hx,hc⟩:=ih f.type ka u vs' o D (by omega) (by omega);have c:=ihf (o+ka.length) kb v (by omega);rw[List.forIn_cons];by_cases hn:f.name ≠ "_"
         .simp only[AT7,Ll hn,a,hx,hc,AR6,AV3];exact c
         simp only[AT7,Lm hn,AR6,AV3];exact c
        cases h1
       cases h1
     have:=s fa.toList 0 ks q i
     simp only[ne_eq]at this⊢
     first
      |exact this
      |(simp only[this];done)
      |(rw[this];rfl)
    cases hl
   cases hl
theorem HN {Pi:Nat->Nat->Prop}{b:Bool}{t:TypeId}{v:Value}{x:PV}(hk:Ip P t x=true)(f:RepP w Pi v x):(Instr.checkKey b 10000 t v).run P w=.ok () w:=by
 unfold Ip at hk;split at hk
 .rename_i fs ht;split at hk
  .rename_i ks cs hl;simp only[beq_iff_eq]at hk;cases f with
   |agg vs _ hs _ _=>
    obtain⟨y,hy,hc⟩:=Qb (P:=P) (w:=w) (b:=b) 10 t ks hl vs 0 10000 (by omega) (by omega);have a:=hl;obtain⟨fa,c,_⟩:=EE ht;simp only[lay,c]at a;split at a
    .split at a
     .rename_i d;cases a
      have:vs.extract 0 ks.length=vs:=by rw[<- hk,<- hs];simp
      have e1:(part t vs 0).run P w=.ok (.agg vs) w:=by simp[part,H7 w ht,VN,Ht w d,this]
      rw[e1]at hy;cases hy;exact hc
     cases a
    cases a
  cases hk
 .rename_i k g ht;obtain⟨dd,i,rfl⟩:=BA ht;show (Instr.checkKey b (9999+1) t v).run P w=.ok () w;generalize 9999=D;cases dd<;>simp[Ud,keyK]at hk<;>simp[Instr.checkKey,AE w i]
 cases hk
def EntL (w:World)(Pi:Nat->Nat->Prop)(ents:List MapEntry)(es:List (PV×PV)):Prop:= ents.length=es.length/\∀i,i<es.length->RepP w Pi (ents.getD i default).key (es.getD i default).1/\RepP w Pi (ents.getD i default).val (es.getD i default).2
theorem EntL.cons {Pi:Nat->Nat->Prop}{e:MapEntry}{ents:List MapEntry}{p:PV×PV}{es:List (PV×PV)}(h:EntL w Pi (e::ents) (p::es)):RepP w Pi e.key p.1/\RepP w Pi e.val p.2/\EntL w Pi ents es:=
 ⟨by simpa using (h.2 0 (by simp)).1,by simpa using (h.2 0 (by simp)).2,by simpa using h.1,fun i a=>by simpa using h.2 (i+1) (by simpa using a)⟩
theorem ON {cmp:PV->PV->Option Bool}{k:PV}:∀{es:List (PV×PV)}{r:Option PV},find cmp k es=some r->∃q,FU cmp k es=some q/\r=q.map fun j=>(es.getD j default).2
 |[],r,h=>by simp only[find,AQ2]at h;subst h;exact⟨none,rfl,rfl⟩
 |(a,x)::es,r,h=>by
  simp only[find]at h;split at h
  .rename_i hc;cases h;exact⟨some 0,by simp[FU,hc],by simp⟩
  .rename_i hc;obtain⟨q,h1,b⟩:=ON h;refine⟨q.map (· + 1),by simp[FU,hc,h1],?_⟩;rw[b];cases q<;>simp
  cases h
theorem Sk {cmp:PV->PV->Option Bool}{k x:PV}:∀{es es' : List (PV×PV)},upd cmp k x es=some es' -> ∃q,FU cmp k es=some q/\(q=none->es' = es++[(k,x)])/\∀j,q=some j->es' = es.set j (k,x)
 |[],es',h=>by simp only[upd,AQ2]at h;subst h;exact⟨none,rfl,fun _=>rfl,fun j h=>by cases h⟩
 |(a,y)::es,es',h=>by
  simp only[upd]at h;split at h
  .rename_i hc;cases h;exact⟨some 0,by simp[FU,hc],fun h=>(by cases h),fun j hj=>by cases hj;simp⟩
  .rename_i hc;rw[AS2]at h;obtain⟨e1,b,rfl⟩:=h;obtain⟨q,h1,c,d⟩:=Sk b;refine⟨q.map (· + 1),by simp[FU,hc,h1],fun f=>?_,fun j hj=>?_⟩
   .cases q with
    |none=>rw[c rfl];rfl
    |some j=>simp at f
   cases q with
   |none=>simp at hj
   |some j'=>simp at hj;subst hj;rw[d j' rfl];rfl
  cases h
theorem GU {cmp:PV->PV->Option Bool}{k:PV}:∀{es:List (PV×PV)}{j:Nat},FU cmp k es=some (some j)->j<es.length/\cmp k (es.getD j default).1=some true
 |[],j,h=>by simp[FU]at h
 |(a,y)::es,j,h=>by
  simp only[FU]at h;split at h
  .rename_i hc;cases h;exact⟨by simp,by simpa using hc⟩
  .rename_i hc;rw[AS2]at h;obtain⟨q,h1,b⟩:=h;cases q with
   |none=>simp at b
   |some j'=>simp at b;subst b;obtain⟨c,d⟩:=GU h1;exact⟨by simpa using c,by simpa using d⟩
  cases h
theorem FK {Pi:Nat->Nat->Prop}{kt:TypeId}{k:Value}{x:PV}(hk:RepP w Pi k x)(hc:D0 (OC P kt)):∀(es:List (PV×PV)) (ents:List MapEntry) (i:Nat) (r:Option Nat),EntL w Pi ents es->FU (NF P kt) x es=some r ->
 (Instr.findAsking kt k ents i).run P w=.ok (r.map fun j=>(i+j,(ents.getD j default).val)) w
 |[],ents,i,r,he,hf=>by obtain rfl:ents=[]:=AV6 (by simpa using he.1);simp only[FU,AQ2]at hf;subst hf;simp[Instr.findAsking]
 |(a,b)::es,[],i,r,he,hf=>by simp[EntL]at he
 |(a,b)::es,e::ents,i,r,he,hf=>by
  obtain⟨h1,l,d⟩:=he.cons;simp only[FU]at hf;split at hf
  .rename_i c;cases hf
   have:=(JG hk h1 c hc).1
   simp[Instr.findAsking,this]
  .rename_i c
   have:=(JG hk h1 c hc).1
   rw[AS2]at hf;obtain⟨q,f,rfl⟩:=hf;have g:=FK hk hc es ents (i+1) q d f;simp only[Instr.findAsking,AT7,this,AR6,AR0,Lp,g];cases q with
   |none=>rfl
   |some j=>simp;omega
  cases hf
theorem Md {Pi:Nat->Nat->Prop}{kt:TypeId}{dd:TypeDesc}(f:P.underlying kt=some dd){k e:Value}{x a:PV}(hk:RepP w Pi k x)(b:RepP w Pi e a){r q:Bool}(hc:NF P kt x a=some r)(hs:Instr.sameNow dd k e=some q):q=r:=by
 have c:tk P kt=some (Ud dd):=by simp[tk,f]
 unfold NF at hc;rw[c]at hc;unfold Instr.sameNow at hs;split at hs
 .simp only[Ud]at hc;cases hk;cases b;simp only[Uh]at hc;split at hs
  .rename_i d;rw[Ll d]at hc;cases hs;cases hc;rfl
  cases hs
 .simp only[Ud]at hc;cases hk with
  |v=>simp[Uh]at hc
  |str l=>
   cases b with
   |v=>simp[Uh]at hc
   |str m=>simp only[Uh,AQ2]at hc;simp only[AQ2]at hs;rw[<- hs,<- hc,beq_toListBytes];simp
 .simp only[Ud]at hc;cases hk<;>cases b<;>simp only[Uh,RN,AQ2]at hc hs<;>exact hs.symm.trans hc
 cases hs
theorem IB {Pi:Nat->Nat->Prop}{kt:TypeId}{dd:TypeDesc}(d:P.underlying kt=some dd){k:Value}{x:PV}(hk:RepP w Pi k x):∀(es:List (PV×PV)) (ents:List MapEntry) (i:Nat) (r:Option Nat) (q:Option (Nat×Value)),EntL w Pi ents es->FU (NF P kt) x es=some r ->
 Instr.findNow dd k ents i=some q->q=r.map fun j=>(i+j,(ents.getD j default).val)
 |[],ents,i,r,q,he,hf,hn=>by obtain rfl:ents=[]:=AV6 (by simpa using he.1);simp only[FU,AQ2]at hf;simp only[Instr.findNow,AQ2]at hn;subst hf;subst hn;rfl
 |(a,b)::es,[],i,r,q,he,hf,hn=>by simp[EntL]at he
 |(a,b)::es,e::ents,i,r,q,he,hf,hn=>by
  obtain⟨h1,l,g⟩:=he.cons;simp only[FU]at hf;simp only[Instr.findNow]at hn;split at hn
  .rename_i hs;cases hn;split at hf
   .cases hf;simp
   .rename_i c
    have:=Md d hk h1 c hs;cases this
   cases hf
  .rename_i hs;split at hf
   .rename_i c
    have:=Md d hk h1 c hs;cases this
   .rw[AS2]at hf;obtain⟨r',f,rfl⟩:=hf
    have:=IB d hk es ents (i+1) r' q g f hn
    rw[this];cases r' with
    |none=>rfl
    |some j=>simp;omega
   cases hf
  cases hn
theorem Fg {Pi:Nat->Nat->Prop}{kt:TypeId}{k:Value}{x:PV}(hk:RepP w Pi k x)(b:Ip P kt x=true)(hc:D0 (OC P kt)){es:List (PV×PV)}{ents:List MapEntry}{r:Option Nat}(c:EntL w Pi ents es)(d:FU (NF P kt) x es=some r) :(Instr.findKey kt k ents).run P w=.ok (r.map fun j=>(j,(ents.getD j default).val)) w:=by
 have a:∃dd,P.underlying kt=some dd:=by
  unfold Ip at b;split at b
  .rename_i ht;obtain⟨dd,a,_⟩:=BA ht;exact⟨dd,a⟩
  .rename_i ht;obtain⟨dd,a,_⟩:=BA ht;exact⟨dd,a⟩
  cases b
 obtain⟨dd,a⟩:=a;cases hn:Instr.findNow dd k ents 0 with
 |some q=>
  have:=IB a hk es ents 0 r q c d hn
  rw[this]at hn;simp[Instr.findKey,AE w a,hn]
 |none=>
  have:=FK hk hc es ents 0 r c d
  simp[Instr.findKey,AE w a,hn,this]
theorem Sm {Pi:Nat->Nat->Prop}{v:Value}{x:PV}{b:Bool}(h:RepP w Pi v x)(hb:RN x=some b):v=.bool b:=by
 unfold RN at hb;split at hb
 .cases hb;cases h;rfl
 .cases hb;cases h;rfl
 cases hb
theorem Us {Pi:Nat->Nat->Prop}{k:TK}{v u:Value}{x y:PV}(d:RepP w Pi v x)(f:RepP w Pi u y)(c:Uh k x y=some true):v=u/\∀n,Instr.sameBits n v u=true:=by
 unfold Uh at c;split at c
 .split at c
  .rename_i g;subst g;cases d;cases f;simp only[AQ2,beq_iff_eq]at c;subst c;exact⟨rfl,fun n=>by cases n<;>simp[Instr.sameBits]⟩
  cases c
 .split at c
  .rename_i a b h1 i;simp only[AQ2,beq_iff_eq]at c;subst c;have e1:=Sm d h1;have e2:=Sm f i;subst e1;subst e2;exact⟨rfl,fun n=>by cases n<;>simp[Instr.sameBits]⟩
  cases c
 .cases d with
  |str l=>
   cases f with
   |str m=>simp only[AQ2,beq_iff_eq]at c;subst c;exact⟨rfl,fun n=>by cases n<;>(simp only[Instr.sameBits];rw[beq_toListBytes];simp)⟩
 cases c
theorem VW {Pi:Nat->Nat->Prop}:∀{ks:List TK}{xs ys:List PV}(f g:Nat->Value),(∀i,i<xs.length->RepP w Pi (f i) (xs.getD i default))->(∀i,i<ys.length->RepP w Pi (g i) (ys.getD i default))->Y0 ks xs ys=some true ->
 xs.length=ys.length/\∀i,i<xs.length->f i=g i/\∀n,Instr.sameBits n (f i) (g i)=true
 |ks,[],ys,f,g,hf,hg,he=>by cases ks<;>cases ys<;>simp[Y0]at he⊢
 |[],x::xs,ys,f,g,hf,hg,he=>by simp[Y0]at he
 |k::ks,x::xs,[],f,g,hf,hg,he=>by simp[Y0]at he
 |k::ks,x::xs,y::ys,f,g,hf,hg,he=>by
  have hx:RepP w Pi (f 0) x:=by simpa using hf 0 (by simp)
  have hy:RepP w Pi (g 0) y:=by simpa using hg 0 (by simp)
  simp only[Y0]at he;split at he
  .split at he
   .obtain⟨h1,b⟩:=Us hx hy he;refine⟨rfl,fun i a=>?_⟩;simp only[AW2]at a;obtain rfl:i=0:=by omega
    exact⟨h1,b⟩
   cases he
  split at he
  .rename_i p q hp c;simp only[AQ2,AQ7]at he;obtain⟨rfl,rfl⟩:=he;obtain⟨h1,b⟩:=Us hx hy hp;obtain⟨d,j⟩:=VW (fun i=>f (i+1)) (fun i=>g (i+1)) (fun i a=>by simpa using hf (i+1) (by simpa using a)) (fun i a=>by simpa using hg (i+1) (by simpa using a)) c;refine⟨by simpa using d,fun i a=>?_⟩;cases i with
   |zero=>exact⟨h1,b⟩
   |succ i=>exact j i (by simpa using a)
  cases he
theorem Zo {Pi:Nat->Nat->Prop}{t:TypeId}{v u:Value}{x y:PV}(f:RepP w Pi v x)(g:RepP w Pi u y)(a:NF P t x y=some true):v=u/\Instr.sameBits 10000 v u=true:=by
 unfold NF at a;split at a
 .split at a
  .rename_i ks xs ys hl;cases f with
   |agg vs _ hs _ hr=>
    cases g with
    |agg us _ hs' _ hr'=>
     obtain⟨h1,c⟩:=VW (fun i=>vs.getD i undef) (fun i=>us.getD i undef) hr hr' a;have e:vs=us:=by
      refine Array.ext (by omega) fun i d b=>?_
      have:=(c i (by omega)).1
      simpa[AQ0,d,b]using this
     subst e;refine⟨rfl,?_⟩
     have:∀n,Instr.sameBits (n+1) (.agg vs) (.agg vs)=true:=by
      intro n;simp only[Instr.sameBits,BEq.rfl,Bd4,AR4];intro p hp;obtain⟨i,d,rfl⟩:=Ba0.1 hp;have b : i<vs.size:=by simpa using d
      have:=(c i (by omega)).2 n
      simpa[AQ0,b]using this
     exact this 9999
  cases a
 .obtain⟨h1,c⟩:=Us f g a;exact⟨h1,c _⟩
 cases a
end
end Go.AM
namespace Go.AM
section
variable {P:Program}{C:Ctx}{st:St}{a:Act}{w:World}{rho:Nat->Value}{o:Oper}{out:Out}{d:Nat}
theorem KE {Pi:Nat->Nat->Prop}{e:TypeId}{z:PV}(b:Kz P e=some z):∃v,(zeroValue e).run P w=.ok v w/\RepP w Pi v z:=by
 unfold Kz at b;split at b
 .rename_i v g;rw[AZ0]at g;obtain⟨i,d,f⟩:=g;refine⟨v,Ag3 w d f,?_⟩;split at b
  .rename_i cs;split at b
   .rename_i c;cases b;simp only[AZ4,AR4,Function.comp]at c;refine .agg cs _ (by simp) (fun i d=>?_) fun i d=>?_
    .have a : i<cs.size:=by simpa using d
     have:cs.getD i undef=cs[i]:=by simp[AQ0,a]
     rw[this];exact (J9 w Pi _).cell (c _ (by simp))
    have a : i<cs.size:=by simpa using d
    have:cs.getD i undef=cs[i]:=by simp[AQ0,a]
    rw[this];have e:(cs.toList.map Kw).getD i default=Kw cs[i]:=by simp[a]
    rw[e];exact J9 w Pi _
   cases b
  cases b;exact J9 w Pi _
 cases b
theorem Sn {ents:Array MapEntry}{clock:Nat}{e:MapEntry}(hc:clock=ents.size)(hb:∀i,i<ents.size->(ents.getD i default).born=i)(a:e.born=clock) :clock+1=(ents.push e).size/\∀i,i<(ents.push e).size->((ents.push e).getD i default).born=i:=by
 refine⟨by simp[hc],fun i b=>?_⟩;simp only[Array.size_push]at b;by_cases h:i<ents.size
 .have:=hb i h
  simpa[AQ0,Bf1,show i≠ents.size by omega]using this
 obtain rfl:i=ents.size:=by omega
 simp[AQ0,a,hc]
theorem HO {ents:Array MapEntry}{clock j:Nat}{f:MapEntry->MapEntry}(hc:clock=ents.size)(hb:∀i,i<ents.size->(ents.getD i default).born=i)(b:∀e,(f e).born=e.born) :clock=(ents.modify j f).size/\∀i,i<(ents.modify j f).size->((ents.modify j f).getD i default).born=i:=by
 refine⟨by simp[hc],fun i a=>?_⟩;simp only[Array.size_modify]at a
 have:=hb i a
 by_cases h:j=i
 .subst h;simp[AQ0,a,Bc2,b]at this⊢;exact this
 simpa[AQ0,AY4,h]using this
theorem Zp (h:Sat C st a w rho){t:TypeId}{m k:Operand}{ok:Bool}(ho:o.op=.lookup t m k ok)(he:aop P st.env st.regs d o.op=some out)(hc:D0 out.cond):OpOk P C o st a w rho out:=by
 rw[ho]at he;simp only[aop]at he;split at he
 .rename_i x R' hv;split at he
  .rename_i c y hl;cases he;obtain⟨h1,h2,h3⟩:=Dk h (h.aev k) hv;have hm:=h3.av (h.aev m);unfold Ep at hl;split at hl
   .rename_i kt e ht;have fin:∀(ents:Array MapEntry) (es:List (PV×PV)) (r:Option PV),((a.eval m=.map none/\ents = #[]) \/ ∃r clock,a.eval m=.map (some r)/\w.heap[r]? = some (.map ents clock))->EntL w (Prv C.X (A1 R') rho) ents.toList es->Ip P kt x=true->find (NF P kt) x es=some r ->
     (match (some r:Option (Option PV))with
      |some (some x)=>some (OC P kt,if ok then AV.tup [.p x,.bool true]else .p x)
      |some none=>match Kz P e with
       |some z=>some (OC P kt,if ok then AV.tup [.p z,.bool false]else .p z)
       |none=>none
      |none=>none)=some (c,y)->OpOk P C o st a w rho ⟨c,y,R'⟩:=by
     intro ents es r hget a0 a1 hf hres;have hcc:D0 (OC P kt):=by
      cases r with
      |some x=>simp only[AQ2,AR3]at hres;rw[hres.1];exact hc
      |none=>
       simp only at hres;split at hres
       .simp only[AQ2,AR3]at hres;rw[hres.1];exact hc
       cases hres
     obtain⟨q,hq,u⟩:=ON hf;have hfk:=Fg h2 a1 hcc a0 hq;have hck:=HN (b:=ents.isEmpty) a1 h2;have last:∀(v:Value) (b:Bool) (z:PV),RepP w (Prv C.X (A1 R') rho) v z->(Instr.lookup t (a.eval m) (a.eval k) ok).run P w=.ok (if ok then .tuple #[v,.bool b]else v) w->y=(if ok then AV.tup [.p z,.bool b]else .p z)->OpOk P C o st a w rho ⟨c,y,R'⟩:=by
      intro v b z hv hr hy;refine⟨_,_,w,rho,by simp[execOp,ho,hr];rfl,.inl rfl,h1,h3,?_⟩;rw[hy];cases ok
      .exact .p _ _ hv
      refine .tup _ _ rfl fun i hi=>?_;simp only[AT5,Ba4]at hi
      match i,hi with
      |0,_=>exact .p _ _ hv
      |1,_=>exact .p _ _ (.bb b)
     have hrun:∀(v:Value) (b:Bool),(q.map fun j=>(j,(ents.toList.getD j default).val))=(if b then some (q.getD 0,v)else none)->(b=false->(zeroValue e).run P w=.ok v w)->(Instr.lookup t (a.eval m) (a.eval k) ok).run P w=.ok (if ok then .tuple #[v,.bool b]else v) w:=by
      intro v b hqb hz;unfold Instr.lookup;rcases hget with⟨hm',rfl⟩ | ⟨r,clock,hm',hheap⟩
      .simp only[AT7,AE w (KD ht),AR6,hm',AV3,hck,hfk,hqb];cases b
       .simp[hz rfl]
       simp
      have hg:(getObj r).run P w=.ok (.map ents clock) w:=by simp[getObj,Sem.run,hheap]
      simp only[AT7,AE w (KD ht),AR6,hm',hg,AV3,hck,hfk,hqb];cases b
      .simp[hz rfl]
      simp
     cases q with
     |none=>
      simp only[Bh6]at u;subst u;simp only at hres;split at hres
      .rename_i z hz;simp only[AQ2,AR3]at hres;obtain⟨v,hv1,hv2⟩:=KE (w:=w) (Pi:=Prv C.X (A1 R') rho) hz;exact last v false z hv2 (hrun v false rfl fun _=>hv1) hres.2.symm
      cases hres
     |some j=>simp only[AR5]at u;subst u;simp only[AQ2,AR3]at hres;obtain⟨hj,_⟩:=GU hq;exact last _ true _ (a0.2 j hj).2 (hrun _ true rfl (fun h=>by cases h)) hres.2.symm
    split at hl
    .rename_i x' f;split at f
     .cases f
     .rename_i j l n;split at f
      .rename_i es hj;rw[n]at hm;have hh:=h1.hp.holds j _ hj;obtain⟨b,ents,clock,hr,hb,hs,s,hclk,hborn⟩:=hh;have hmv:a.eval m=.map (some b):=by
        generalize a.eval m=mv at hm;cases hm with
        |mref _ r hl' hr'=>rw[hr]at hr';cases hr';rfl
       exact fin ents es (some x') (.inr ⟨b,clock,hmv,hb⟩) ⟨by simpa using hs,fun i hi=>by simpa using s i hi⟩ l f hl
      cases f
     cases f
    .rename_i g;split at g
     .rename_i l n;rw[n]at hm;exact fin #[] [] none (.inl ⟨hm.toP.toV,rfl⟩) ⟨rfl,fun i hi=>Ln hi (by simp)⟩ l rfl hl
     .rename_i j l n;split at g
      .rename_i es hj;rw[n]at hm;have hh:=h1.hp.holds j _ hj;obtain⟨b,ents,clock,hr,hb,hs,s,hclk,hborn⟩:=hh;have hmv:a.eval m=.map (some b):=by
        generalize a.eval m=mv at hm;cases hm with
        |mref _ r hl' hr'=>rw[hr]at hr';cases hr';rfl
       exact fin ents es none (.inr ⟨b,clock,hmv,hb⟩) ⟨by simpa using hs,fun i hi=>by simpa using s i hi⟩ l g hl
      cases g
     cases g
    cases hl
   cases hl
  cases he
 cases he
theorem So (h:Sat C st a w rho){t:TypeId}{m k x:Operand}(ho:o.op=.mapUpdate t m k x)(g:aop P st.env st.regs d o.op=some out)(hc:D0 out.cond):OpOk P C o st a w rho out:=by
 rw[ho]at g;simp only[aop]at g;split at g
 .rename_i kt e j kp ht hm0 hk0;split at g
  .rename_i y R' hv;split at g
   .rename_i es hj;split at g
    .rename_i es' a3 a4;cases g;have a5:=h.aev k;rw[hk0]at a5;obtain⟨h1,h2,h3⟩:=Dk h (h.aev x) hv;have hm:=h3.av (h.aev m);rw[hm0]at hm;have c:=(h3.p a5.toP).nP;obtain⟨b,ents,clock,hr,hb,hs,f,a0,l⟩:=h1.hp.holds j _ hj;have a6:a.eval m=.map (some b):=by
      generalize a.eval m=mv at hm;cases hm with
      |mref _ r hl' hr'=>rw[hr]at hr';cases hr';rfl
     obtain⟨q,hq,hqn,hqs⟩:=Sk a4;have a7:EntL w (Prv C.X (A1 R') rho) ents.toList es:=⟨by simpa using hs,fun i u=>by simpa using f i u⟩;have a8:=Fg c a3 hc a7 hq;have a9:=HN (b:=false) a3 c;have hg:(getObj b).run P w=.ok (.map ents clock) w:=by simp[getObj,Sem.run,hb]
     have hlt:b<w.heap.size:=(AR1.1 hb).1;have a1:∀ob:Go.Obj,(setObj b ob).run P w=.ok () { w with heap:=w.heap.setIfInBounds b ob }:=fun ob=>by simp[setObj,Sem.run,hb]
     obtain⟨ents',clock',b0,b1,b2,n⟩:∃(ents' : Array MapEntry) (clock' : Nat),(Instr.mapUpdate t (a.eval m) (a.eval k) (a.eval x)).run P w=.ok () { w with heap:=w.heap.setIfInBounds b (.map ents' clock') }/\(clock' = ents'.size/\∀i,i<ents'.size->(ents'.getD i default).born=i)/\ents'.size=es'.length /\
      ∀i,i<es'.length->RepP w (Prv C.X (A1 R') rho) (ents'.getD i default).key (es'.getD i default).1/\RepP w (Prv C.X (A1 R') rho) (ents'.getD i default).val (es'.getD i default).2:=by
      cases q with
      |none=>
       have e:=hqn rfl;subst e;refine⟨ents.push { key:=a.eval k,val:=a.eval x,born:=clock },clock+1,?_,Sn a0 l rfl,by simp[hs],fun i u=>?_⟩
       .unfold Instr.mapUpdate;simp only[AT7,AE w (KD ht),AR6,a6,hg,a9,a8,Bh6,a1]
       simp only[AU4,AW2]at u;by_cases b3 : i<es.length
       .have:=f i b3
        simpa[AQ0,Bf1,show i≠ents.size by omega,AW4 b3]using this
       obtain rfl:i=es.length:=by omega
       have h4:(ents.push { key:=a.eval k,val:=a.eval x,born:=clock }).getD es.length default={ key:=a.eval k,val:=a.eval x,born:=clock }:=by simp[AQ0,<- hs]
       rw[h4];simp only[AQ1,Bf2,AR2];exact⟨c,h2⟩
      |some j'=>
       have e:=hqs j' rfl;subst e;obtain⟨hj',hcmp⟩:=GU hq;have hjs:j' < ents.size:=by omega
       obtain⟨heq,s⟩:=Zo c (f j' hj').1 hcmp;have hold:(((ents[j']?).map (·.key)).getD (a.eval k))=(ents.getD j' default).key:=by simp[AQ0,hjs]
       refine⟨ents.modify j' fun e=>{ e with key:=a.eval k,val:=a.eval x },clock,?_,HO a0 l fun _=>rfl,by simp[hs],fun i u=>?_⟩
       .unfold Instr.mapUpdate;have hks:Instr.keyThatStays (((ents[j']?).map (·.key)).getD (a.eval k)) (a.eval k)=(pure (a.eval k):Sem Value):=by rw[hold,<- heq];unfold Instr.keyThatStays;rw[<- heq]at s;rw[Ll s]
        simp only[AT7,AE w (KD ht),AR6,a6,hg,a9,a8,AR5,hks,AV3,a1]
       simp only[Bh7]at u;by_cases a2:i=j'
       .subst a2;have h4:((ents.modify i fun e=>{ e with key:=a.eval k,val:=a.eval x }).getD i default)={ (ents[i])with key:=a.eval k,val:=a.eval x }:=by simp[AQ0,hjs,Bc2]
        rw[h4];simp only[AQ1,Bd7 u,AR2];exact⟨c,h2⟩
       have h4:((ents.modify j' fun e=>{ e with key:=a.eval k,val:=a.eval x }).getD i default)=ents.getD i default:=by simp[AQ0,AY4,AV5 a2]
       rw[h4]
       have:=f i u
       simpa[Be7 (AV5 a2)]using this
     obtain⟨g1,g2,g3⟩:=h1.modify (o:=.map es) (ob:=.map es') hj (b:=b) (by simp[D6,K9,hr]) (fun _=>trivial) (fun b' z=>by simp[D6,K9,hr]at z;exact z.symm)
      (w':={ w with heap:=w.heap.setIfInBounds b (.map ents' clock') }) (by simp) (fun b' z=>by simp[Ba6 (AV5 z)])
      (fun hk'=>⟨b,ents',clock',hr,by simp[hlt],b2,fun i u=>⟨(n i u).1.keeps hk',(n i u).2.keeps hk'⟩,b1⟩)
     exact⟨_,undef,_,_,by simp[execOp,ho,b0],.inr ⟨rfl,rfl⟩,g1,h3.trans ⟨g2,g3⟩,.p _ _ (.v _)⟩
    cases g
   cases g
  cases g
 cases g
theorem Xz {ents:Array MapEntry}(hb:∀i,i<ents.size->(ents.getD i default).born=i){n:Nat}(hn:n<ents.size):ents.findIdx? (fun e=>(e.born:Int)==(n:Int))=some n:=by
 rw[Array.findIdx?_eq_some_iff_getElem];refine⟨hn,?_,fun j hj=>?_⟩
 .have:=hb n hn
  simp[AQ0,hn]at this;simp[this]
 have:=hb j (by omega)
 simp[AQ0,show j<ents.size by omega]at this;simp[this];omega
theorem Ut (h:Sat C st a w rho){t:TypeId}{m k:Operand}(ho:o.op=.mapEntry t m k)(he:aop P st.env st.regs d o.op=some out)(hc:D0 out.cond):OpOk P C o st a w rho out:=by
 rw[ho]at he;simp only[aop]at he;split at he
 .rename_i kt e j kp ht hm0 hk0;split at he
  .rename_i es z hj hz;split at he
   .rename_i q hko hq;cases he;have hkr:=h.aev k;rw[hk0]at hkr;have hm:=h.aev m;rw[hm0]at hm;have f:=hkr.toP.nP;obtain⟨b,ents,clock,hr,hb,hs,c,s,g⟩:=h.hp.holds j _ hj;have hmv:a.eval m=.map (some b):=by
     generalize a.eval m=mv at hm;cases hm with
     |mref _ r hl' hr'=>rw[hr]at hr';cases hr';rfl
    have hent:EntL w (Prv C.X (A1 st.regs) rho) ents.toList es:=⟨by simpa using hs,fun i l=>by simpa using c i l⟩;have hfk:=Fg f hko hc hent hq;have hck:=HN (b:=false) hko f;have hg:(getObj b).run P w=.ok (.map ents clock) w:=by simp[getObj,Sem.run,hb]
    have hlt:b<w.heap.size:=(AR1.1 hb).1;have hset:∀ob:Go.Obj,(setObj b ob).run P w=.ok () { w with heap:=w.heap.setIfInBounds b ob }:=fun ob=>by simp[setObj,Sem.run,hb]
    obtain⟨zv,hzr,hzp⟩:=KE (w:=w) (Pi:=Prv C.X (A1 st.regs) rho) hz;obtain⟨ents',clock',old,hrun,hcb',hold',hsz',u⟩:∃(ents' : Array MapEntry) (clock' : Nat) (old:Value),(Instr.mapEntry t (a.eval m) (a.eval k)).run P w=.ok (.tuple #[old,.int .i64 ((ent (nP kp) z es q).1:Nat)]) { w with heap:=w.heap.setIfInBounds b (.map ents' clock') }/\(clock' = ents'.size/\∀i,i<ents'.size->(ents'.getD i default).born=i) /\
     RepP w (Prv C.X (A1 st.regs) rho) old (ent (nP kp) z es q).2.1/\ents'.size=(ent (nP kp) z es q).2.2.length /\
     ∀i,i<(ent (nP kp) z es q).2.2.length->RepP w (Prv C.X (A1 st.regs) rho) (ents'.getD i default).key ((ent (nP kp) z es q).2.2.getD i default).1/\RepP w (Prv C.X (A1 st.regs) rho) (ents'.getD i default).val ((ent (nP kp) z es q).2.2.getD i default).2:=by
     cases q with
     |none=>
      refine⟨ents.push { key:=a.eval k,val:=zv,born:=clock },clock+1,zv,?_,Sn s g rfl,hzp,by simp[ent,hs],fun i l=>?_⟩
      .unfold Instr.mapEntry;simp only[AT7,AE w (KD ht),AR6,hmv,hg,hck,hfk,Bh6,hset,hzr,AV3,goInt,ent,s,hs]
      simp only[ent,AU4,AW2]at l;by_cases hi' : i<es.length
      .have:=c i hi'
       simpa[ent,AQ0,Bf1,show i≠ents.size by omega,AW4 hi']using this
      obtain rfl:i=es.length:=by omega
      have h4:(ents.push { key:=a.eval k,val:=zv,born:=clock }).getD es.length default={ key:=a.eval k,val:=zv,born:=clock }:=by simp[AQ0,<- hs]
      rw[h4];simp only[ent,AQ1,Bf2,AR2];exact⟨f,hzp⟩
     |some j'=>
      obtain⟨hj',hcmp⟩:=GU hq;have n:j' < ents.size:=by omega
      obtain⟨heq,y⟩:=Zo f (c j' hj').1 hcmp;have hold:(((ents[j']?).map (·.key)).getD (a.eval k))=(ents.getD j' default).key:=by simp[AQ0,n]
      have hbj:((ents[j']?).map fun x=>((x.born:Nat):Int)).getD 0=(j' : Int):=by
       have:=g j' n
       simp[AQ0,n]at this;simp[n,this]
      have hval:ents.toList.getD j' default=ents.getD j' default:=by simp[AQ0,AQ1]
      refine⟨ents.modify j' fun e=>{ e with key:=a.eval k },clock,(ents.getD j' default).val,?_,HO s g fun _=>rfl,(c j' hj').2,by simp[ent,hs],fun i l=>?_⟩
      .unfold Instr.mapEntry;have hks:Instr.keyThatStays (((ents[j']?).map (·.key)).getD (a.eval k)) (a.eval k)=(pure (a.eval k):Sem Value):=by rw[hold,<- heq];unfold Instr.keyThatStays;rw[<- heq]at y;rw[Ll y]
       simp only[AT7,AE w (KD ht),AR6,hmv,hg,hck,hfk,AR5,hks,AV3,hset,goInt,ent,hbj,hval]
      simp only[ent,Bh7]at l;by_cases hij:i=j'
      .subst hij;have h4:((ents.modify i fun e=>{ e with key:=a.eval k }).getD i default)={ (ents[i])with key:=a.eval k }:=by simp[AQ0,n,Bc2]
       have h5:(ents[i]).val=(ents.getD i default).val:=by simp[AQ0,n]
       rw[h4];simp only[ent,AQ1,Bd7 l,AR2];refine⟨f, ?_⟩;rw[h5];simpa using (c i l).2
      have h4:((ents.modify j' fun e=>{ e with key:=a.eval k }).getD i default)=ents.getD i default:=by simp[AQ0,AY4,AV5 hij]
      rw[h4]
      have:=c i l
      simpa[ent,Be7 (AV5 hij)]using this
    obtain⟨g1,g2,g3⟩:=h.modify (o:=.map es) (ob:=.map (ent (nP kp) z es q).2.2) hj (b:=b) (by simp[D6,K9,hr]) (fun _=>trivial) (fun b' hb'=>by simp[D6,K9,hr]at hb';exact hb'.symm)
     (w':={ w with heap:=w.heap.setIfInBounds b (.map ents' clock') }) (by simp) (fun b' hb'=>by simp[Ba6 (AV5 hb')])
     (fun hk'=>⟨b,ents',clock',hr,by simp[hlt],hsz',fun i l=>⟨(u i l).1.keeps hk',(u i l).2.keeps hk'⟩,hcb'⟩)
    refine⟨_,_,_,_,by simp[execOp,ho,hrun];rfl,.inl rfl,g1,⟨g2,g3⟩,.tup _ _ rfl fun i l=>?_⟩;simp only[AT5,Ba4]at l
    match i,l with
    |0,_=>exact .p _ _ (hold'.keeps g2)
    |1,_=>exact .p _ _ (.v _)
   cases he
  cases he
 cases he
theorem Qc (h:Sat C st a w rho){t:TypeId}{m s x:Operand}(ho:o.op=.entryStore t m s x)(q:aop P st.env st.regs d o.op=some out)(hc:D0 out.cond):OpOk P C o st a w rho out:=by
 rw[ho]at q;simp only[aop]at q;split at q
 .rename_i j sv y R' hm0 hs0 hv;split at q
  .rename_i es hj;cases q;have hsr:=h.aev s;obtain⟨h1,h2,h3⟩:=Dk h (h.aev x) hv;have hm:=h3.av (h.aev m);rw[hm0]at hm;obtain⟨b,ents,clock,hr,hb,hs,l,a1,c⟩:=h1.hp.holds j _ hj;have hmv:a.eval m=.map (some b):=by
    generalize a.eval m=mv at hm;cases hm with
    |mref _ r hl' hr'=>rw[hr]at hr';cases hr';rfl
   have hg:(getObj b).run P w=.ok (.map ents clock) w:=by simp[getObj,Sem.run,hb]
   have hlt:b<w.heap.size:=(AR1.1 hb).1;have a2:∀ob:Go.Obj,(setObj b ob).run P w=.ok () { w with heap:=w.heap.setIfInBounds b ob }:=fun ob=>by simp[setObj,Sem.run,hb]
   have hc:0<=sv/\sv<(es.length:Int):=hc;obtain⟨c1,c2⟩:=hc;obtain⟨n,rfl⟩:∃n:Nat,sv=(n:Int):=⟨sv.toNat,by omega⟩;have hn:n<es.length:=by omega
   have u : n<ents.size:=by omega
   have hjx:=Xz c u;have a3:(Instr.entryStore t (a.eval m) (a.eval s) (a.eval x)).run P w=.ok () { w with heap:=w.heap.setIfInBounds b (.map (ents.modify n fun e=>{ e with val:=a.eval x }) clock) }:=by obtain⟨kk,hkk⟩:=Bt hsr hs0;unfold Instr.entryStore;simp only[AT7,AR6,hmv,hg,hkk,Go.asInt,asIntOf,AV3,hjx,a2]
   have hst:(setV es (n:Int).toNat y)=es.set n ((es.getD n default).1,y):=by simp[setV]
   rw[hst];have f : ∀i,i<(es.set n ((es.getD n default).1,y)).length->RepP w (Prv C.X (A1 R') rho) ((ents.modify n fun e=>{ e with val:=a.eval x }).getD i default).key ((es.set n ((es.getD n default).1,y)).getD i default).1/\RepP w (Prv C.X (A1 R') rho) ((ents.modify n fun e=>{ e with val:=a.eval x }).getD i default).val ((es.set n ((es.getD n default).1,y)).getD i default).2:=by
    intro i z;simp only[Bh7]at z;by_cases a0:i=n
    .subst a0;have h4:((ents.modify i fun e=>{ e with val:=a.eval x }).getD i default)={ (ents[i])with val:=a.eval x }:=by simp[AQ0,u,Bc2]
     have h5:(ents[i]).key=(ents.getD i default).key:=by simp[AQ0,u]
     rw[h4];simp only[AQ1,Bd7 z,AR2];refine⟨?_,h2⟩;rw[h5];simpa using (l i z).1
    have h4:((ents.modify n fun e=>{ e with val:=a.eval x }).getD i default)=ents.getD i default:=by simp[AQ0,AY4,AV5 a0]
    rw[h4]
    have:=l i z
    simpa[Be7 (AV5 a0)]using this
   obtain⟨g1,g2,g3⟩:=h1.modify (o:=.map es) (ob:=.map (es.set n ((es.getD n default).1,y))) hj (b:=b) (by simp[D6,K9,hr]) (fun _=>trivial) (fun b' g=>by simp[D6,K9,hr]at g;exact g.symm)
    (w':={ w with heap:=w.heap.setIfInBounds b (.map (ents.modify n fun e=>{ e with val:=a.eval x }) clock) }) (by simp) (fun b' g=>by simp[Ba6 (AV5 g)])
    (fun a4=>⟨b,_,clock,hr,by simp[hlt],by simp[hs],fun i z=>⟨(f i z).1.keeps a4,(f i z).2.keeps a4⟩,HO a1 c fun _=>rfl⟩)
   exact⟨_,undef,_,_,by simp[execOp,ho,a3],.inr ⟨rfl,rfl⟩,g1,h3.trans ⟨g2,g3⟩,.p _ _ (.v _)⟩
  cases q
 cases q
end
end Go.AM
namespace Go.AM
section
variable {C:Ctx}{st:St}{a:Act}{w:World}{rho:Nat->Value}
theorem Sat.re (hs:Sat C st a w rho)(D:Nat->Prop){R' : B5}{rho' : Nat->Value}
 (c:∀j,¬D j->A1 R' j=A1 st.regs j) (d:∀j,Lv (A1 st.regs) j->Lv (A1 R') j/\rho' j=rho j) (n:∀j,¬Lv (A1 st.regs) j->Lv (A1 R') j->1000<=j)
 (s:∀j r b,D j->A1 R' j≠some (.yld r b))
 (f:∀j o b,D j->A1 R' j=some o->D6 (rho' j) o b->∃i oi,D i/\A1 st.regs i=some oi/\D6 (rho i) oi b)
 (l:∀i j oi oj b,D i->D j->A1 R' i=some oi->A1 R' j=some oj->D6 (rho' i) oi b->D6 (rho' j) oj b->i=j)
 (g:∀i oi,D i->A1 st.regs i=some oi->∀off,Hr oi off)
 (x:(∀b off,Prv C.X (A1 R') rho' b off->Prv C.X (A1 st.regs) rho b off)->Keeps w (Prv C.X (A1 st.regs) rho) w (Prv C.X (A1 R') rho')->∀j o,D j->A1 R' j=some o->HoldsO w (Prv C.X (A1 R') rho') (Lv (A1 R')) rho' (rho' j) o) :
 Sat C ⟨st.env,R'⟩ a w rho' /\ ∀b off,Prv C.X (A1 R') rho' b off->Prv C.X (A1 st.regs) rho b off:=by
 have q:∀b off,Prv C.X (A1 R') rho' b off->Prv C.X (A1 st.regs) rho b off:=by
  rintro b off (y|⟨j,o,hj,hb,hp⟩)
  .exact .inl y
  by_cases m:D j
  .obtain⟨i,oi,h1,t,z⟩:=f j o b m hj hb;exact .inr ⟨i,oi,t,z,g i oi h1 t off⟩
  rw[c j m]at hj;rw[(d j (by simp[Lv,hj])).2]at hb;exact .inr ⟨j,o,hj,hb,hp⟩
 exact⟨(hs.step D c d (AQ8 _) n s (fun _ _ _=>rfl) (fun j o b m hj hb=>.inl (f j o b m hj hb)) l
  (fun i oi b off v m u hb hp hc=>Ln (.inr ⟨i,oi,u,hb,g i oi m u off⟩) hp) (x q)).1,q⟩
end
section
variable {P:Program}{C:Ctx}{st:St}{a:Act}{w:World}{rho:Nat->Value}{o:Oper}{out:Out}{d:Nat}
theorem Dt {regs:B5}{j q:Nat}{o:Obj}(h:Lv (A1 regs) q):Lv (A1 (ins j o regs)) q:=by
 unfold Lv;rw[A2];split
 .rfl
 exact h
theorem Du {regs:B5}{j q:Nat}{o:Obj}(h:Lv (A1 (ins j o regs)) q):j=q \/ Lv (A1 regs) q:=by
 unfold Lv at h;rw[A2]at h;split at h
 .exact .inl ‹_›
 exact .inr h
theorem Me {regs:B5}{q:Nat}{o:Obj}(h:A1 regs q=some o):Lv (A1 regs) q:=by unfold Lv;rw[h];rfl
theorem Fh {w:World}{p q:Nat->Nat->Prop}(h:∀b o,q b o->p b o):Keeps w p w q:=fun b o v hp hc=>⟨hc,fun a=>hp (h b o a)⟩
theorem Zq {e:TypeId}{n jr:Nat}{x:Option (Nat×AV)}{Pi Pi' : Nat->Nat->Prop}{live live' : Nat->Prop}{rho' : Nat->Value}{v:Value}(h:HoldsC w Pi live rho v (.fam e n jr x)) :∃c:Array Value,HoldsC w Pi' live' rho' v (.vec e 1 n (fun i=>[.v (c.getD i undef)]) false)/\(∃rv,live jr/\rho jr=.agg rv/\∀i,i<n->(x.map (·.1)≠some i->c.getD i undef=rv.getD i undef)) /\
  ∀i y,x=some (i,y)->0<n->RepA w Pi live rho (c.getD i undef) y:=by
 obtain⟨rv,l1,l2,h⟩:=h;rcases h with⟨h,d⟩ | ⟨b,cap,c,g1,g2,g3,g4,g5,g6,g7⟩
 .exact⟨#[],.inl ⟨h,d⟩,⟨rv,l1,l2,fun i a=>by omega⟩,fun i y _ h=>by omega⟩
 refine⟨c,.inr ⟨b,cap,c,g1,g2,g3,by omega,g5,fun _ _=>rfl,fun i l a hl=>?_⟩,⟨rv,l1,l2,fun i a=>(g6 i a).2⟩,fun i y hx _=>?_⟩
 .obtain rfl:l=0:=by omega
  rw[AV9,AX6];exact⟨.v _,(g6 i a).1⟩
 subst hx;exact g7
theorem Zr (h:Sat C st a w rho){c:Call}(hc:c.callee=.builtin .append)(g:o.op=.call c)(he:aop P st.env st.regs d o.op=some out)(a5:D0 out.cond):OpOk P C o st a w rho out:=by
 by_cases hF:∀s x e m b,c.args.toList=[s,x]->Im st.regs e m d b (aev st.env s) (aev st.env x)=none
 .exact OK h hF hc g he a5
 simp only[Classical.not_forall,not_imp]at hF;obtain⟨s,x,e0,m0,b0,a6,hF⟩:=hF;have hJ:∃j l n jr jz y e1 e2,aev st.env s=.vec j/\aev st.env x=.vec l/\A1 st.regs (nid d 0)=none/\A1 st.regs j=some (.fam e1 n jr none)/\A1 st.regs l=some (.fam e2 1 jz (some (0,y))):=by
  unfold Im at hF;split at hF
  .rename_i j l hs hx;split at hF
   .rename_i e1 n jr e2 jz y h1 h2 h3;exact⟨j,l,n,jr,jz,y,e1,e2,hs,hx,h1,h2,h3⟩
   exact Ln rfl hF
  exact Ln rfl hF
 obtain⟨j,l,n,jr,jz,y,e1,e2,hsv,hxv,hd,hj,hl⟩:=hJ;obtain⟨callee,args,types⟩:=c;simp only at hc;subst hc;rw[g]at he;simp only at a6;simp only[aop,a6]at he;split at he
 .rename_i s' x' t t2 hs' htypes;cases hs';split at he
  .rename_i e k2 ht ht2;split at he
   .rename_i m z hk2 hm hz;have hel:elems st.regs m (.vec l)=none:=by simp only[elems,hl]
    simp only[hsv,hxv,hd,hel]at he;by_cases hzm:z.length=m
    case neg=>rw[show famB P e z m=0 by unfold famB;rw[show (z.length==m)=false by simpa using hzm]]at he;simp[Im,hd,hj,hl]at he
    rw[show famB P e z m=CX P e by unfold famB;rw[show (z.length==m)=true by simpa using hzm]]at he;simp only[Im,hd,hj,hl]at he;split at he
    .rename_i c1 v1 R1 hif;split at hif
     .rename_i hif';obtain⟨⟨⟨he1,he2⟩,hm1,hby⟩,hne⟩:=hif';subst hm1;rw[he1]at hj;rw[he2]at hl;cases hif;cases he;have hzl:z.length=1:=hzm;have a5:D0 [(n+1)*CX P e<=140737488355328/\n+1<=140737488355328]:=a5;have hnj:nid d 0≠j:=by rintro h;rw[h,hj]at hd;cases hd
      have hnl:nid d 0≠l:=by rintro h;rw[h,hl]at hd;cases hd
      obtain⟨cj,f1,⟨rv,l1,l2,f3⟩,_⟩:=Zq (Pi:=Prv C.X (A1 st.regs) rho) (live:=Lv (A1 st.regs)) (Pi':=fun _ _=>False) (live':=fun _=>False) (rho':=rho) (h.hp.holds j _ hj);obtain⟨cl,k1,_,k3⟩:=Zq (Pi:=Prv C.X (A1 st.regs) rho) (live:=Lv (A1 st.regs)) (Pi':=fun _ _=>False) (live':=fun _=>False) (rho':=rho) (h.hp.holds l _ hl);have k3:=k3 0 y rfl (by omega);obtain⟨R',hR'⟩:∃R' : B5,R' = ins l (.vec e 1 1 (fun i=>[.v (cl.getD i undef)]) false) (ins j (.vec e 1 n (fun i=>[.v (cj.getD i undef)]) false) st.regs):=⟨_,rfl⟩;have a0:∀q,A1 R' q=if l=q then some (.vec e 1 1 (fun i=>[.v (cl.getD i undef)]) false)else if j=q then some (.vec e 1 n (fun i=>[.v (cj.getD i undef)]) false)else A1 st.regs q:=fun q=>by rw[hR',A2,A2]
      have hwas:∀q o b,(q=j \/ q=l)->A1 R' q=some o->D6 (rho q) o b->∃oi,A1 st.regs q=some oi/\D6 (rho q) oi b:=by
       intro q o b f g hb;rw[a0]at g;split at g
       .rename_i h1;subst h1;cases g;exact⟨_,hl,hb⟩
       rename_i h1;obtain rfl:q=j:=f.resolve_right fun h=>h1 h.symm;rw[Ll rfl]at g;cases g;exact⟨_,hj,hb⟩
      obtain⟨h2,h3⟩:=h.re (fun q=>q=j \/ q=l) (R':=R') (rho':=rho)
       (fun q f=>by rw[a0,Lm (fun h=>f (.inr h.symm)),Lm (fun h=>f (.inl h.symm))]) (fun q f=>⟨by rw[hR'];exact Dt (Dt f),rfl⟩)
       (fun q f a4=>by
        rw[hR']at a4;rcases Du a4 with rfl|a4
        .exact Ln (Me hl) f
        rcases Du a4 with rfl|a4
        .exact Ln (Me hj) f
        exact Ln a4 f)
       (fun q r b f=>by rw[a0];rcases f with rfl|rfl<;>simp[hne,AV5 hne])
       (fun q o b f g hb=>by obtain⟨oi,h,h'⟩:=hwas q o b f g hb;exact⟨q,oi,f,h,h'⟩)
       (fun q q' o o' b f a4 g ho' hb hb'=>by obtain⟨o1,g1,g2⟩:=hwas q o b f g hb;obtain⟨o2,g3,g4⟩:=hwas q' o' b a4 ho' hb';exact h.hp.sep q q' o1 o2 b g1 g3 g2 g4)
       (fun q o f g off=>by
        rcases f with rfl|rfl
        .rw[hj]at g;cases g;trivial
        rw[hl]at g;cases g;trivial)
       (fun _ hk q o f g=>by
        rw[a0]at g;split at g
        .rename_i h1;subst h1;cases g;rcases k1 with h|⟨b,cap,c,g1,g2,g3,g4,g5,g6,g7⟩
         .exact .inl h
         exact .inr ⟨b,cap,c,g1,g2,g3,g4,g5,g6,fun i l hi hl=>by
          have:=g7 i l hi hl
          obtain rfl:l=0:=by omega
          exact⟨this.1.toV ▸ .v _,this.2⟩⟩
        rename_i h1;obtain rfl:q=j:=f.resolve_right fun h=>h1 h.symm;rw[Ll rfl]at g;cases g;rcases f1 with h|⟨b,cap,c,g1,g2,g3,g4,g5,g6,g7⟩
        .exact .inl h
        exact .inr ⟨b,cap,c,g1,g2,g3,g4,g5,g6,fun i l hi hl=>by
         have:=g7 i l hi hl
         obtain rfl:l=0:=by omega
         exact⟨this.1.toV ▸ .v _,this.2⟩⟩)
      have hd' : A1 R' (nid d 0)=none:=by rw[a0,Lm (AV5 hnl),Lm (AV5 hnj)];exact hd
      have hj' : A1 R' j=some (.vec e 1 n (fun i=>[.v (cj.getD i undef)]) false):=by rw[a0,Lm (AV5 hne),Ll rfl]
      have hl' : A1 R' l=some (.vec e 1 1 (fun i=>[.v (cl.getD i undef)]) false):=by rw[a0,Ll rfl]
      have hop:=OK (P:=P) (o:=o) (d:=d) (out:=⟨[(n+1)*CX P e<=140737488355328/\n+1<=140737488355328],.vec (nid d 0),ins (nid d 0) (.vec e 1 (n+1) (Cb n (fun i=>[.v (cj.getD i undef)]) fun i=>[.v (cl.getD i undef)]) false) (ins j .dead R')⟩) h2
       (c:=⟨.builtin .append,args,types⟩) (fun s1 x1 e3 m3 b3 hx1=>by rw[a6]at hx1;cases hx1;simp only[hsv,hxv,Im,hd',hj']) rfl g
       (by rw[g];simp only[aop,a6,htypes,ht,ht2,hk2,hm,hz,hsv,hxv,hd',elems,PQ,hj',hl',Lo,and_self,hzl,hby]) a5
      obtain⟨nx,v,w',rho1,p1,p2,p3,p4,p5⟩:=hop;have u:∀q,Lv (A1 st.regs) q->Lv (A1 R') q:=fun q f=>by rw[hR'];exact Dt (Dt f)
      have hrj:rho1 jr=.agg rv:=(p4.live jr (u jr l1)).2.trans l2;have hx:∃Rz:B5,Rz=ins (nid d 0) (.fam e (n+1) jr (some (n,y))) (ins l .dead (ins j .dead st.regs)):=⟨_,rfl⟩;obtain⟨Rz,hRz⟩:=hx;have hgz:∀q,A1 Rz q=if nid d 0=q then some (.fam e (n+1) jr (some (n,y)))else if l=q then some .dead else if j=q then some .dead else A1 st.regs q:=fun q=>by rw[hRz,A2,A2,A2]
      obtain⟨Ry,hRy⟩:∃Ry:B5,Ry=ins (nid d 0) (.vec e 1 (n+1) (Cb n (fun i=>[.v (cj.getD i undef)]) fun i=>[.v (cl.getD i undef)]) false) (ins j .dead R'):=⟨_,rfl⟩;have hgy:∀q,A1 Ry q=if nid d 0=q then some (.vec e 1 (n+1) (Cb n (fun i=>[.v (cj.getD i undef)]) fun i=>[.v (cl.getD i undef)]) false)else if j=q then some .dead else if l=q then some (.vec e 1 1 (fun i=>[.v (cl.getD i undef)]) false)else A1 st.regs q:=fun q=>by
       rw[hRy,A2,A2,a0];by_cases h1:nid d 0=q
       .rw[Ll h1,Ll h1]
       rw[Lm h1,Lm h1];by_cases h2:j=q
       .rw[Ll h2,Ll h2]
       rw[Lm h2,Lm h2,Lm h2]
      simp only[<- hRy]at p3 p4 p5;simp only[<- hRz];have hlz:∀q,Lv (A1 Ry) q->Lv (A1 Rz) q:=fun q f=>by
       unfold Lv at f⊢;rw[hgz];rw[hgy]at f;by_cases h1:nid d 0=q
       .rw[Ll h1];rfl
       rw[Lm h1]at f⊢;by_cases h2:l=q
       .rw[Ll h2];rfl
       rw[Lm h2];by_cases h3:j=q
       .rw[Ll h3];rfl
       rw[Lm h3,Lm h2]at f;rw[Lm h3];exact f
      have hlz' : ∀q,Lv (A1 Rz) q->Lv (A1 Ry) q:=fun q f=>by
       unfold Lv at f⊢;rw[hgy];rw[hgz]at f;by_cases h1:nid d 0=q
       .rw[Ll h1];rfl
       rw[Lm h1]at f⊢;by_cases h3:j=q
       .rw[Ll h3];rfl
       rw[Lm h3];by_cases h2:l=q
       .rw[Ll h2];rfl
       rw[Lm h2,Lm h3]at f;rw[Lm h2];exact f
      obtain⟨q2,q3⟩:=p3.re (fun q=>q=nid d 0 \/ q=l) (R':=Rz) (rho':=rho1)
       (fun q f=>by
        show A1 Rz q=A1 Ry q;have a1:¬nid d 0=q:=fun h=>f (.inl h.symm);have a2:¬l=q:=fun h=>f (.inr h.symm);rw[hgz,hgy,Lm a1,Lm a1,Lm a2];by_cases a3:j=q
        .rw[Ll a3,Ll a3]
        rw[Lm a3,Lm a3,Lm a2]) (fun q f=>⟨hlz q f,rfl⟩)
       (fun q f a4=>Ln (hlz' q a4) f)
       (fun q r b f=>by rw[hgz];rcases f with rfl|rfl<;>simp[hnl])
       (fun q o b f g hb=>by
        rw[hgz]at g;split at g
        .rename_i h1;subst h1;cases g;exact⟨_,_,.inl rfl,(hgy (nid d 0)).trans (Ll rfl),hb⟩
        rename_i h1;obtain rfl:q=l:=f.resolve_left fun h=>h1 h.symm;rw[Ll rfl]at g;cases g;cases hb)
       (fun q q' o o' b f a4 g ho' hb hb'=>by
        have key:∀q o,(q=nid d 0 \/ q=l)->A1 Rz q=some o->D6 (rho1 q) o b->q=nid d 0:=by
         intro q o f g hb;rcases f with h1|h1
         .exact h1
         rw[h1,hgz,Lm hnl,Ll rfl]at g;have g:=AS8 g;subst g;exact Ln hb (by simp[D6,K9])
        rw[key q o f g hb,key q' o' a4 ho' hb'])
       (fun q o f g off=>by
        replace g:A1 Ry q=some o:=g;rw[hgy]at g;rcases f with h1|h1
        .rw[Ll h1.symm]at g;have g:=AS8 g;subst g;trivial
        rw[h1,Lm hnl,Lm hne,Ll rfl]at g;have g:=AS8 g;subst g;trivial)
       (fun hpi hk q o f g=>by
        rw[hgz]at g;split at g
        .rename_i h1;subst h1;cases g;refine⟨rv,hlz jr (p4.live jr (u jr l1)).1,hrj,?_⟩;have hh:=p3.hp.holds (nid d 0) _ (by show A1 Ry _=_;rw[hgy,Ll rfl]);rcases hh with⟨_,h0⟩ | ⟨b,cap,c,g1,g2,g3,g4,g5,g6,g7⟩
         .omega
         have hc:∀i,i<n+1->c.getD i undef=(if i<n then cj.getD i undef else cl.getD (i-n) undef)/\(c.getD i undef).oneCell' = true:=by
          intro i hi
          have:=g7 i 0 hi (by omega)
          rw[AV9,AX6]at this;refine⟨?_,this.2⟩;have h5:=this.1;unfold Cb at h5;split at h5
          .rename_i h6;rw[Ll h6];exact h5.toV
          rename_i h6;rw[Lm h6];exact h5.toV
         refine .inr ⟨b,cap,c,g1,g2,g3,by omega,g5,fun i hi=>⟨(hc i hi).2,fun hx=>?_⟩,?_⟩
         .have hin:i<n:=by
           have:i≠n:=fun h=>hx (by rw[h];rfl)
           omega
          rw[(hc i hi).1,Ll hin];exact f3 i hin (by simp)
         show RepA w' _ _ rho1 (c.getD n undef) y;rw[(hc n (by omega)).1,Lm (by omega),Nat.sub_self];exact k3.keeps ((Fh h3).trans (p4.keeps.trans hk)) fun q f=>⟨hlz q (p4.live q (u q f)).1,(p4.live q (u q f)).2⟩
        rename_i h1;obtain rfl:q=l:=f.resolve_left fun h=>h1 h.symm;rw[Ll rfl]at g;cases g;trivial)
      refine⟨nx,v,w',rho1,p1,p2,q2,⟨(Fh h3).trans (p4.keeps.trans (Fh q3)),fun q f=>⟨hlz q (p4.live q (u q f)).1,(p4.live q (u q f)).2⟩⟩,?_⟩;exact p5.keeps (Fh q3) fun q f=>⟨hlz q f,rfl⟩
     cases hif
    cases he
   cases he
  cases he
 cases he
theorem Qd (h:Sat C st a w rho){t:TypeId}{n:Nat}{parts:Array (Nat×Operand)}(s:o.op=.buildSlice t n parts)(he:aop P st.env st.regs d o.op=some out)(hc:D0 out.cond):OpOk P C o st a w rho out:=by
 cases u:Hn st.regs n (parts.toList.map fun q=>(q.1,aev st.env q.2))with
 |none=>cases hrf:Io n (parts.toList.map fun q=>(q.1,aev st.env q.2))with
  |none=>exact Hu h u hrf s he hc
  |some cs=>exact NM h u hrf s he hc
 |some p=>
  obtain⟨jz,j⟩:=p;have hJ:∃x e1 k m f r g,parts.toList=[(0,x)]/\aev st.env x=.vec j/\n=1/\A1 st.regs j=some (.vec e1 k m f false)/\A1 st.regs jz=some (.rows r g):=by
   cases hp:parts.toList with
   |nil=>rw[hp]at u;simp[Hn]at u
   |cons p1 ps=>
    obtain⟨i,x⟩:=p1;rw[hp]at u;cases ps with
    |cons p2 ps=>simp[Hn]at u
    |nil=>
     simp only[AR9,AY3]at u;unfold Hn at u;split at u
     .rename_i hx;rename_i j1;simp only[AV7,AR3,and_true]at hx;obtain⟨rfl,hx⟩:=hx;split at u
      .rename_i h1 h2;split at u
       .rename_i h3;split at u
        .rename_i h4;simp only[AQ2,AR3]at u;obtain⟨rfl,rfl⟩:=u;exact⟨x,_,_,_,_,_,_,rfl,hx,h4,h1,h3⟩
        cases u
       cases u
      cases u
     cases u
  obtain⟨x,e1,k,m,f,r,g,y,hx,rfl,hj,hjz⟩:=hJ;rw[s]at he;simp only[aop,u]at he;split at he
  .rename_i e hk hd;split at he
   .rename_i z hsz hz;split at he
    .rename_i hzl;cases he;obtain⟨rv,l2,_⟩:=h.hp.holds jz _ hjz;have hv:=h.aev x;rw[hx]at hv;obtain⟨b0,nn,cap,hV⟩:∃b0 nn cap,a.eval x=.slice b0 nn cap:=by
      generalize a.eval x=V at hv;cases hv with
      |vec j base nn cap hl hr=>exact⟨_,_,_,rfl⟩
     cases x with
     |const c=>cases hx
     |func q=>cases hx
     |global q=>cases hx
     |tmp t0=>
     obtain⟨env',henv⟩:∃env' : Env,env' = ins t0 (.p (.v (.slice b0 nn cap))) st.env:=⟨_,rfl⟩;have h2:Sat C ⟨env',st.regs⟩ a w rho:=⟨h.toSatE,fun q=>by
      show RepA _ _ _ _ _ (get env' q);rw[henv,JC];split
      .rename_i h1;subst h1;rw[show a.tmps.getD t0 undef=.slice b0 nn cap from hV];exact .p _ _ (.v _)
      exact h.env q,h.pin,h.marks⟩
     have hx' : aev env' (.tmp t0)=.p (.v (.slice b0 nn cap)):=by show get env' t0=_;rw[henv,JC,Ll rfl]
     obtain⟨Ry,hRy⟩:∃Ry:B5,Ry=ins (nid d 0) (.vec e 1 1 (J5 z [(0,[.v (.slice b0 nn cap)])]) false) st.regs:=⟨_,rfl⟩;have hop:=Hu (P:=P) (o:=o) (d:=d) (st:=⟨env',st.regs⟩) (out:=⟨[Fd 1 1 [0] [.v (.slice b0 nn cap)]=true],.vec (nid d 0),Ry⟩) h2
      (by rw[y];simp only[AR9,AY3,hx'];rfl) (by rw[y];simp only[AR9,AY3,hx'];rfl) s
      (by
       rw[s];have h3:Hn st.regs 1 ([(0,Operand.tmp t0)].map fun q=>(q.1,aev env' q.2))=none:=by simp only[AR9,AY3,hx'];rfl
       have h4:EA st.regs ([(0,Operand.tmp t0)].map fun (q:Nat×Operand)=>aev env' q.2)=some ([.v (.slice b0 nn cap)],st.regs):=by simp only[AR9,AY3,hx'];rfl
       have h5:Io 1 ([(0,Operand.tmp t0)].map fun (q:Nat×Operand)=>(q.1,aev env' q.2))=none:=by simp only[AR9,AY3,hx'];rfl
       simp only[aop,y,h3,h5,hk,hd,h4,hsz,hz];rw[Ll ⟨⟨by omega,by omega⟩,hzl⟩,hRy];rfl)
      (show Fd 1 1 [0] [.v (.slice b0 nn cap)]=true from rfl)
     obtain⟨nx,v,w',rho1,p1,p2,p3,p4,p5⟩:=hop;have hgy:∀q,A1 Ry q=if nid d 0=q then some (.vec e 1 1 (J5 z [(0,[.v (.slice b0 nn cap)])]) false)else A1 st.regs q:=fun q=>by rw[hRy,A2]
     obtain⟨Rz,hRz⟩:∃Rz:B5,Rz=ins (nid d 0) (.fam e 1 jz (some (0,.vec j))) st.regs:=⟨_,rfl⟩;have hgz:∀q,A1 Rz q=if nid d 0=q then some (.fam e 1 jz (some (0,.vec j)))else A1 st.regs q:=fun q=>by rw[hRz,A2]
     simp only[<- hRz];have a0:∀q,Lv (A1 Ry) q↔Lv (A1 Rz) q:=fun q=>by
      unfold Lv;rw[hgy,hgz];split
      .exact⟨fun _=>rfl,fun _=>rfl⟩
      exact AZ7
     have hrz:rho1 jz=.agg rv:=(p4.live jz (Me hjz)).2.trans l2;obtain⟨q2,q3⟩:=p3.re (fun q=>q=nid d 0) (R':=Rz) (rho':=rho1)
      (fun q l=>by show A1 Rz q=A1 Ry q;rw[hgz,hgy,Lm (fun h=>l h.symm),Lm (fun h=>l h.symm)]) (fun q l=>⟨(a0 q).1 l,rfl⟩)
      (fun q l hq'=>Ln ((a0 q).2 hq') l)
      (fun q r b l=>by rw[hgz,l,Ll rfl];simp)
      (fun q o b l s hb=>by subst l;rw[hgz,Ll rfl]at s;have s:=AS8 s;subst s;exact⟨_,_,rfl,(hgy (nid d 0)).trans (Ll rfl),hb⟩)
      (fun q q' o o' b l hq' _ _ _ _=>l.trans hq'.symm)
      (fun q o l s off=>by replace s:A1 Ry q=some o:=s;rw[hgy,Ll l.symm]at s;have s:=AS8 s;subst s;trivial)
      (fun hpi hk q o l s=>by
       subst l;rw[hgz,Ll rfl]at s;have s:=AS8 s;subst s;refine⟨rv,(a0 jz).1 (p4.live jz (Me hjz)).1,hrz,?_⟩;have hh:=p3.hp.holds (nid d 0) _ (by show A1 Ry _=_;rw[hgy,Ll rfl]);rcases hh with⟨_,h0⟩ | ⟨b,cap',c,g1,g2,g3,g4,g5,g6,g7⟩
       .omega
       have h0:=g7 0 0 (by omega) (by omega);refine .inr ⟨b,cap',c,g1,g2,g3,by omega,g5,fun i hi=>?_,?_⟩
       .obtain rfl:i=0:=by omega
        exact⟨h0.2,fun hx=>Ln rfl hx⟩
       show RepA w' _ _ rho1 (c.getD 0 undef) (.vec j);have h1:c.getD 0 undef=.slice b0 nn cap:=RepP.toV h0.1;rw[h1,<- hV];exact hv.keeps (p4.keeps.trans hk) fun q l=>⟨(a0 q).1 (p4.live q l).1,(p4.live q l).2⟩)
     refine⟨nx,v,w',rho1,p1,p2,⟨q2.toSatE,fun q=>?_,q2.pin,q2.marks⟩,⟨p4.keeps.trans (Fh q3),fun q l=>⟨(a0 q).1 (p4.live q l).1,(p4.live q l).2⟩⟩,?_⟩
     .exact (h.env q).keeps (p4.keeps.trans (Fh q3)) fun q l=>⟨(a0 q).1 (p4.live q l).1,(p4.live q l).2⟩
     exact p5.keeps (Fh q3) fun q l=>⟨(a0 q).1 l,rfl⟩
    cases he
   cases he
  cases he
end
end Go.AM
namespace Go.AM
section
variable {P:Program}{C:Ctx}{st:St}{a:Act}{w:World}{rho:Nat->Value}{o:Oper}{out:Out}{d:Nat}
theorem Zs (h:Sat C st a w rho)(g:aop P st.env st.regs d o.op=some out)(hc:D0 out.cond):OpOk P C o st a w rho out:=by
 cases j:o.op with
 |move x=>rw[j]at g;simp only[aop,AQ2]at g;subst g;exact Zf h (.inl j) rfl rfl
 |assign x=>rw[j]at g;simp only[aop,AQ2]at g;subst g;exact Zf h (.inr j) rfl rfl
 |pick c x y=>exact Ay0 h j g
 |alloc t=>exact Ah7 h j g
 |box t x=>exact AI5 h j g
 |build t ps=>exact Ai6 h j g
 |buildSlice t n ps=>exact Qd h j g hc
 |load t x=>exact Ay1 h j g hc
 |store t x y=>exact Ah8 h j g hc
 |nilCheck x=>exact Um h j g
 |binOp op t x y yt=>exact Ai4 h j g hc
 |unOp op t x=>exact Ay2 h j g
 |convert s t x=>exact Xx h j g hc
 |makeInterface t x=>exact Lg h j g
 |makeFunc f x y=>
  cases f with
  |func f=>exact Un h j g
  |_=>rw[j]at g;simp[aop]at g
 |makeMap t r=>
  cases r with
  |none=>exact Xv h j g
  |some r=>rw[j]at g;simp[aop]at g
 |makeSlice t l c=>exact Si h j g hc
 |slice t x lo hi mx=>
  cases mx with
  |none=>exact Ai2 h j g hc
  |some r=>rw[j]at g;simp[aop]at g
 |fieldAddr t x f=>exact Sb h j g
 |field t x f=>exact Ah9 h j g hc
 |indexAddr t x i=>exact Se h j g hc
 |index t x i=>exact Ai1 h j g hc
 |lookup t m k ok=>exact Zp h j g hc
 |mapUpdate t m k x=>exact So h j g hc
 |mapEntry t m k=>exact Ut h j g hc
 |entryStore t m s x=>exact Qc h j g hc
 |extract x i=>exact Xu h j g
 |call c=>
  obtain⟨callee,args,types⟩:=c;cases callee with
  |builtin b=>
   cases b with
   |len=>exact AI6 (c:=⟨.builtin .len,args,types⟩) h rfl j g
   |append=>exact Zr (c:=⟨.builtin .append,args,types⟩) h rfl j g hc
   |clear=>exact Ai5 (c:=⟨.builtin .clear,args,types⟩) h rfl j g
   |min=>exact Sc (c:=⟨.builtin .min,args,types⟩) h (.inl rfl) j g
   |max=>exact Sc (c:=⟨.builtin .max,args,types⟩) h (.inr rfl) j g
   |_=>rw[j]at g;simp[aop]at g
  |_=>rw[j]at g;simp[aop]at g
 |_=>rw[j]at g;simp[aop]at g
end
structure Rel (C:Ctx) (w:World) (O:Nat->Prop) (V:Nat->Nat->Prop):Prop where
 ext:Ext C.w0 w
 size:C.w0.heap.size<=w.heap.size
 same:∀b,b<C.w0.heap.size->¬C.E0 b->w.heap[b]? = C.w0.heap[b]?
 keep:Keeps C.w0 C.Pi0 w (fun b o=>C.X b o \/ V b o)
 own:∀b,O b->C.E0 b \/ C.w0.heap.size<=b
 out:∀b off,O b->¬C.X b off
 lt:∀b,O b->b<w.heap.size
 bnd:∀b off,C.X b off->b<w.heap.size
 vo:∀b o,V b o->O b
def Ay7 (P:Program)(yv:Value)(vs:Array Value)(w:World)(R:Bool->World->Prop):Prop:= ∃l fn tmps assign body,yv=.func (.yield l) #[] #[]/\(Instr.yield l vs).run P w=.ok (.round l fn tmps assign body) w /\ RoundIn Fence.wide 0 P l fn tmps assign body w fun e w'=>∃b:Bool,e=.returned (.bool b)/\R b w'
def VX (s:String):List Value:=if s == "math/bits.deBruijn64tab" then Lib.deBruijn64tab.map fun n=>.int .u8 (n:Nat)else []
def TabOk (P:Program)(w:World)(Pi:Nat->Nat->Prop):Prop:=∀(g:Nat) (s:Global) (j:Nat) (v:Value),P.globals[g]? = some s->(VX s.name)[j]? = some v->w.cell? ⟨g,j,none⟩=some v/\¬Pi g j
theorem TabOk.keeps {P:Program}{w w' : World}{Pi Pi' : Nat->Nat->Prop}(h:TabOk P w Pi)(hk:Keeps w Pi w' Pi'):TabOk P w' Pi':=fun g s j v hs a=>hk g j v (h g s j v hs a).2 (h g s j v hs a).1
def YArg (w:World)(Pi:Nat->Nat->Prop)(vs:Array Value)(ys:List PV)(H:Nat->Prop):Prop:= ((∀b,¬H b)/\vs.size=ys.length/\∀i,i<ys.length->RepP w Pi (vs.getD i undef) (ys.getD i default)) \/ ∃v e k n f,vs = #[v]/\ys=Dp e k n f/\(∀b,H b↔K9 v (.vec e k n f false)=some b)/\HoldsC w Pi (fun _=>False) (fun _=>undef) v (.vec e k n f false)
theorem YArg.keeps {w w' : World}{Pi Pi' : Nat->Nat->Prop}{vs:Array Value}{ys:List PV}{H:Nat->Prop}(h:YArg w Pi vs ys H)(hk:Keeps w Pi w' Pi')(hb:∀b,H b->w'.heap[b]? = w.heap[b]?):YArg w' Pi' vs ys H:=by
 rcases h with⟨h1,c,a⟩ | ⟨v,e,k,n,f,h1,c,a,g⟩
 .exact .inl ⟨h1,c,fun i j=>(a i j).keeps hk⟩
 exact .inr ⟨v,e,k,n,f,h1,c,a,g.vec hk fun b d=>hb b ((a b).2 d)⟩
structure Prot (P:Program) where
 G:Ctx->Prop
 tab:∀C,G C->TabOk P C.w0 C.Pi0
 call:∀(C:Ctx) (w:World) (O:Nat->Prop) (V:Nat->Nat->Prop) (ys:List PV) (rest:List (List PV)) (vs:Array Value) (H:Nat->Prop),G C->Rel C w O V->C.Y (ys::rest) true->(∀b,H b->O b/\∀o,V b o) ->
  YArg w (fun b o=>C.X b o \/ V b o) vs ys H ->
  Ay7 P C.yv vs w fun b w'=>∃C',G C' /\ C'.yv=C.yv/\C'.rho0=C.rho0/\C'.Y (if b then rest else []) b/\C'.w0=w' /\ C'.E0=O/\(C'.Pi0=fun b o=>C'.X b o \/ V b o)/\Rel C' w' O V /\
   (∀b,O b->¬H b->w'.heap[b]? = w.heap[b]?)/\Keeps w (fun b o=>C.X b o \/ V b o) w' (fun b o=>C'.X b o \/ V b o)/\w.heap.size<=w'.heap.size/\Ext w w' /\ YArg w' (fun b o=>C'.X b o \/ V b o) vs ys H
def Prot.triv (P:Program)(C:Ctx)(a:∀r b,¬C.Y r b)(c:TabOk P C.w0 C.Pi0):Prot P:=
 ⟨fun C'=>C' = C,fun C' h=>h ▸ c,fun C' w O V ys rest vs H d hR f=>by subst d;exact Ln f (a _ _)⟩
def Qe (l:List Deferred)(b:Nat):Prop:=({ target:=.collected b,args:=#[] }:Deferred)∈l
def PvR (R:B5)(rho:Nat->Value)(b off:Nat):Prop:=∃j o,A1 R j=some o/\D6 (rho j) o b/\Hr o off
def RK (R:B5)(rho:Nat->Value)(l:List Deferred)(b:Nat):Prop:=Own (A1 R) rho b \/ Qe l b
def CallF (P:Program)(f:FuncId)(vs:Array Value)(w:World)(R:Ending->World->Prop):Prop:=
 ∃nx w1,(callFunc f vs).run P w=.ok nx w1/\match nx with
  |.enter f' as=>CallsIn Fence.wide 0 P f' as w1 R
  |.value v=>R (.returned v) w1
  |.row row as=>RowsIn Fence.wide 0 P row as w1 fun v w'=>R (.returned v) w'
  |_=>False
theorem CallF.mono {P:Program}{f:FuncId}{vs:Array Value}{w:World}{R R' : Ending->World->Prop}(h:CallF P f vs w R)(b:∀e w',R e w' -> R' e w'):CallF P f vs w R':=by
 obtain⟨nx,w1,h1,a⟩:=h;refine⟨nx,w1,h1,?_⟩;cases nx with
 |enter f' as=>exact a.mono b
 |value v=>exact b _ _ a
 |row row as=>exact RowsIn.mono a fun v w'=>b _ _
 |_=>exact a
def At0 (w:World)(Pi:Nat->Nat->Prop)(live:Nat->Prop)(rho:Nat->Value)(e:Ending):Lz->Prop
 |.ret a=>∃v,e=.returned v/\RepA w Pi live rho v a
 |.panic x=>∃v,e=.panicked [{ v,recovered:=false }]/\RepP w Pi v x
def SemF (P:Program)(f:FuncId)(args:List AV)(objs:List Obj)(Q:Lz->List Obj->List Bool->Prop):Prop:= ∀(𝒢 : Prot P) (C:Ctx) (w:World) (vs:Array Value) (rho:Nat->Value),𝒢.G C->Sat C ⟨argEnv args,objRegs objs⟩ ⟨vs,[]⟩ w rho->vs.size=args.length -> CallF P f vs w fun e w'=>∃C' r objs' ks rho', 𝒢.G C' /\ Q r objs' ks/\SatE C' (objRegs objs') w' rho' /\ At0 w' (Prv C'.X (A1 (objRegs objs')) rho') (Lv (A1 (objRegs objs'))) rho' e r/\∀i:Nat,ks[i]? = some true->i<objs'.length/\rho' i=rho i
def semUp (st:St)(K:St->Prop):Prop:=∀C a w rho,Sat C st a w rho->∃st' rho',K st' /\ (∀b off,Prv C.X (A1 st'.regs) rho' b off->Prv C.X (A1 st.regs) rho b off)/\Sat C st' a w rho'
def Ga (P:Program):W8:=⟨SemF P,semUp⟩
end Go.AM
namespace Go.AM
section
variable {w w' : World}{Pi Pi' : Nat->Nat->Prop}{live live' : Nat->Prop}{rho rho' : Nat->Value}
theorem L0:∀{ids:List Nat}{j p:Nat},idx ids j=some p->ids[p]? = some j
 |[],j,p,h=>by simp[idx]at h
 |i::r,j,p,h=>by
  simp only[idx]at h;split at h
  .rename_i e;cases h;simp[e]
  split at h
  .rename_i n hn;cases h;simpa using L0 hn
  cases h
theorem Cw {ids:List Nat}:∀{l l' : List AV},CS ids l=some l' -> l.length=l'.length/\∀i,i<l.length->PT ids (l.getD i .top)=some (l'.getD i .top)
 |[],l',h=>by simp only[CS,AQ2]at h;subst h;exact⟨rfl,fun i b=>Ln b (by simp)⟩
 |a::r,l',h=>by
  simp only[CS]at h;split at h
  .rename_i a' r' ha c;cases h;obtain⟨h1,d⟩:=Cw c;refine⟨by simp[h1],fun i b=>?_⟩;cases i with
   |zero=>simpa using ha
   |succ i=>simpa using d i (by simpa using b)
  cases h
theorem OO {ids:List Nat}:∀{l:List AV},unL ids l=l.map (unA ids)
 |[]=>rfl
 |a::r=>by simp only[unL,AR9,OO]
theorem RepA.ren {ids:List Nat}(hk:Keeps w Pi w' Pi')(g:∀p j,ids[p]? = some j->live j->live' p/\rho' p=rho j){v:Value}{a:AV}(h:RepA w Pi live rho v a):∀{a' : AV},PT ids a=some a' -> RepA w' Pi' live' rho' v a':=by
 induction h with
 |p v x h=>intro a' c;simp only[PT,AQ2]at c;subst c;exact .p _ _ (h.nP.keeps hk)
 |reg j off b hl h=>
  intro a' c;simp only[PT]at c;split at c
  .rename_i p hp;cases c;obtain⟨h1,d⟩:=g p j (L0 hp) hl;exact .reg p off b h1 (d.trans h)
  cases c
 |vec j base n cap hl h=>
  intro a' c;simp only[PT]at c;split at c
  .rename_i p hp;cases c;obtain⟨h1,d⟩:=g p j (L0 hp) hl;exact .vec p base n cap h1 (d.trans h)
  cases c
 |vecp j m base n cap hl h hm=>
  intro a' c;simp only[PT]at c;split at c
  .rename_i p hp;cases c;obtain⟨h1,d⟩:=g p j (L0 hp) hl;exact .vecp p m base n cap h1 (d.trans h) hm
  cases c
 |elt j k i off b n cap hl h=>
  intro a' c;simp only[PT]at c;split at c
  .rename_i p hp;cases c;obtain⟨h1,d⟩:=g p j (L0 hp) hl;exact .elt p k i off b n cap h1 (d.trans h)
  cases c
 |mref j r hl h=>
  intro a' c;simp only[PT]at c;split at c
  .rename_i p hp;cases c;obtain⟨h1,d⟩:=g p j (L0 hp) hl;exact .mref p r h1 (d.trans h)
  cases c
 |clo f x y a b hx hy ha hb iha ihb=>
  intro a' c;simp only[PT]at c;split at c
  .rename_i a2 b2 h1 d;cases c;obtain⟨l1,g1⟩:=Cw h1;obtain⟨l2,g2⟩:=Cw d;exact .clo f x y a2 b2 (hx.trans l1) (hy.trans l2) (fun i o=>iha i (by omega) (g1 i (by omega))) fun i o=>ihb i (by omega) (g2 i (by omega))
  cases c
 |tup x a hx ha ih=>
  intro a' c;simp only[PT]at c;split at c
  .rename_i a2 h1;cases c;obtain⟨l1,g1⟩:=Cw h1;exact .tup x a2 (hx.trans l1) fun i o=>ih i (by omega) (g1 i (by omega))
  cases c
 |agr x a hx h1' ha ih=>
  intro a' c;simp only[PT]at c;split at c
  .rename_i a2 h1;cases c;obtain⟨l1,g1⟩:=Cw h1;exact .agr x a2 (hx.trans l1) (fun i o=>h1' i (by omega)) fun i o=>ih i (by omega) (g1 i (by omega))
  cases c
 |yf j l hl h=>
  intro a' c;simp only[PT]at c;split at c
  .rename_i p hp;cases c;obtain⟨h1,d⟩:=g p j (L0 hp) hl;exact .yf p l h1 (d.trans h)
  cases c
 |rsl j n b hl h=>
  intro a' c;simp only[PT]at c;split at c
  .rename_i p hp;cases c;obtain⟨h1,d⟩:=g p j (L0 hp) hl;exact .rsl p n b h1 (d.trans h)
  cases c
 |top v=>intro a' c;simp only[PT,AQ2]at c;subst c;exact .top _
theorem RepA.un {ids:List Nat}(hk:Keeps w Pi w' Pi')(o:∀p,live p->live' (ids.getD p 0)/\rho' (ids.getD p 0)=rho p){v:Value}{a:AV}(h:RepA w Pi live rho v a):RepA w' Pi' live' rho' v (unA ids a):=by
 induction h with
 |p v x h=>exact .p _ _ (h.keeps hk)
 |reg j off b hl h=>obtain⟨h1,d⟩:=o j hl;exact .reg _ off b h1 (d.trans h)
 |vec j base n cap hl h=>obtain⟨h1,d⟩:=o j hl;exact .vec _ base n cap h1 (d.trans h)
 |vecp j m base n cap hl h hm=>obtain⟨h1,d⟩:=o j hl;exact .vecp _ m base n cap h1 (d.trans h) hm
 |elt j k i off b n cap hl h=>obtain⟨h1,d⟩:=o j hl;exact .elt _ k i off b n cap h1 (d.trans h)
 |mref j r hl h=>obtain⟨h1,d⟩:=o j hl;exact .mref _ r h1 (d.trans h)
 |clo f x y a b hx hy ha hb iha ihb=>
  simp only[unA,OO];refine .clo f x y _ _ (by simpa using hx) (by simpa using hy) (fun i g=>?_) fun i g=>?_
  .have c : i<a.length:=by simpa using g
   have:=iha i c
   simpa[AQ1,AQ9,AQ5 c]using this
  have c : i<b.length:=by simpa using g
  have:=ihb i c
  simpa[AQ1,AQ9,AQ5 c]using this
 |tup x a hx ha ih=>
  simp only[unA,OO];refine .tup x _ (by simpa using hx) fun i g=>?_;have c : i<a.length:=by simpa using g
  have:=ih i c
  simpa[AQ1,AQ9,AQ5 c]using this
 |agr x a hx h1' ha ih=>
  simp only[unA,OO];refine .agr x _ (by simpa using hx) (fun i g=>h1' i (by simpa using g)) fun i g=>?_;have c : i<a.length:=by simpa using g
  have:=ih i c
  simpa[AQ1,AQ9,AQ5 c]using this
 |yf j l hl h=>obtain⟨h1,d⟩:=o j hl;exact .yf _ l h1 (d.trans h)
 |rsl j n b hl h=>obtain⟨h1,d⟩:=o j hl;exact .rsl _ n b h1 (d.trans h)
 |top v=>exact .top v
theorem HoldsO.ren {ids:List Nat}(hk:Keeps w Pi w' Pi')(t:∀p j,ids[p]? = some j->live j->live' p/\rho' p=rho j){h:Value}{o o' : Obj}(hb:∀b,D6 h o b->w'.heap[b]? = w.heap[b]?)(a:PU ids o=some o')(q:HoldsO w Pi live rho h o):HoldsO w' Pi' live' rho' h o':=by
 cases o with
 |cells cs=>
  simp only[PU]at a;split at a
  .rename_i cs' s;cases a;obtain⟨l1,g1⟩:=Cw s;obtain⟨b,c,T,rfl,h1,l,d⟩:=q;exact⟨b,c,T,rfl,(hb b rfl).trans h1,l.trans l1,fun i m=>⟨(d i (by omega)).1.ren hk t (g1 i (by omega)),(d i (by omega)).2⟩⟩
  cases a
 |vec e k n f vw=>
  simp only[PU,AQ2]at a;subst a;rcases q with hn|⟨b,cap,c,rfl,h1,l,d,u,v,y⟩
  .exact .inl hn
  exact .inr ⟨b,cap,c,rfl,(hb b rfl).trans h1,l,d,u,v,fun i j m hj=>⟨(y i j m hj).1.keeps hk,(y i j m hj).2⟩⟩
 |map es=>simp only[PU,AQ2]at a;subst a;obtain⟨b,ents,clock,rfl,h1,l,d,h9⟩:=q;exact⟨b,ents,clock,rfl,(hb b rfl).trans h1,l,fun i m=>⟨(d i m).1.keeps hk,(d i m).2.keeps hk⟩,h9⟩
 |arr n f=>simp only[PU,AQ2]at a;subst a;obtain⟨b,c,T,rfl,h1,l,d⟩:=q;exact⟨b,c,T,rfl,(hb b rfl).trans h1,l,fun i m=>⟨(d i m).1.keeps hk,(d i m).2⟩⟩
 |ghost cs=>
  simp only[PU]at a;split at a
  .rename_i cs' s;cases a;obtain⟨l1,g1⟩:=Cw s;obtain⟨vs,rfl,h1,l⟩:=q;exact⟨vs,rfl,h1.trans l1,fun i m=>(l i (by omega)).ren hk t (g1 i (by omega))⟩
  cases a
 |yld r b=>simp only[PU,AQ2]at a;subst a;exact q
 |dead=>simp only[PU,AQ2]at a;subst a;trivial
 |fam e n jr x=>
  simp only[PU]at a;split at a
  .rename_i jr' hj;cases a;obtain⟨rv,g1,g2,z⟩:=q;obtain⟨g3,g4⟩:=t _ _ (L0 hj) g1;refine⟨rv,g3,g4.trans g2,?_⟩;rcases z with z|⟨b,cap,c,rfl,h1,l,d,u,v,y⟩
   .exact .inl z
   exact .inr ⟨b,cap,c,rfl,(hb b rfl).trans h1,l,d,u,v,trivial⟩
  cases a
 |rows n g=>simp only[PU,AQ2]at a;subst a;exact ED hk hb q
theorem Aj {ids:List Nat}{h:Value}{o o' : Obj}(a:PU ids o=some o'):D6 h o' = D6 h o:=by
 cases o<;>simp only[PU]at a
 case fam=>split at a<;>cases a;rfl
 case cells=>split at a<;>cases a;rfl
 case ghost=>split at a<;>cases a;rfl
 all_goals (cases a;rfl)
theorem IC {ids:List Nat}{o o' : Obj}(a:PU ids o=some o')(off:Nat):Hr o' off↔Hr o off:=by
 cases o<;>simp only[PU]at a
 case fam=>split at a<;>cases a;exact AZ7
 case cells=>split at a<;>cases a;exact AZ7
 case ghost=>split at a<;>cases a;exact AZ7
 all_goals (cases a;exact AZ7)
theorem HoldsO.un {ids:List Nat}(hk:Keeps w Pi w' Pi')(t:∀p,live p->live' (ids.getD p 0)/\rho' (ids.getD p 0)=rho p){h:Value}{o:Obj}(hb:∀b,D6 h o b->w'.heap[b]? = w.heap[b]?)(s:HoldsO w Pi live rho h o):HoldsO w' Pi' live' rho' h (unO ids o):=by
 cases o with
 |cells cs=>
  obtain⟨b,c,T,rfl,h1,l,a⟩:=s;simp only[unO,OO];refine⟨b,c,T,rfl,(hb b rfl).trans h1,by simpa using l,fun i m=>?_⟩;have d : i<cs.length:=by simpa using m
  refine⟨?_,(a i d).2⟩
  have:=(a i d).1.un hk t
  simpa[AQ1,AQ9,AQ5 d]using this
 |vec e k n f vw=>
  rcases s with hn|⟨b,cap,c,rfl,h1,l,a,u,v,y⟩
  .exact .inl hn
  exact .inr ⟨b,cap,c,rfl,(hb b rfl).trans h1,l,a,u,v,fun i j m hj=>⟨(y i j m hj).1.keeps hk,(y i j m hj).2⟩⟩
 |map es=>obtain⟨b,ents,clock,rfl,h1,l,a,h9⟩:=s;exact⟨b,ents,clock,rfl,(hb b rfl).trans h1,l,fun i m=>⟨(a i m).1.keeps hk,(a i m).2.keeps hk⟩,h9⟩
 |arr n f=>obtain⟨b,c,T,rfl,h1,l,a⟩:=s;exact⟨b,c,T,rfl,(hb b rfl).trans h1,l,fun i m=>⟨(a i m).1.keeps hk,(a i m).2⟩⟩
 |ghost cs=>
  obtain⟨vs,rfl,h1,l⟩:=s;simp only[unO,OO];refine⟨vs,rfl,by simpa using h1,fun i m=>?_⟩;have d : i<cs.length:=by simpa using m
  have:=(l i d).un hk t
  simpa[AQ1,AQ9,AQ5 d]using this
 |yld r b=>exact s
 |dead=>trivial
 |fam e n jr x=>
  obtain⟨rv,g1,g2,z⟩:=s;obtain⟨g3,g4⟩:=t _ g1;refine⟨rv,g3,g4.trans g2,?_⟩;rcases z with z|⟨b,cap,c,rfl,h1,l,a,u,v,y⟩
  .exact .inl z
  cases x with
  |none=>exact .inr ⟨b,cap,c,rfl,(hb b rfl).trans h1,l,a,u,v,trivial⟩
  |some q=>exact .inr ⟨b,cap,c,rfl,(hb b rfl).trans h1,l,a,u,v,y.un hk t⟩
 |rows n g=>exact ED hk hb s
theorem Qf {ids:List Nat}{h:Value}{o:Obj}:D6 h (unO ids o)=D6 h o:=by cases o<;>rfl
theorem Zt {ids:List Nat}{o:Obj}(off:Nat):Hr (unO ids o) off↔Hr o off:=by cases o<;>exact AZ7
theorem D3 (objs:List Obj)(j:Nat):A1 (objRegs objs) j=objs[j]?:=by
 have a:∀(objs:List Obj) (n:Nat) (acc:B5),A1 (objRegs.go n objs acc) j=if n<=j/\j<n+objs.length then objs[j-n]? else A1 acc j:=by
  intro objs
  induction objs with
  |nil=>intro n acc;simp[objRegs.go];intro h1 b;omega
  |cons o r ih=>
   intro n acc;simp only[objRegs.go,ih,A1,AT5];by_cases h:n=j
   .subst h;rw[Lm (by omega),Ll rfl,Ll ⟨by omega,by omega⟩];simp
   by_cases h1:n+1<=j/\j<n+1+r.length
   .rw[Ll h1,Ll ⟨by omega,by omega⟩];obtain⟨i,rfl⟩:∃i,j=n+1+i:=⟨j-(n+1),by omega⟩;rw[show n+1+i-(n+1)=i by omega,show n+1+i-n=i+1 by omega];simp
   rw[Lm h1,Lm h,Lm (by omega)]
 unfold objRegs;rw[a];by_cases h:j<objs.length
 .rw[Ll ⟨by omega,by omega⟩];simp
 rw[Lm (by omega),AU8 (by omega)];rfl
theorem Ak (args:List AV)(j:Nat):get (argEnv args) j=args.getD j .top:=by
 have a:∀(objs:List AV) (n:Nat) (acc:Env),get (argEnv.go n objs acc) j=if n<=j/\j<n+objs.length then objs.getD (j-n) .top else get acc j:=by
  intro objs
  induction objs with
  |nil=>intro n acc;simp[argEnv.go];intro h1 b;omega
  |cons o r ih=>
   intro n acc;simp only[argEnv.go,ih,get,AT5];by_cases h:n=j
   .subst h;rw[Lm (by omega),Ll rfl,Ll ⟨by omega,by omega⟩];simp
   by_cases h1:n+1<=j/\j<n+1+r.length
   .rw[Ll h1,Ll ⟨by omega,by omega⟩];obtain⟨i,rfl⟩:∃i,j=n+1+i:=⟨j-(n+1),by omega⟩;rw[show n+1+i-(n+1)=i by omega,show n+1+i-n=i+1 by omega];simp
   rw[Lm h1,Lm h,Lm (by omega)]
 unfold argEnv;rw[a];by_cases h:j<args.length
 .rw[Ll ⟨by omega,by omega⟩];simp
 rw[Lm (by omega)];simp[get,AQ1,AU8 (show args.length<=j by omega)]
theorem Al {ids:List Nat}{regs:B5}:∀{l:List Nat}{objs:List Obj},J6 ids regs l=some objs->objs.length=l.length/\∀(p j:Nat),l[p]? = some j->∃o o',A1 regs j=some o/\PU ids o=some o' /\ objs[p]? = some o'
 |[],objs,h=>by simp only[J6,AQ2]at h;subst h;exact⟨rfl,fun p j hp=>by simp at hp⟩
 |j::l,objs,h=>by
  simp only[J6]at h;split at h
  .rename_i o a;split at h
   .rename_i o' l' h1 b;cases h;obtain⟨c,d⟩:=Al b;refine⟨by simp[c],fun p i hp=>?_⟩;cases p with
    |zero=>simp only[AW9,AQ2]at hp;subst hp;exact⟨o,o',a,h1,by simp⟩
    |succ p=>simpa using d p i (by simpa using hp)
   cases h
  cases h
theorem Ce:∀{l:List Nat},G0 l=true->l.Nodup
 |[],_=>AX5
 |a::r,h=>by simp only[G0,AQ7,AS7,AU6,decide_eq_false_iff_not]at h;exact AW0.2 ⟨h.1,Ce h.2⟩
theorem EF:∀{l:List Nat}(h:l.Nodup) {p q j:Nat}(hp:l[p]? = some j) (b:l[q]? = some j),p=q
 |[],h,p,q,j,hp,b=>by simp at hp
 |a::l,h,p,q,j,hp,b=>by
  obtain⟨h1,c⟩:=AW0.1 h;cases p with
  |zero=>
   cases q with
   |zero=>rfl
   |succ q=>simp only[AW9,AQ2]at hp;simp only[Bd5]at b;subst hp;exact Ln (AT1 b) h1
  |succ p=>
   cases q with
   |zero=>simp only[AW9,AQ2]at b;simp only[Bd5]at hp;subst b;exact Ln (AT1 hp) h1
   |succ q=>exact congrArg (· + 1) (EF (j:=j) c (by simpa using hp) (by simpa using b))
theorem OP:∀{l:List Obj},DS l=true->∀(p:Nat) (r:List (List PV)) (b:Bool),l[p]? ≠ some (.yld r b)
 |[],_,p,r,b=>by simp
 |o::l,h,p,r,b=>by
  cases p with
  |zero=>intro a;simp only[AW9,AQ2]at a;subst a;simp[DS]at h
  |succ p=>simp only[Bd5];exact OP (by cases o<;>simp[DS]at h<;>exact h) p r b
end
end Go.AM
namespace Go.AM
def AG0 (C:Ctx)(R:B5)(rho:Nat->Value)(ids:List Nat)(b off:Nat):Prop:= C.X b off \/ ∃j o,j ∉ ids/\A1 R j=some o/\D6 (rho j) o b/\Hr o off
def Ctx.callee (C:Ctx)(R:B5)(w:World)(rho:Nat->Value)(ids:List Nat):Ctx where
 X:=AG0 C R rho ids
 w0:=w
 E0:=fun b=>∃j o,j∈ids/\A1 R j=some o/\D6 (rho j) o b
 Pi0:=Prv C.X (A1 R) rho
 rho0:=fun p=>rho (ids.getD p 0)
 Y:=fun _ _=>False
 yv:=C.yv
section
variable {P:Program}{C:Ctx}{st:St}{a:Act}{w:World}{rho:Nat->Value}
theorem CT {ids:List Nat}{p j:Nat}(h:ids[p]? = some j):ids.getD p 0=j:=by simp[AQ1,h]
theorem OQ {R:B5}{ids:List Nat}{objs:List Obj}(f:J6 ids R ids=some objs)(b off:Nat) :Prv (AG0 C R rho ids) (A1 (objRegs objs)) (fun p=>rho (ids.getD p 0)) b off↔Prv C.X (A1 R) rho b off:=by
 obtain⟨hl,hg⟩:=Al f;constructor
 .rintro ((g|⟨j,o,_,hj,hb,hp⟩)|⟨p,o',hp,hb,i⟩)
  .exact .inl g
  .exact .inr ⟨j,o,hj,hb,hp⟩
  rw[D3]at hp;have a:p<ids.length:=by rw[<- hl];exact (AR7.1 hp).1
  obtain⟨o,o2,h1,c,d⟩:=hg p _ (AQ5 a);rw[hp]at d;cases d;simp only[CT (AQ5 a),Aj c]at hb;exact .inr ⟨_,o,h1,hb,(IC c off).1 i⟩
 rintro (g|⟨j,o,hj,hb,hp⟩)
 .exact .inl (.inl g)
 by_cases hm:j∈ids
 .obtain⟨p,a,rfl⟩:=Ba0.1 hm;obtain⟨o1,o2,h1,c,d⟩:=hg p _ (AQ5 a);rw[hj]at h1;cases h1;refine .inr ⟨p,o2,by rw[D3];exact d,?_,(IC c off).2 hp⟩;simp only[CT (AQ5 a),Aj c];exact hb
 exact .inl (.inr ⟨j,o,hm,hj,hb,hp⟩)
theorem KF (h:Sat C st a w rho){ids:List Nat}{objs:List Obj}{as args:List AV}{vs:Array Value}(hd:G0 ids=true)(s:J6 ids st.regs ids=some objs)(hny:DS objs=true)(u:True)
 (hr:CS ids as=some args) (hvs:vs.size=as.length) (hv:∀i,i<as.length->RS C st w rho (vs.getD i undef) (as.getD i .top)) :
 Sat (C.callee st.regs w rho ids) ⟨argEnv args,objRegs objs⟩ ⟨vs,[]⟩ w (fun p=>rho (ids.getD p 0)):=by
 obtain⟨hl,hg⟩:=Al s;have x:=Ce hd;have hpi:=OQ (C:=C) (rho:=rho) s;have hk:Keeps w (Prv C.X (A1 st.regs) rho) w (Prv (AG0 C st.regs rho ids) (A1 (objRegs objs)) (fun p=>rho (ids.getD p 0))):=
  fun b o v hp hc=>⟨hc,fun hp'=>hp ((hpi b o).1 hp')⟩
 have c:∀p o',A1 (objRegs objs) p=some o' -> ∃j o,ids[p]? = some j/\A1 st.regs j=some o/\PU ids o=some o' /\ rho (ids.getD p 0)=rho j:=by
  intro p o' hp;rw[D3]at hp;have m:p<ids.length:=by rw[<- hl];exact (AR7.1 hp).1
  obtain⟨o,o2,h1,f,g⟩:=hg p _ (AQ5 m);rw[hp]at g;cases g;exact⟨_,o,AQ5 m,h1,f,by rw[CT (AQ5 m)]⟩
 have l:∀p j,ids[p]? = some j->Lv (A1 st.regs) j->Lv (A1 (objRegs objs)) p/\rho (ids.getD p 0)=rho j:=by intro p j hp _;obtain⟨o,o2,h1,f,g⟩:=hg p j hp;exact⟨by simp[Lv,D3,g],by rw[CT hp]⟩
 refine⟨⟨⟨?_,?_,?_,?_⟩,Ext.refl _,AQ8 _,fun b _ _=>rfl,hk,?_,?_⟩,?_,fun j _ _=>rfl,AX5,fun d hd=>by simp at hd⟩
 .intro p o' hp;obtain⟨j,o,h1,f,g,n⟩:=c p o' hp;show HoldsO w _ _ _ (rho (ids.getD p 0)) o';rw[n];exact (h.hp.holds j o f).ren hk l (fun b _=>rfl) g
 .intro p q op oq b hp hq y z;obtain⟨j,o,h1,f,g,n⟩:=c p op hp;obtain⟨j',o',h1',h2',h3',h4'⟩:=c q oq hq;simp only[n,h4',Aj g,Aj h3']at y z
  have:=h.hp.sep j j' o o' b f h2' y z
  subst this;exact EF x h1 h1'
 .intro p o' b off hp hb hX;obtain⟨j,o,h1,f,g,n⟩:=c p o' hp;simp only[n,Aj g]at hb;rcases hX with hX|⟨j',o2,hj',h5,h6,_⟩
  .exact h.hp.out j o b off f hb hX
  have:=h.hp.sep j j' o o2 b f h5 hb h6
  subst this;exact hj' (AT1 h1)
 .rintro b off (hX|⟨j,o,_,hj,hb,_⟩)
  .exact h.hp.bound b off hX
  exact (h.hp.holds j o hj).lt hb
 .rintro b ⟨p,o',hp,hb⟩;obtain⟨j,o,h1,f,g,n⟩:=c p o' hp;simp only[n,Aj g]at hb;exact .inl ⟨j,o,AT1 h1,f,hb⟩
 .intro p r b hp;rw[D3]at hp;exact Ln hp (OP hny p r b)
 intro t;show RepA w _ _ _ (vs.getD t undef) (get (argEnv args) t);rw[Ak];obtain⟨h1,f⟩:=Cw hr;by_cases ht:t<as.length
 .exact (hv t ht).ren hk l (f t ht)
 rw[AQ1,AU8 (by omega)];exact .top _
theorem VY (all:List Nat)(j:Nat):∀(ids:List Nat) (objs:List Obj) (regs:B5),ids.Nodup->ids.length=objs.length ->
 A1 (back all ids objs regs) j=match idx ids j with
  |some p=>(objs[p]?).map (unO all)
  |none=>A1 regs j
 |[],objs,regs,_,hl=>by
  cases objs with
  |nil=>rfl
  |cons=>simp at hl
 |i::ids,[],regs,_,hl=>by simp at hl
 |i::ids,o::objs,regs,hn,hl=>by
  obtain⟨h1,a⟩:=AW0.1 hn;simp only[back];rw[VY all j ids objs _ a (by simpa using hl)];simp only[idx];by_cases e:i=j
  .subst e
   have:idx ids i=none:=by
    cases hx:idx ids i with
    |none=>rfl
    |some p=>exact Ln (AT1 (L0 hx)) h1
   simp[this,A2]
  simp only[e,Lp];cases hx:idx ids j with
  |none=>simp[A2,e]
  |some p=>simp
theorem EG (j:Nat):∀(ids:List Nat) (ks:List Bool) (regs:B5),ids.Nodup ->
 A1 (M0 ids ks regs) j=match idx ids j with
  |some p=>if ks[p]? = some true then A1 regs j else some .dead
  |none=>A1 regs j
 |[],ks,regs,_=>by cases ks<;>rfl
 |i::ids,[],regs,hn=>by
  obtain⟨h1,b⟩:=AW0.1 hn;simp only[M0];rw[EG j ids [] _ b];simp only[idx];by_cases e:i=j
  .subst e
   have:idx ids i=none:=by
    cases hx:idx ids i with
    |none=>rfl
    |some p=>exact Ln (AT1 (L0 hx)) h1
   simp[this,A2]
  simp only[e,Lp];cases hx:idx ids j with
  |none=>simp[A2,e]
  |some p=>simp
 |i::ids,k::ks,regs,hn=>by
  obtain⟨h1,b⟩:=AW0.1 hn;simp only[M0];have a:idx ids i=none:=by
   cases hx:idx ids i with
   |none=>rfl
   |some p=>exact Ln (AT1 (L0 hx)) h1
  by_cases hk:k=true
  .rw[Ll hk,EG j ids ks _ b];simp only[idx];by_cases e:i=j
   .subst e;simp[a,hk]
   simp only[e,Lp];cases hx:idx ids j with
   |none=>rfl
   |some p=>simp
  rw[Lm hk,EG j ids ks _ b];simp only[idx];by_cases e:i=j
  .subst e;simp[a,hk,A2]
  simp only[e,Lp];cases hx:idx ids j with
  |none=>simp[A2,e]
  |some p=>simp[A2,e]
theorem Qg {ids:List Nat}{j:Nat}(h:j∈ids):∃p,idx ids j=some p:=by
 induction ids with
 |nil=>simp at h
 |cons i r ih=>
  simp only[idx];by_cases e:i=j
  .exact⟨0,by simp[e]⟩
  rcases AT9.1 h with h' | h'
  .exact Ln h'.symm e
  obtain⟨p,hp⟩:=ih h';exact⟨p+1,by simp[e,hp]⟩
theorem At1 {ids:List Nat}(hn:ids.Nodup){p j:Nat}(h:ids[p]? = some j):idx ids j=some p:=by obtain⟨q,a⟩:=Qg (AT1 h);rw[a,EF hn (L0 a) h]
theorem Mf {n p:Nat}(h:p<n):(List.range n)[p]? = some p:=by simp[h]
theorem JI {d:Nat}{ids:List Nat}{ks:List Bool}{n p j:Nat}(h:(G4 d ids ks n)[p]? = some j):p<n/\((ids[p]? = some j/\ks[p]? = some true) \/ (j=nid d p/\∀i,ids[p]? = some i->ks[p]? ≠ some true)):=by
 unfold G4 at h;rw[AQ9,AS2]at h;obtain⟨q,b,hj⟩:=h;have a:p<n:=by simpa using (AR7.1 b).1
 rw[Mf a]at b;cases b;refine⟨a,?_⟩;split at hj
 .rename_i j' h1 f;subst hj;exact .inl ⟨h1,f⟩
 rename_i c;subst hj;exact .inr ⟨rfl,fun i g hk=>c i g hk⟩
theorem XA {d:Nat}{ids:List Nat}{ks:List Bool}{n:Nat}:(G4 d ids ks n).length=n:=by simp[G4]
theorem HP {regs:B5}{ids:List Nat}{ks:List Bool}{d n p:Nat}(a:Y1 regs ids ks d n=true)(hp:p<n)(b:∀i,ids[p]? = some i->ks[p]? ≠ some true):A1 regs (nid d p)=none:=by
 unfold Y1 at a;rw[AR4]at a
 have:=a p (by simp[hp])
 split at this
 .rename_i i h1 c;exact Ln c (b i h1)
 simpa using this
theorem KH:∀{l:List Nat},(∀p q j:Nat,l[p]? = some j->l[q]? = some j->p=q)->l.Nodup
 |[],_=>AX5
 |a::l,h=>by
  refine AW0.2 ⟨fun hm=>?_,KH fun p q j hp b=>?_⟩
  .obtain⟨p,hp⟩:=AW7.1 hm
   have:=h 0 (p+1) a (by simp) (by simpa using hp)
   omega
  have:=h (p+1) (q+1) j (by simpa using hp) (by simpa using b)
  omega
theorem Sp {regs:B5}{ids:List Nat}{ks:List Bool}{d n:Nat}{objs:List Obj}(g:J6 ids regs ids=some objs)(m:ids.Nodup)(l:Y1 regs ids ks d n=true):(G4 d ids ks n).Nodup:=by
 refine KH fun p q j hp r=>?_;obtain⟨h1,a⟩:=JI hp;obtain⟨s,b⟩:=JI r;obtain⟨_,hg⟩:=Al g;rcases a with⟨a,t⟩ | ⟨c,a⟩<;>rcases b with⟨b,u⟩ | ⟨f,b⟩
 .exact EF m a b
 .obtain⟨o,_,i,_⟩:=hg p _ a
  have:=HP l s b
  rw[<- f,i]at this;cases this
 .obtain⟨o,_,i,_⟩:=hg q _ b
  have:=HP l h1 a
  rw[<- c,i]at this;cases this
 have:nid d p=nid d q:=c.symm.trans f
 unfold nid at this;omega
def VZ (new:List Nat)(rho rho' : Nat->Value)(j:Nat):Value:=match idx new j with
 |some p=>rho' p
 |none=>rho j
theorem XB (h:Sat C st a w rho){ids:List Nat}{objs objs' : List Obj}{ks:List Bool}{d:Nat}{w' : World}{rho' : Nat->Value}(hd:G0 ids=true)(hob:J6 ids st.regs ids=some objs)
 (hE:SatE (C.callee st.regs w rho ids) (objRegs objs') w' rho') (hks:∀i:Nat,ks[i]? = some true->i<objs'.length/\rho' i=rho (ids.getD i 0)) (hf:Y1 st.regs ids ks d objs'.length=true) :
 let new:=G4 d ids ks objs'.length
 let R':=back new new objs' (M0 ids ks st.regs)
 Sat C { st with regs:=R' } a w' (VZ new rho rho')/\Kp C st.regs R' w w' rho (VZ new rho rho') /\
  Keeps w' (Prv (AG0 C st.regs rho ids) (A1 (objRegs objs')) rho') w' (Prv C.X (A1 R') (VZ new rho rho')) /\
  ∀p,Lv (A1 (objRegs objs')) p->Lv (A1 R') (new.getD p 0)/\VZ new rho rho' (new.getD p 0)=rho' p:=by
 intro new R';have hdup:=Ce hd;obtain⟨hl,hg⟩:=Al hob;have hnd:new.Nodup:=Sp hob hdup hf;have hnl:new.length=objs'.length:=XA;have hR:∀j,A1 R' j=match idx new j with
  |some p=>(objs'[p]?).map (unO new)
  |none=>A1 (M0 ids ks st.regs) j:=fun j=>VY new j new objs' _ hnd hnl
 have hD:∀j,A1 (M0 ids ks st.regs) j=match idx ids j with
  |some p=>if ks[p]? = some true then A1 st.regs j else some .dead
  |none=>A1 st.regs j:=fun j=>EG j ids ks _ hdup
 have y:∀j p,idx new j=some p->p<objs'.length/\((ids[p]? = some j/\rho' p=rho j/\Lv (A1 st.regs) j) \/ (A1 st.regs j=none/\1000<=j)):=by
  intro j p hp;obtain⟨h1,c⟩:=JI (L0 hp);refine⟨h1,?_⟩;rcases c with⟨c,u⟩ | ⟨rfl,c⟩
  .obtain⟨o,_,ho,_⟩:=hg p j c;exact .inl ⟨c,by rw[(hks p u).2,CT c],by simp[Lv,ho]⟩
  exact .inr ⟨HP hf h1 c,Cc d p⟩
 have g:∀j,idx new j=none->j∈ids->A1 R' j=some .dead:=by
  intro j hj hm;rw[hR j,hj];obtain⟨p,hp⟩:=Qg hm;simp only[hD j,hp];by_cases hk:ks[p]? = some true
  .exfalso;have hlt:=(hks p hk).1
   have:new[p]? = some j:=by show (G4 d ids ks objs'.length)[p]? = some j;unfold G4;rw[AQ9,Mf hlt];simp[L0 hp,hk]
   rw[At1 hnd this]at hj;cases hj
  simp[hk]
 have f:∀j,idx new j=none->j ∉ ids->A1 R' j=A1 st.regs j:=by
  intro j hj hm;rw[hR j,hj]
  have:idx ids j=none:=by
   cases hx:idx ids j with
   |none=>rfl
   |some p=>exact Ln (AT1 (L0 hx)) hm
  simp only[hD j,this]
 have n:∀j p,idx new j=some p->∃o',objs'[p]? = some o' /\ A1 R' j=some (unO new o')/\VZ new rho rho' j=rho' p:=by intro j p hp;obtain⟨h1,_⟩:=y j p hp;refine⟨objs'[p],AQ5 h1,?_,by simp[VZ,hp]⟩;rw[hR j,hp];simp[AQ5 h1]
 have hrn:∀j,idx new j=none->VZ new rho rho' j=rho j:=fun j hj=>by simp[VZ,hj]
 have z:∀j,Lv (A1 st.regs) j->Lv (A1 R') j/\VZ new rho rho' j=rho j:=by
  intro j hj;cases hx:idx new j with
  |some p=>
   obtain⟨o',_,c,u⟩:=n j p hx;refine⟨by simp[Lv,c],?_⟩;rcases (y j p hx).2 with⟨_,x,_⟩ | ⟨x,_⟩
   .rw[u,x]
   simp[Lv,x]at hj
  |none=>
   refine⟨?_,hrn j hx⟩;by_cases hm:j∈ids
   .simp[Lv,g j hx hm]
   simpa[Lv,f j hx hm]using hj
 have hback:∀p,p<objs'.length->idx new (new.getD p 0)=some p:=by
  intro p hp
  have:new[p]? = some (new.getD p 0):=by rw[AQ1,AQ5 (by omega)];rfl
  exact At1 hnd this
 have hpi:∀b off,Prv C.X (A1 R') (VZ new rho rho') b off->Prv (AG0 C st.regs rho ids) (A1 (objRegs objs')) rho' b off:=by
  rintro b off (hX|⟨j,o,hj,hb,hp⟩)
  .exact .inl (.inl hX)
  cases hx:idx new j with
  |some p=>obtain⟨o',h1,c,u⟩:=n j p hx;rw[c]at hj;cases hj;rw[u,Qf]at hb;exact .inr ⟨p,o',by rw[D3];exact h1,hb,(Zt off).1 hp⟩
  |none=>
   by_cases hm:j∈ids
   .rw[g j hx hm]at hj;cases hj;simp[D6,K9]at hb
   rw[f j hx hm]at hj;rw[hrn j hx]at hb;exact .inl (.inr ⟨j,o,hm,hj,hb,hp⟩)
 have hk2:Keeps w' (Prv (AG0 C st.regs rho ids) (A1 (objRegs objs')) rho') w' (Prv C.X (A1 R') (VZ new rho rho')):=fun b o v hp hc=>⟨hc,fun t=>hp (hpi b o t)⟩;have hlb:∀p,Lv (A1 (objRegs objs')) p->Lv (A1 R') (new.getD p 0)/\VZ new rho rho' (new.getD p 0)=rho' p:=by
  intro p hp;have hlt:p<objs'.length:=by simp only[Lv,D3]at hp;exact (AR7.1 (Option.eq_some_of_isSome hp)).1
  obtain⟨o',_,c,u⟩:=n _ p (hback p hlt);exact⟨by rw[Lv,c];rfl,u⟩
 have hyld:∀(p:Nat) r b,objs'[p]? ≠ some (.yld r b):=by intro p r b hp;exact (hE.yld p r b (by rw[D3];exact hp)).1
 obtain⟨g1,g2⟩:=h.step (R':=R') (rho':=VZ new rho rho') (w':=w') (fun j=>j∈ids \/ ∃p,idx new j=some p)
  (fun j hj=>by
   have h1:j ∉ ids:=fun e=>hj (.inl e);have c:idx new j=none:=by
    cases hx:idx new j with
    |none=>rfl
    |some p=>exact Ln (.inr ⟨p,hx⟩) hj
   exact f j c h1)
  z hE.size
  (fun j hj hj'=>by
   cases hx:idx new j with
   |some p=>
    rcases (y j p hx).2 with⟨_,_,x⟩ | ⟨_,x⟩
    .exact Ln x hj
    exact x
   |none=>
    by_cases hm:j∈ids
    .obtain⟨p,hp⟩:=Qg hm;obtain⟨o,_,ho,_⟩:=hg p j (L0 hp);exact Ln (by simp[Lv,ho]) hj
    rw[Lv,f j hx hm]at hj';exact Ln hj' hj)
  (fun j r b l hj=>by
   cases hx:idx new j with
   |some p=>
    obtain⟨o',h1,c,u⟩:=n j p hx;rw[c]at hj
    have:o' = .yld r b:=by cases o'<;>simp[unO]at hj⊢;exact hj
    subst this;exact hyld p r b h1
   |none=>
    rcases l with hm|⟨p,hp⟩
    .rw[g j hx hm]at hj;cases hj
    rw[hx]at hp;cases hp)
  (fun b hb hno=>hE.same b hb (by rintro⟨j,o,hm,hj,m⟩;exact hno j o (.inl hm) hj m))
  (fun j o b l hj m=>by
   cases hx:idx new j with
   |some p=>
    obtain⟨o',h1,c,u⟩:=n j p hx;rw[c]at hj;cases hj;rw[u,Qf]at m;rcases hE.own b ⟨p,o',by rw[D3];exact h1,m⟩with⟨i,oi,hm,hi,s⟩ | hge
    .exact .inl ⟨i,oi,.inl hm,hi,s⟩
    exact .inr hge
   |none=>
    rcases l with hm|⟨p,hp⟩
    .rw[g j hx hm]at hj;cases hj;simp[D6,K9]at m
    rw[hx]at hp;cases hp)
  (fun i j oi oj b hDi l hi hj s hbj=>by
   have key:∀i oi,(i∈ids \/ ∃p,idx new i=some p)->A1 R' i=some oi->D6 (VZ new rho rho' i) oi b->∃p o',idx new i=some p/\A1 (objRegs objs') p=some o' /\ D6 (rho' p) o' b:=by
    intro i oi hDi hi s;cases hx:idx new i with
    |some p=>obtain⟨o',h1,c,u⟩:=n i p hx;rw[c]at hi;cases hi;rw[u,Qf]at s;exact⟨p,o',rfl,by rw[D3];exact h1,s⟩
    |none=>
     rcases hDi with hm|⟨p,hp⟩
     .rw[g i hx hm]at hi;cases hi;simp[D6,K9]at s
     rw[hx]at hp;cases hp
   obtain⟨p,o1,h1,c,u⟩:=key i oi hDi hi s;obtain⟨q,o2,x,h5,h6⟩:=key j oj l hj hbj
   have:=hE.hp.sep p q o1 o2 b c h5 u h6
   subst this;have e1:=L0 h1;have e2:=L0 x;rw[e1]at e2;cases e2;rfl)
  (fun i oi b off v hDi hi s hnp hc=>by
   obtain⟨h1,c⟩:=hE.keep b off v hnp hc;refine⟨h1,fun j o l hj m hp=>c ?_⟩;cases hx:idx new j with
   |some p=>obtain⟨o',x,h5,h6⟩:=n j p hx;rw[h5]at hj;cases hj;rw[h6,Qf]at m;exact .inr ⟨p,o',by rw[D3];exact x,m,(Zt off).1 hp⟩
   |none=>
    rcases l with hm|⟨p,t⟩
    .rw[g j hx hm]at hj;cases hj;simp[D6,K9]at m
    rw[hx]at t;cases t)
  (fun hk j o l hj=>by
   cases hx:idx new j with
   |some p=>obtain⟨o',x,h5,h6⟩:=n j p hx;rw[h5]at hj;cases hj;rw[h6];exact (hE.hp.holds p o' (by rw[D3];exact x)).un hk2 hlb (fun b _=>rfl)
   |none=>
    rcases l with hm|⟨p,t⟩
    .rw[g j hx hm]at hj;cases hj;trivial
    rw[hx]at t;cases t) hE.ext
 exact⟨g1,⟨g2,z⟩,hk2,hlb⟩
end
end Go.AM
