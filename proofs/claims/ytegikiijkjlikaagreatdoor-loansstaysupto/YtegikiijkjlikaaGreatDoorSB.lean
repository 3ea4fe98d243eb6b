/- Part 2. -/
import Derived.Test.YtegikiijkjlikaaGreatDoorSA
import Derived.Laws.BytesString
import Derived.Laws.StructEq
import Derived.ChangeKeysEq
import Derived.RangeFuncRecord
import Derived.Lib.TrailingZeros
set_option linter.defProp false
set_option linter.unusedSimpArgs false
set_option linter.unusedVariables false
set_option linter.unusedSectionVars false
namespace Go.AM
def Ar1:=@Bool.false_eq_true
def Ar8:=@Go.Result.andThen_ok
def Ar9:=@List.mem_append_right
def As1:=@Option.isSome_iff_exists
def As4:=@List.mem_of_getElem?
def As9:=@Option.some.inj
def At0:=@Bool.or_eq_true
def At1:=@List.mem_cons_of_mem
def At2:=@List.mem_append_left
def At3:=@Bool.not_eq_true'
def At6:=@List.mem_cons
def At7:=@Go.Sem.run_bind
def Au0:=@List.map_congr_left
def Au1:=@List.contains_eq_mem
def Av1:=@Go.Sem.run_pure
def Av3:=@Classical.byContradiction
def Aw0:=@List.nodup_cons
def Aw3:=@List.getElem?_cons_zero
def Aw4:=@Function.comp_def
def Aw7:=@List.drop_eq_nil_of_le
def Aw8:=@List.mem_range
def Aw9:=@Option.getD_none
def Ax3:=@List.mem_iff_getElem?
def Ax6:=@List.drop_eq_getElem_cons
def Ax9:=@Array.getElem?_modify
def Ay0:=@Array.getElem?_append
def Ay6:=@List.mem_iff_getElem
def Ay9:=@List.nodup_nil
def Az1:=@List.append_nil
def Az3:=@List.range'_succ
def Az4:=@List.map_map
def AA0:=@List.length_nil
def AA1:=@Int.emod_eq_of_lt
def AA2:=@Array.getElem?_setIfInBounds_ne
def AA8:=@List.take_succ_cons
def AA9:=@Option.bind_eq_some_iff
def AB1:=@List.drop_drop
def AB9:=@Array.getElem_modify
def AC4:=@List.all_cons
def AC5:=@Bool.not_true
def AC6:=@Bool.true_and
def AC7:=@List.getElem?_cons_succ
def AD0:=@List.getElem?_set_self
def AE0:=@List.getElem?_set_ne
def AE2:=@List.foldl_cons
def AE3:=@Array.getElem?_push
def AE4:=@List.getElem?_concat_length
def AE7:=@Array.toList_setIfInBounds
def AG6:=@Array.mem_of_getElem?
def AG8:=@Option.map_none
def AG9:=@List.length_set
def AH7:=@List.take_zero
def AI3:=@Array.foldl_toList
def AJ2:=@Int.toNat_le
def AJ3:=@Nat.add_comm
section
variable {P:Program}{C:Ctx}{st:St}{a:Act}{w:World}{rho:Nat->Value}{o:Oper}{out:Out}{d:Nat}
theorem NR (h:Sat C st a w rho){t:TypeId}{x ix:Operand}(ho:o.op=.indexAddr t x ix)(he:aop P st.env st.regs d o.op=some out)(hc:C7 out.cond):OpOk P C o st a w rho out:=by
 rw[ho]at he;simp only[aop]at he;split at he
 .rename_i i hi;split at he
  .rename_i c y hy;cases he;obtain⟨ik,r⟩:=Y5 (h.aev ix) hi;have hx:=h.aev x;unfold Cy at hy;split at hy
   .
    rename_i n e j oo hk l;split at hy
    .rename_i m hm;cases hy;rw[l]at hx;generalize g:a.eval x=v at hx;cases hx with
     |reg j off b hl hr=>refine OpOk.pure h (v:=.pointer (some ⟨b,oo+i.toNat*m,none⟩)) ?_ (.reg j _ b hl hr);have h1:(0<=i/\i<(n:Int)):=hc;simp[execOp,ho,Instr.indexAt,r,asIntOf,Y4 w (Jb hk),g,Instr.sureAddr,h1,Gc w hm,Aw6]
    cases hy
   .rename_i n e cs hk l;split at hy
    .rename_i m hm;cases hy;rw[l]at hx;have hx:=hx.toP;generalize g:a.eval x=v at hx;cases hx with
     |ptr b off cs c hcell hrep=>
      refine OpOk.pure h (v:=.pointer (some ⟨b,off+i.toNat*m,none⟩)) ?_ (.p _ _ (.ptr b _ _ (fun j=>c (i.toNat*m+j)) (fun j q=>?_) fun j q=>?_))
      .have h1:(0<=i/\i<(n:Int)):=hc;simp[execOp,ho,Instr.indexAt,r,asIntOf,Y4 w (Jb hk),g,Instr.sureAddr,h1,Gc w hm,Aw6]
      .simp only[As5]at q
       have:=hcell (i.toNat*m+j) (by omega)
       rwa [<- AC2]at this
      simp only[As5]at q
      have:=hrep (i.toNat*m+j) (by omega)
      simpa[Aq1,Aw5]using this
    cases hy
   .rename_i e nn k n f hk l;split at hy
    .rename_i hm;cases hy;rw[l]at hx;have hx:=hx.toP;have h1:(0<=i/\i<(n:Int)):=hc;generalize g:a.eval x=v at hx;cases hx with
     |slnil=>omega
     |sl _ b off cap _ _ _ c hn hlen hcell hrep sp hsp=>
      have u:i.toNat<n:=by omega
      obtain rfl:=hsp (by omega);refine OpOk.pure h (v:=.pointer (some ⟨b,off+i.toNat*k,none⟩)) ?_ (.p _ _ (.ptr b _ _ (fun j=>c i.toNat j) (fun j q=>?_) fun j q=>?_))
      .simp[execOp,ho,Instr.indexAt,r,asIntOf,Y4 w (I4 hk),g,h1,Gc w hm,Aw6]
      .rw[hlen _ u]at q;exact hcell _ _ u q
      rw[hlen _ u]at q;exact hrep _ _ u q
    cases hy
   .rename_i e j hk l;split at hy
    .rename_i e' k n f vw q;split at hy
     .rename_i hm;cases hy;rw[l]at hx;have h1:(0<=i/\i<(n:Int)):=hc;generalize g:a.eval x=v at hx;cases hx with
      |vec j base nn cap hl hr=>
       have z:=h.hp.holds j _ q;rw[hr]at z;rcases z with⟨_,rfl⟩ | ⟨b,cap',c,s,_⟩
       .omega
       cases s;refine OpOk.pure h (v:=.pointer (some ⟨b,i.toNat*k+0,none⟩)) ?_ (.elt j k _ _ b _ cap hl hr);simp[execOp,ho,Instr.indexAt,r,asIntOf,Y4 w (I4 hk),g,h1,Gc w hm,Aw6]
     cases hy
    .rename_i e' n jr x0 q;split at hy
     .rename_i hm;cases hy;rw[l]at hx;have h1:(0<=i/\i<(n:Int)):=hc;generalize g:a.eval x=v at hx;cases hx with
      |vec j base nn cap hl hr=>
       obtain⟨rv,_,_,z⟩:=h.hp.holds j _ q;rw[hr]at z;rcases z with⟨_,rfl⟩ | ⟨b,cap',c,s,_⟩
       .omega
       cases s;refine OpOk.pure h (v:=.pointer (some ⟨b,i.toNat*1+0,none⟩)) ?_ (.elt j 1 _ _ b _ cap hl hr);simp[execOp,ho,Instr.indexAt,r,asIntOf,Y4 w (I4 hk),g,h1,Gc w hm,Aw6]
     cases hy
    cases hy
   .rename_i e j m0 hk l;split at hy
    .rename_i e' k n f vw q;split at hy
     .rename_i hm;cases hy;rw[l]at hx;have h1:(0<=i/\i<(m0:Int)/\m0<=n):=hc;generalize g:a.eval x=v at hx;cases hx with
      |vecp j _ base nn cap hl hr hmn=>
       have z:=h.hp.holds j _ q;rw[hr]at z;rcases z with⟨_,rfl⟩ | ⟨b,cap',c,s,_⟩
       .omega
       cases s;refine OpOk.pure h (v:=.pointer (some ⟨b,i.toNat*k+0,none⟩)) ?_ (.elt j k _ _ b _ cap hl hr);simp[execOp,ho,Instr.indexAt,r,asIntOf,Y4 w (I4 hk),g,h1.1,h1.2.1,Gc w hm,Aw6]
     cases hy
    cases hy
   cases hy
  cases he
 cases he
theorem Xd (h:Sat C st a w rho){t:TypeId}{x ix:Operand}(j:o.op=.index t x ix)(b:aop P st.env st.regs d o.op=some out)(hc:C7 out.cond):OpOk P C o st a w rho out:=by
 rw[j]at b;simp only[aop]at b;split at b
 .rename_i i hi;split at b
  .rename_i c y hy;cases b;obtain⟨ik,g⟩:=Y5 (h.aev ix) hi;have hx:=h.aev x;unfold YQ at hy;split at hy
   .rename_i l hk f;cases hy;rw[f]at hx;have h1:(0<=i/\i<(l.length:Int)):=hc;refine OpOk.pure h (v:=.int .u8 ((l.getD i.toNat 0).toNat:Nat)) ?_ (.p _ _ (.v _));have q:i.toNat<l.length:=by omega
    simp[execOp,j,Instr.index,g,asIntOf,Y4 w (Fg hk),hx.toP.toStr,h1.1,bget,q,Aq1]
   .rename_i n e cs hk f;split at hy
    .rename_i m hm;split at hy
     .rename_i c' y' r;cases hy;rw[f]at hx;have hx:=hx.toP;obtain⟨s,z⟩:=(IW _ _).1 hc;generalize a0:a.eval x=v at hx;cases hx with
      |agg vs cs hs h1 hrep=>obtain⟨u,hu,hr⟩:=Lr (rho:=rho) (live:=Lv (A1 st.regs)) hs h1 hrep r s;exact OpOk.pure h (by simp[execOp,j,Instr.index,g,asIntOf,Y4 w (Jb hk),a0,z,Gc w hm,hu]) hr
     cases hy
    cases hy
   cases hy
  cases b
 cases b
theorem AE {x:Value}{k:IntKind}{i:Int}(hx:x=.int k i){y:Nat}(h:0<=i/\i<=y)(code:BoundsCode):(Instr.sliceBound x y code).run P w=.ok i.toNat w:=by subst hx;simp[Instr.sliceBound,asIntOf,h]
def Q4 (v:Option Value)(i:Option Int):Prop:=(v=none/\i=none) \/ ∃k n,v=some (.int k n)/\i=some n
theorem Bu {isS:Bool}{len cap:Nat}{lo a:Option Value}{l h:Option Int}(hl:Q4 lo l)(b:Q4 a h)(hc:0<=l.getD 0/\l.getD 0<=h.getD len/\h.getD len<=cap) :(Instr.sliceBounds isS len cap lo a none).run P w=.ok ((l.getD 0).toNat,(h.getD len).toNat,cap) w:=by
 have c:0<=h.getD len:=by omega
 rcases hl with⟨rfl,rfl⟩ | ⟨k,n,rfl,rfl⟩<;>rcases b with⟨rfl,rfl⟩ | ⟨k',n',rfl,rfl⟩<;>simp only[Aw9,Ar3]at hc c⊢
 .simp[Instr.sliceBounds]
 .simp[Instr.sliceBounds,AE (P:=P) (w:=w) (k:=k') (i:=n') rfl (show 0<=n' /\ n' <= (cap:Int) by omega)]
 .simp[Instr.sliceBounds,AE (P:=P) (w:=w) (k:=k) (i:=n) rfl (show 0<=n/\n<=(len:Int) by omega)]
 simp[Instr.sliceBounds,AE (P:=P) (w:=w) (k:=k') (i:=n') rfl (show 0<=n' /\ n' <= (cap:Int) by omega),AE (P:=P) (w:=w) (k:=k) (i:=n) rfl (show 0<=n/\n<=(n'.toNat:Int) by omega)]
theorem O8 {t e:TypeId}{k:Nat}(ht:tk P t=some (.slice e))(hm:tsz P e=some k){base:Option Addr}{len cap:Nat}{lo a:Option Value}{l h:Option Int}(hl:Q4 lo l)(b:Q4 a h)
 (hc:0<=l.getD 0/\l.getD 0<=h.getD len/\h.getD len<=cap) :
 (Instr.sliceAt t (.slice base len cap) lo a none).run P w=.ok (.slice (if cap=(l.getD 0).toNat then base else base.map (·.add ((l.getD 0).toNat*k))) ((h.getD len).toNat-(l.getD 0).toNat) (cap-(l.getD 0).toNat)) w:=by
 have hb:=Bu (P:=P) (w:=w) (isS:=true) hl b hc;simp[Instr.sliceAt,Y4 w (I4 ht),Instr.slice,hb,Gc w hm]
theorem Mr {t:TypeId}(ht:tk P t=some .str){s:List UInt8}{lo a:Option Value}{l h:Option Int}(hl:Q4 lo l)(b:Q4 a h)(hc:0<=l.getD 0/\l.getD 0<=h.getD s.length/\h.getD s.length<=s.length) :(Instr.sliceAt t (.string ⟨s.toArray⟩) lo a none).run P w=.ok (.string ⟨((s.take (h.getD s.length).toNat).drop (l.getD 0).toNat).toArray⟩) w:=by have hb:=Bu (P:=P) (w:=w) (isS:=false) hl b hc;simp[Instr.sliceAt,Y4 w (Fg ht),Instr.slice,Kx,hb,Xc]
theorem Gk {t e:TypeId}{n:Nat}(ht:tk P t=some (.arr n e))(hm:tsz P e=some 1){b o:Nat}{lo a:Option Value}{h:Option Int}(hl:Q4 lo none)(c:Q4 a h)
 (hc:0<=h.getD n/\h.getD n<=n):(Instr.sliceAt t (.pointer (some ⟨b,o,none⟩)) lo a none).run P w=.ok (.slice (some ⟨b,o,none⟩) (h.getD n).toNat n) w:=by
 have hb:=Bu (P:=P) (w:=w) (isS:=false) hl c (len:=n) (cap:=n) (by simpa using hc);simp[Instr.sliceAt,Y4 w (Jb ht),Instr.sureAddr,hb,Gc w hm,Addr.add]
theorem UK {Pi:Nat->Nat->Prop}{b off cap k n l h' : Nat}{sp:Option Nat}{nn:Bool}{f:Nat->List PV}(o:RepP w Pi (.slice (some ⟨b,off,sp⟩) n cap) (.sl nn k n f))(q:l<=h')(s:h' <= n) :RepP w Pi (.slice (if cap=l then some ⟨b,off,sp⟩else some ((⟨b,off,sp⟩:Addr).add (l*k))) (h' - l) (cap-l)) (.sl nn k (h' - l) (fun i=>f (l+i))):=by
 cases o with
 |sl _ _ _ _ _ _ _ c hn hlen hcell hrep _ hsp=>
  have e:∃off' sp',(if cap=l then some (⟨b,off,sp⟩:Addr)else some ((⟨b,off,sp⟩:Addr).add (l*k)))=some ⟨b,off',sp'⟩/\(h' - l≠0->off' = off+l*k/\sp' = none):=by
   split
   .exact⟨off,sp,rfl,fun h=>by omega⟩
   by_cases d:l*k=0
   .exact⟨off,sp,by simp[Addr.add,d],fun h=>⟨by omega,hsp (by omega)⟩⟩
   exact⟨off+l*k,none,by simp[Addr.add,d],fun _=>⟨rfl,rfl⟩⟩
  obtain⟨off',sp',r,g⟩:=e;rw[r];refine .sl nn b off' (cap-l) k (h' - l) _ (fun i j=>c (l+i) j) (by omega) (fun i m=>hlen _ (by omega)) (fun i j m a=>?_) (fun i j m a=>hrep _ _ (by omega) a) sp' (fun h=>(g (by omega)).2)
  have:=hcell (l+i) j (by omega) a
  rw[(g (by omega)).1,show off+l*k+i*k+j=off+(l+i)*k+j by rw[AD3];omega];exact this
theorem Hd {Pi:Nat->Nat->Prop}{base:Option Addr}{len cap k n l h' : Nat}{nn:Bool}{f:Nat->List PV}(d:RepP w Pi (.slice base len cap) (.sl nn k n f))(a:l<=h')(g:h' <= n) :RepP w Pi (.slice (if cap=l then base else base.map (·.add (l*k))) (h' - l) (cap-l)) (.sl nn k (h' - l) (fun i=>f (l+i))):=by
 cases d with
 |slnil=>
  obtain rfl:h' = 0:=by omega
  obtain rfl:l=0:=by omega
  simpa using RepP.slnil (w:=w) (Pi:=Pi) k _
 |sl _ b off cap _ _ _ c hn hlen hcell hrep sp hsp=>exact UK (.sl nn b off cap k _ f c hn hlen hcell hrep sp hsp) a g
theorem Y6 (h:Sat C st a w rho){x:Option Operand}{i:Option (Option Int)}(b:x.map (fun o=>asInt (aev st.env o))=i):(i=none->Q4 (x.map a.eval) none)/\∀n,i=some (some n)->Q4 (x.map a.eval) (some n):=by
 subst b;cases x with
 |none=>exact⟨fun _=>.inl ⟨rfl,rfl⟩,fun n h=>by simp at h⟩
 |some o=>refine⟨fun h=>by simp at h,fun n hn=>?_⟩;simp only[Ar5,Aq2]at hn;obtain⟨k,hk⟩:=Y5 (h.aev o) hn;exact .inr ⟨k,n,by simp[hk],rfl⟩
theorem NS (h:Sat C st a w rho){t:TypeId}{v:Value}{x:AV}(o:RS C st w rho v x){lo hi:Option Value}{l q:Option Int}(hl:Q4 lo l)(d:Q4 hi q){c:List Prop}{y:AV}{R' : B5}
 (g:Cz P st.regs t x l q=some (c,y,R')) (hc:C7 c):∃u,(Instr.sliceAt t v lo hi none).run P w=.ok u w/\Sat C { st with regs:=R' } a w rho/\Kp C st.regs R' w w rho rho/\RepA w (Prv C.X (A1 R') rho) (Lv (A1 R')) rho u y:=by
 unfold Cz at g;split at g
 .
  rename_i s hk;have o:=o.toP.toStr;subst o;have fin:∀(l' h' : Option Int),Q4 lo l' -> Q4 hi h' -> (0<=l'.getD 0/\l'.getD 0<=h'.getD s.length/\h'.getD s.length<=s.length)->y=.p (.str ((s.take (h'.getD s.length).toNat).drop (l'.getD 0).toNat))->R' = st.regs ->
   ∃u,(Instr.sliceAt t (.string ⟨s.toArray⟩) lo hi none).run P w=.ok u w/\Sat C { st with regs:=R' } a w rho/\Kp C st.regs R' w w rho rho/\RepA w (Prv C.X (A1 R') rho) (Lv (A1 R')) rho u y:=by
   rintro l' h' h1 h2 h3 rfl rfl;exact⟨_,Mr hk h1 h2 h3,h,Kp.refl _ _ _ _,.p _ _ (.str _)⟩
  split at g<;>cases g
  .exact fin _ _ hl d (by simp only[C7,Aw9]at hc⊢;omega) (by simp) rfl
  .exact fin _ _ hl d (by simp only[C7,Ar3,Aw9]at hc⊢;omega) (by simp) rfl
  .exact fin _ _ hl d (by simp only[C7,Ar3,Aw9]at hc⊢;omega) (by simp) rfl
  exact fin _ _ hl d (by simp only[C7,Ar3]at hc⊢;omega) (by simp) rfl
 .
  rename_i e nn k n f hk;split at g
  .rename_i hm;have o:=o.toP;obtain⟨base,len,cap,rfl,hlen,r⟩:∃base len cap,v=.slice base len cap/\len=n/\n<=cap:=by
    cases o with
    |slnil=>exact⟨_,_,_,rfl,rfl,Aq9 _⟩
    |sl _ b off cap _ _ _ c hn=>exact⟨_,_,_,rfl,rfl,hn⟩
   subst hlen;have fin:∀(l' h' : Option Int),Q4 lo l' -> Q4 hi h' -> (0<=l'.getD 0/\l'.getD 0<=h'.getD len/\h'.getD len<=len)->y=.p (.sl nn k ((h'.getD len).toNat-(l'.getD 0).toNat) (fun i=>f ((l'.getD 0).toNat+i)))->R' = st.regs ->
    ∃u,(Instr.sliceAt t (.slice base len cap) lo hi none).run P w=.ok u w/\Sat C { st with regs:=R' } a w rho/\Kp C st.regs R' w w rho rho/\RepA w (Prv C.X (A1 R') rho) (Lv (A1 R')) rho u y:=by
    rintro l' h' h1 h2 h3 rfl rfl;refine⟨_,O8 hk hm h1 h2 (by omega),h,Kp.refl _ _ _ _,.p _ _ ?_⟩;exact Hd o (by omega) (by omega)
   split at g<;>cases g
   .exact fin _ _ hl d (by simp only[C7,Aw9]at hc⊢;omega) (by simp) rfl
   .exact fin _ _ hl d (by simp only[C7,Ar3,Aw9]at hc⊢;omega) (by simp) rfl
   .exact fin _ _ hl d (by simp only[C7,Ar3,Aw9]at hc⊢;omega) (by simp) rfl
   exact fin _ _ hl d (by simp only[C7,Ar3]at hc⊢;omega) (by simp) rfl
  cases g
 .
  rename_i e hk;split at g
  .rename_i k hm;cases g;have h1:l.getD 0=0/\q.getD 0=0:=hc;have o:=o.toP.toV;subst o;have hz:q.getD ((0:Nat):Int)=0:=by simpa using h1.2
   refine⟨_,O8 hk hm hl d (len:=0) (cap:=0) (by omega),h,Kp.refl _ _ _ _,.p _ _ ?_⟩;rw[hz,h1.1];simpa using RepP.v (w:=w) (Pi:=PiS C st rho) (.slice none 0 0)
  cases g
 .
  rename_i m e cs hk;split at g
  .rename_i b;split at g
   .rename_i hm;obtain⟨hm,rfl⟩:=hm;cases g;have hc:0<=b/\b<=(cs.length:Int):=hc;cases o.toP with
    |ptr bb off _ c hcc q=>
     refine⟨_,Gk hk hm hl d hc,h,Kp.refl _ _ _ _,.p _ _ (.sl true bb off cs.length 1 b.toNat _ (fun i _=>c i) (by omega) (fun _ _=>rfl) (fun i j hi hj=>?_) (fun i j hi hj=>?_) none fun _=>rfl)⟩
     .obtain rfl:j=0:=by omega
      simpa using hcc i (by omega)
     obtain rfl:j=0:=by omega
     simpa using q i (by omega)
   cases g
  .split at g
   .rename_i hm;obtain⟨hm,rfl⟩:=hm;cases g;cases o.toP with
    |ptr bb off _ c hcc q=>
     refine⟨_,Gk hk hm hl d (by simp),h,Kp.refl _ _ _ _,.p _ _ (.sl true bb off cs.length 1 cs.length _ (fun i _=>c i) (Aq9 _) (fun _ _=>rfl) (fun i j hi hj=>?_) (fun i j hi hj=>?_) none fun _=>rfl)⟩
     .obtain rfl:j=0:=by omega
      simpa using hcc i (by omega)
     obtain rfl:j=0:=by omega
     simpa using q i (by omega)
   cases g
  cases g
 .
  rename_i e j hk;split at g
  .rename_i e' k n f vw hj;split at g
   .rename_i hm;obtain⟨hm,rfl⟩:=hm;cases o with
    |vec j base len cap hlv hr=>
    have r:len<=cap/\len=n:=by
     have q:=h.hp.holds j _ hj;rw[hr]at q;rcases q with⟨hn,rfl⟩ | ⟨b,cap',c,hb',_,hncap,_⟩
     .cases hn;exact⟨Aq9 _,rfl⟩
     cases hb';exact⟨hncap,rfl⟩
    obtain⟨r,rfl⟩:=r;obtain⟨hv1,hv2,hv3⟩:=h.viewed hj;have hsl:=hv1.sl (j:=j) (m:=len) (e:=e') (k:=k) (n:=len) (f:=f) (by simp[A3]) hr (Aq9 _);have z:(if cap=((none:Option Int).getD 0).toNat then base else base.map (·.add (((none:Option Int).getD 0).toNat*k)))=base:=by
     cases base with
     |none=>simp
     |some ad=>simp[Addr.add]
    split at g<;>cases g
    .refine⟨_,O8 hk hm hl d (len:=len) (cap:=cap) (by simp only[C7,Aw9]at hc⊢;omega),h,Kp.refl _ _ _ _,?_⟩;rw[z];simpa using RepA.vec (w:=w) (Pi:=PiS C st rho) j base len cap hlv hr
    .refine⟨_,O8 hk hm hl d (len:=len) (cap:=cap) (by simp only[C7,Ar3,Aw9]at hc⊢;omega),h,Kp.refl _ _ _ _,?_⟩;rw[z];simp only[C7]at hc
     have:=RepA.vecp (w:=w) (Pi:=PiS C st rho) j _ base len cap hlv hr (AJ2.2 hc.2)
     simpa using this
    .refine⟨_,O8 hk hm hl d (len:=len) (cap:=cap) (by simp only[C7,Ar3,Aw9]at hc⊢;omega),hv1,⟨hv2,hv3⟩,.p _ _ ?_⟩;simp only[C7]at hc
     have:=Hd hsl (l:=Int.toNat _) (h':=len) (AJ2.2 hc.2) (Aq9 _)
     simpa using this
    refine⟨_,O8 hk hm hl d (len:=len) (cap:=cap) (by simp only[C7,Ar3]at hc⊢;omega),hv1,⟨hv2,hv3⟩,.p _ _ ?_⟩;simp only[C7]at hc
    have:=Hd hsl (l:=Int.toNat _) (h':=Int.toNat _) (Int.toNat_le_toNat hc.2.1) (AJ2.2 hc.2.2)
    simpa using this
   cases g
  cases g
 cases g
theorem Xe (h:Sat C st a w rho){t:TypeId}{x:Operand}{lo j:Option Operand}(n:o.op=.slice t x lo j none)(b:aop P st.env st.regs d o.op=some out)(hc:C7 out.cond):OpOk P C o st a w rho out:=by
 rw[n]at b;simp only[aop]at b;have fin:∀(l g:Option Int),Q4 (lo.map a.eval) l->Q4 (j.map a.eval) g->∀c y R',Cz P st.regs t (aev st.env x) l g=some (c,y,R')->out=⟨c,y,R'⟩->OpOk P C o st a w rho out:=by rintro l g hl i c y R' hs rfl;obtain⟨u,q,h1,f,r⟩:=NS h (h.aev x) hl i hs hc;exact⟨_,u,w,rho,by simp[execOp,n,q],.inl rfl,h1,f,r⟩
 split at b
 .rename_i h1 f;split at b
  .rename_i hs;cases b;exact fin none none ((Y6 h h1).1 rfl) ((Y6 h f).1 rfl) _ _ _ hs rfl
  cases b
 .rename_i l h1 f;split at b
  .rename_i hs;cases b;exact fin (some l) none ((Y6 h h1).2 l rfl) ((Y6 h f).1 rfl) _ _ _ hs rfl
  cases b
 .rename_i l h1 f;split at b
  .rename_i hs;cases b;exact fin none (some l) ((Y6 h h1).1 rfl) ((Y6 h f).2 l rfl) _ _ _ hs rfl
  cases b
 .rename_i l m h1 f;split at b
  .rename_i hs;cases b;exact fin (some l) (some m) ((Y6 h h1).2 l rfl) ((Y6 h f).2 m rfl) _ _ _ hs rfl
  cases b
 cases b
end
end Go.AM
namespace Go.AM
section
variable {P:Program}{C:Ctx}{st:St}{a:Act}{w:World}{rho:Nat->Value}{o:Oper}{out:Out}{d:Nat}
theorem EK {Pi:Nat->Nat->Prop}{v:Value}{x:PV}{b:Bool}(h:RepP w Pi v x)(a:NE x=some b):v=.bool b:=by
 unfold NE at a;split at a<;>cases a
 .exact h.toBool
 exact h.toV
theorem He {Pi:Nat->Nat->Prop}{t:TypeId}{k:TK}(hk:tk P t=some k){v u:Value}{x y:PV}(d:RepP w Pi v x)(f:RepP w Pi u y){r:Bool}(c:PH k x y=some r)(D:Nat) :(Op.equalIn (D+1) t v u).run P w=.ok r w:=by
 unfold PH at c;split at c
 .rename_i k' k1 a k2 b;split at c
  .rename_i g;subst g;cases c;rw[d.toInt,f.toInt];exact run_equalIn_int w D t k1 k' a b (NM hk)
  cases c
 .split at c
  .rename_i a b ha hb;cases c;rw[EK d ha,EK f hb];exact run_equalIn_bool w D t a b (ZL hk)
  cases c
 .cases c;rw[d.toStr,f.toStr,run_equalIn_string w D t _ _ (Fg hk)];simp
 cases c
theorem NT {n:Nat}{t:TypeId}{k:TK}{ks:List TK}(hk:tk P t=some k)(h:lay P n t=some ks)(hs:∀fs,k ≠ .struct fs):ks=[k]/\Rp k=false:=by
 cases n with
 |zero=>simp[lay]at h
 |succ n=>obtain⟨dd,a,rfl⟩:=Z4 hk;simp only[lay,a]at h;cases dd<;>simp at h<;>first|exact⟨h.symm,rfl⟩ | exact Ng rfl (hs _)
theorem AJ:∀{k1 k2:List TK}{a b:List PV}{r:Bool},R5 (k1++k2) a b=some r->∃r1 r2,R5 k1 (a.take k1.length) (b.take k1.length)=some r1/\R5 k2 (a.drop k1.length) (b.drop k1.length)=some r2/\r=(r1&&r2)/\a.length=k1.length+k2.length/\b.length=k1.length+k2.length
 |[],k2,a,b,r,h=>by
  have hl:∀{k:List TK}{a b:List PV}{r:Bool},R5 k a b=some r->a.length=k.length/\b.length=k.length:=by
   intro k
   induction k with
   |nil=>intro a b r h;cases a<;>cases b<;>simp[R5]at h⊢
   |cons k ks ih=>
    intro a b r h;cases a with
    |nil=>simp[R5]at h
    |cons x a=>
     cases b with
     |nil=>simp[R5]at h
     |cons y b=>
      cases ks with
      |nil=>cases a<;>cases b<;>simp[R5]at h⊢
      |cons k' ks=>
       simp only[R5]at h;split at h
       .rename_i p q hp d
        have:=ih d
        simp only[As6]at this⊢;omega
       cases h
  have:=hl h
  exact⟨true,r,by simp[R5],by simpa using h,by simp,by simpa using this.1,by simpa using this.2⟩
 |k::k1,k2,a,b,r,h=>by
  cases a with
  |nil=>simp[R5]at h
  |cons x a=>
   cases b with
   |nil=>simp[R5]at h
   |cons y b=>
    cases c:k1++k2 with
    |nil=>
     obtain⟨rfl,rfl⟩:=List.append_eq_nil_iff.1 c;simp only[Az1]at h;cases a with
     |cons _ _=>cases b<;>simp[R5]at h
     |nil=>
      cases b with
      |cons _ _=>simp[R5]at h
      |nil=>exact⟨r,true,by simpa using h,by simp[R5],by simp,rfl,rfl⟩
    |cons k' ks'=>
     have h' : ∃p q,PH k x y=some p/\R5 (k1++k2) a b=some q/\r=(p&&q):=by
      rw[Au5,c]at h;simp only[R5]at h;split at h
      .rename_i p q hp d;cases h;exact⟨p,q,hp,by rw[c];exact d,rfl⟩
      cases h
     obtain⟨p,q,hp,d,rfl⟩:=h';obtain⟨r1,r2,h1,f,rfl,g,i⟩:=AJ (k1:=k1) d;refine⟨p&&r1,r2,?_,by simpa using f,by simp[Bool.and_assoc],by simp;omega,by simp;omega⟩;cases k1 with
     |nil=>simp only[R5,AA0,AH7,Aq2]at h1;subst h1;simp[R5,hp]
     |cons k'' k1=>simp only[As6,AA8];simp only[As6]at h1;simp[R5,hp,h1]
theorem Bj {l:List PV}{off:Nat}(d:PV)(h:off<l.length):(l.drop off).take 1=[l.getD off d]:=by rw[Ax6 h,AA8,AH7,Aq1,Aq4 h];rfl
structure RowP (w:World) (Pi:Nat->Nat->Prop) (vs:Array Value) (cs:List PV):Prop where
 size:vs.size=cs.length
 rep:∀i,i<cs.length->RepP w Pi (vs.getD i undef) (cs.getD i default)
theorem RowP.extract {Pi:Nat->Nat->Prop}{vs:Array Value}{cs:List PV}(h:RowP w Pi vs cs){off n:Nat}(hle:off+n<=cs.length):RowP w Pi (vs.extract off (off+n)) ((cs.drop off).take n):=by
 have hs:=h.size;refine⟨by simp;omega,fun i a=>?_⟩;simp only[Ay3,As5]at a
 have:=h.rep (off+i) (by omega)
 simpa[Aq0,AB4,show i<min (off+n) vs.size-off by omega,show off+i<vs.size by omega,show off+i<cs.length by omega,Aq1,Ay1,show i<n by omega,Aw5]using this
theorem ZR {Pi:Nat->Nat->Prop}:∀(n:Nat) (t:TypeId) (ks:List TK),lay P n t=some ks->Uq P n t=true->∀(vs us:Array Value) (as bs:List PV) (off D:Nat) (r:Bool),n<=D ->
 RowP w Pi vs as->RowP w Pi us bs->off+ks.length<=as.length->off+ks.length<=bs.length->R5 ks ((as.drop off).take ks.length) ((bs.drop off).take ks.length)=some r ->
 ∃x y,(part t vs off).run P w=.ok x w/\(part t us off).run P w=.ok y w/\(Op.equalIn D t x y).run P w=.ok r w:=by
 intro n
 induction n with
 |zero=>intro t ks h;simp[lay]at h
 |succ n ih=>
  intro t ks hl hh vs us as bs off D r hD hv j ha hb hc;obtain⟨D,rfl⟩:∃D',D=D' + 1:=⟨D-1,by omega⟩;cases hk:tk P t with
  |none=>
   have:P.underlying t=none:=by unfold tk at hk;cases j:P.underlying t<;>simp[j]at hk⊢
   simp[lay,this]at hl
  |some k=>
   by_cases hs:∀fs,k ≠ .struct fs
   .obtain⟨rfl,m⟩:=NT hk hl hs;simp only[Av7]at ha hb hc;have ea:(as.drop off).take 1=[as.getD off default]:=by exact Bj _ (by omega)
    have eb:(bs.drop off).take 1=[bs.getD off default]:=by exact Bj _ (by omega)
    rw[ea,eb]at hc;simp only[R5]at hc;have hvs:=hv.size;have hus:=j.size;refine⟨vs.getD off undef,us.getD off undef,?_,?_,He hk (hv.rep off (by omega)) (j.rep off (by omega)) hc D⟩
    .simp[part,G0 w hk,m,Aq0,show off<vs.size by omega]
    simp[part,G0 w hk,m,Aq0,show off<us.size by omega]
   obtain⟨fs,rfl⟩:∃fs,k=.struct fs:=Av3 fun hn=>hs fun fs e=>hn ⟨fs,e⟩;obtain⟨fa,b,_⟩:=CB hk;simp only[lay,b]at hl;simp only[Uq,b,Aq7,At3]at hh;split at hl
   .rename_i l hlf;split at hl
    .rename_i q;cases hl;refine⟨.agg (vs.extract off (off+ks.length)),.agg (us.extract off (off+ks.length)),?_,?_,?_⟩
     .simp[part,G0 w hk,Rp,Gc w q]
     .simp[part,G0 w hk,Rp,Gc w q]
     have s:P.fieldsOf t=fa:=by simp[Program.fieldsOf,b]
     rw[run_equalIn_struct w D t _ _ (by rw[s];exact b) hh.1,s];have c:=hv.extract ha;have d:=j.extract hb;generalize hvs' : vs.extract off (off+ks.length)=vs' at c;generalize hus' : us.extract off (off+ks.length)=us' at d;generalize u : (as.drop off).take ks.length=as' at c hc;generalize v : (bs.drop off).take ks.length=bs' at d hc;have hal:as'.length=0+ks.length:=by rw[<- u];simp;omega
     have hbl:bs'.length=0+ks.length:=by rw[<- v];simp;omega
     have hin:∀(fl:List Field) (o:Nat) (l:List TK) (r:Bool),ZA (lay P n) fl o=some l->(fl.all fun f=>decide (f.name ≠ "_")&&Uq P n f.type)=true->as'.length=o+l.length->bs'.length=o+l.length ->
      R5 l (as'.drop o) (bs'.drop o)=some r->(Op.eqFields D vs' us' fl).run P w=.ok r w:=by
      intro fl
      induction fl with
      |nil=>intro o l r h1 _ h2 h3 z;simp only[ZA,Aq2]at h1;subst h1;have e1:as'.drop o=[]:=Aw7 (by simp at h2;omega);have e2:bs'.drop o=[]:=Aw7 (by simp at h3;omega);rw[e1,e2]at z;simp only[R5,Aq2]at z;subst z;simp[Op.eqFields]
      |cons f fl ihf=>
       intro o l r h1 h2 h3 z h5;simp only[ZA]at h1;split at h1
       .cases h1
       rename_i a;have a:f.offset=o:=Av3 a;split at h1
       .rename_i ka hka;split at h1
        .rename_i kb hkb;cases h1;simp only[AC4,Aq7,decide_eq_true_eq]at h2;obtain⟨⟨g,hhv⟩,i⟩:=h2;obtain⟨r1,r2,hr1,hr2,rfl,_,_⟩:=AJ h5;simp only[Au6]at h3 z;obtain⟨x,y,hx,hy,he⟩:=ih f.type ka hka hhv vs' us' as' bs' o D r1 (by omega) c d (by omega) (by omega) hr1;have a0:=ihf (o+ka.length) kb r2 hkb (by simpa using i) (by omega) (by omega) (by simpa[AB1,AJ3]using hr2);simp only[Op.eqFields,Nd g,At7,a,hx,hy,he,Ar8];cases r1
         .simp
         simp[a0]
        cases h1
       cases h1
     exact hin fa.toList 0 ks r hlf hh.2 hal hbl (by simpa using hc)
    cases hl
   cases hl
theorem Hf {Pi:Nat->Nat->Prop}{t:TypeId}{v u:Value}{x y:PV}(f:RepP w Pi v x)(i:RepP w Pi u y){r:Bool}(b:PC P t x y=some r)(hc:C7 (Ud P t)) :(Op.equal t v u).run P w=.ok r w/\(∀xs ys,v=.agg xs->u=.agg ys->P.eqGuardType P.depth t=false):=by
 unfold PC at b;unfold Ud at hc;split at b
 .rename_i fs hk;simp only[hk,C7,YL,Aq7,At3]at hc;split at b
  .rename_i ks xs ys c;refine⟨?_,fun _ _ _ _=>hc.2⟩;cases f with
   |agg vs _ hs1 _ hr1=>
   cases i with
   |agg us _ hs2 _ hr2=>
   obtain⟨fa,g,_⟩:=CB hk;have hl:=c;simp only[lay,g]at hl;split at hl
   .rename_i l m;split at hl
    .rename_i d;cases hl;have a:xs.length=ks.length/\ys.length=ks.length:=by
      have:=AJ (k1:=ks) (k2:=[]) (by simpa using b)
      obtain⟨_,_,_,_,_,h1,j⟩:=this;exact⟨by simpa using h1,by simpa using j⟩
     obtain⟨x,y,hx,hy,n⟩:=ZR (P:=P) (w:=w) 10 t ks c hc.1 vs us xs ys 0 10000 r (by omega) ⟨hs1,hr1⟩ ⟨hs2,hr2⟩ (by omega) (by omega) (by simp[<- a.1];rw[a.1,<- a.2];simpa using b);have e1:(part t vs 0).run P w=.ok (.agg vs) w:=by
      have:vs.extract 0 ks.length=vs:=by rw[<- a.1,<- hs1];simp
      simp[part,G0 w hk,Rp,Gc w d,this]
     have e2:(part t us 0).run P w=.ok (.agg us) w:=by
      have:us.extract 0 ks.length=us:=by rw[<- a.2,<- hs2];simp
      simp[part,G0 w hk,Rp,Gc w d,this]
     rw[e1]at hx;rw[e2]at hy;cases hx;cases hy;exact n
    cases hl
   cases hl
  cases b
 .rename_i k o hk;refine⟨He hk f i b 9999,fun xs ys h1 j=>?_⟩;subst h1;exfalso;cases f<;>unfold PH at b<;>split at b<;>simp_all [NE]
 cases b
end
end Go.AM
namespace Go.AM
section
variable {P:Program}{C:Ctx}{st:St}{a:Act}{w:World}{rho:Nat->Value}{o:Oper}{out:Out}{d:Nat}
theorem Xf {op:BinOp}{t:TypeId}{k l:IntKind}{x y:Int}{c:List Prop}{r:PV}(hk:k=l \/ op=.shl \/ op=.shr)(a:NF op k x y=(c,r))(hc:C7 c)(Pi:Nat->Nat->Prop) :∃v,(binOp op t (.int k x) (.int l y)).run P w=.ok v w/\RepP w Pi v r:=by
 cases op<;>simp only[NF,Ar6]at a<;>obtain⟨rfl,rfl⟩:=a
 case shl=>
  have:¬y<0:=by simp only[C7]at hc;omega
  exact⟨_,by first|(simp[binOp,Op.shift,this];done)|(simp[binOp,Op.shift,this];rfl),.v _⟩
 case shr=>
  have:¬y<0:=by simp only[C7]at hc;omega
  exact⟨_,by first|(simp[binOp,Op.shift,this];done)|(simp[binOp,Op.shift,this];rfl),.v _⟩
 all_goals
  obtain rfl:k=l:=by rcases hk with h|h|h<;>first|exact h|cases h
 case quo=>simp only[C7]at hc;exact⟨_,by first|(simp[binOp,Op.intDiv,hc];done)|(simp[binOp,Op.intDiv,hc];rfl),.v _⟩
 case rem=>simp only[C7]at hc;exact⟨_,by first|(simp[binOp,Op.intDiv,hc];done)|(simp[binOp,Op.intDiv,hc];rfl),.v _⟩
 case add=>exact⟨_,by first|(simp[binOp,Op.intArith];done)|(simp[binOp,Op.intArith];rfl),.v _⟩
 case sub=>exact⟨_,by first|(simp[binOp,Op.intArith];done)|(simp[binOp,Op.intArith];rfl),.v _⟩
 case mul=>exact⟨_,by first|(simp[binOp,Op.intArith];done)|(simp[binOp,Op.intArith];rfl),.v _⟩
 case and=>exact⟨_,by first|(simp[binOp,Op.intBits];done)|(simp[binOp,Op.intBits];rfl),.v _⟩
 case or=>exact⟨_,by first|(simp[binOp,Op.intBits];done)|(simp[binOp,Op.intBits];rfl),.v _⟩
 case xor=>exact⟨_,by first|(simp[binOp,Op.intBits];done)|(simp[binOp,Op.intBits];rfl),.v _⟩
 case andNot=>exact⟨.int k (E9 .andNot k x y),by simp only[binOp,ne_eq,not_true_eq_false,Ni,Op.intBits,E9];rfl,.v _⟩
 case eql=>exact⟨_,by first|(simp[binOp,Op.intCmp];done)|(simp[binOp,Op.intCmp];rfl),.bb _⟩
 case neq=>exact⟨_,by first|(simp[binOp,Op.intCmp];done)|(simp[binOp,Op.intCmp];rfl),.bb _⟩
 case lss=>exact⟨_,by first|(simp[binOp,Op.intCmp];done)|(simp[binOp,Op.intCmp];rfl),.bb _⟩
 case leq=>exact⟨_,by first|(simp[binOp,Op.intCmp];done)|(simp[binOp,Op.intCmp];rfl),.bb _⟩
 case gtr=>exact⟨_,by first|(simp[binOp,Op.intCmp];done)|(simp[binOp,Op.intCmp];rfl),.bb _⟩
 case geq=>exact⟨_,by first|(simp[binOp,Op.intCmp];done)|(simp[binOp,Op.intCmp];rfl),.bb _⟩
theorem Bv {op:BinOp}{t:TypeId}{x y:Operand}{v u:Value}(h1:¬(v=.nilIface/\u=.nilIface))(b:∀xs ys,v=.agg xs->u=.agg ys->P.eqGuardType P.depth t=false) :(eqGuard op t x y v u).run P w=.ok () w:=by
 have key:∀op,op=.eql \/ op=.neq->(eqGuard op t x y v u).run P w=.ok () w:=by
  intro op a;rcases a with rfl|rfl<;>simp only[eqGuard,AC5,Ar1,Ni]<;>split
  .exact Ng ⟨rfl,rfl⟩ h1
  .simp[run_program,b _ _ rfl rfl]
  .rfl
  .exact Ng ⟨rfl,rfl⟩ h1
  .simp[run_program,b _ _ rfl rfl]
  rfl
 cases op<;>first|exact key _ (.inl rfl)|exact key _ (.inr rfl)|rfl
theorem Bk {t:TypeId}{v u:Value}{r:Bool}(h:(Op.equal t v u).run P w=.ok r w)(neg:Bool)(h1:∀k n,v ≠ .int k n)(a:∀s,v ≠ .string s)(b:∀k n,v ≠ .float k n)(c:∀k n m,v ≠ .complex k n m) :(binOp (if neg then .neq else .eql) t v u).run P w=.ok (.bool (r != neg)) w:=by
 cases neg
 .have:binOp .eql t v u=(do pure (.bool (<- Op.equal t v u)):Sem Value):=by cases v<;>first|rfl|exact Ng rfl (h1 _ _)|exact Ng rfl (a _)|exact Ng rfl (b _ _)|exact Ng rfl (c _ _ _)
  simp[this,h]
 have:binOp .neq t v u=(do pure (.bool (!(<- Op.equal t v u))):Sem Value):=by cases v<;>first|rfl|exact Ng rfl (h1 _ _)|exact Ng rfl (a _)|exact Ng rfl (b _ _)|exact Ng rfl (c _ _ _)
 simp[this,h]
theorem Lt {Pi:Nat->Nat->Prop}{t:TypeId}{v u:Value}{x y:PV}(d:RepP w Pi v x)(f:RepP w Pi u y){r:Bool}(c:PC P t x y=some r) :(∃k a b,v=.int k a/\u=.int k b/\r=(a==b)) \/ (∃a b,v=.bool a/\u=.bool b) \/ (∃a b:List UInt8,v=.string ⟨a.toArray⟩/\u=.string ⟨b.toArray⟩/\r=(a==b)) \/ (∃a b,v=.agg a/\u=.agg b):=by
 unfold PC at c;split at c
 .split at c
  .cases d;cases f;exact .inr (.inr (.inr ⟨_,_,rfl,rfl⟩))
  cases c
 .unfold PH at c;split at c
  .split at c
   .rename_i hk;subst hk;cases c;exact .inl ⟨_,_,_,d.toInt,f.toInt,rfl⟩
   cases c
  .split at c
   .rename_i ha hb;cases c;exact .inr (.inl ⟨_,_,EK d ha,EK f hb⟩)
   cases c
  .cases c;exact .inr (.inr (.inl ⟨_,_,d.toStr,f.toStr,rfl⟩))
  cases c
 cases c
theorem Gl {Pi:Nat->Nat->Prop}{e:TypeId}{k:TK}(hk:tk P e=some k)(hb:YM k=true){vs us:Array Value}{as bs:List PV}(f:RowP w Pi vs as)(g:RowP w Pi us bs)(D:Nat) :∀(m j:Nat) (r:Bool),as.length=j+m->bs.length=j+m->R5 (List.replicate m k) (as.drop j) (bs.drop j)=some r->(Op.eqItems (D+1) e 1 vs us (List.range' j m)).run P w=.ok r w
 |0,j,r,ha,hbl,h=>by rw[Aw7 (by omega),Aw7 (by omega)]at h;simp only[List.replicate,R5,Aq2]at h;subst h;simp[Op.eqItems]
 |m+1,j,r,ha,hbl,h=>by
  have b:Rp k=false:=by cases k<;>first|rfl|cases hb
  rw[List.replicate_succ]at h;obtain⟨r1,r2,a,c,rfl,_,_⟩:=AJ (k1:=[k]) (k2:=List.replicate m k) h;simp only[Av7]at a c;rw[Bj default (by omega),Bj default (by omega)]at a;simp only[R5]at a;have i:=f.size;have l:=g.size;have hx:(part e vs (j*1)).run P w=.ok (vs.getD j undef) w:=by simp[part,G0 w hk,b,Aq0,show j<vs.size by omega]
  have hy:(part e us (j*1)).run P w=.ok (us.getD j undef) w:=by simp[part,G0 w hk,b,Aq0,show j<us.size by omega]
  have n:=He hk (f.rep j (by omega)) (g.rep j (by omega)) a D;have d:=Gl hk hb f g D m (j+1) r2 (by omega) (by omega) (by simpa[AB1,AJ3]using c);simp only[Az3,Op.eqItems,At7,hx,hy,n,Ar8];cases r1
  .simp
  simp[d]
theorem NU {Pi:Nat->Nat->Prop}{t:TypeId}{v u:Value}{x y:PV}(g:RepP w Pi v x)(j:RepP w Pi u y){r:Bool}(a:Ur P t x y=some r) :(Op.equal t v u).run P w=.ok r w/\∃xs ys,v=.agg xs/\u=.agg ys:=by
 unfold Ur at a;split at a
 .rename_i n e ht;split at a
  .rename_i k xs ys hk;split at a
   .rename_i hc;have b:=Jb ht;cases g with
    |agg vs _ hs1 _ hr1=>
    cases j with
    |agg us _ hs2 _ hr2=>
    refine⟨?_,_,_,rfl,rfl⟩;obtain⟨i,f,c⟩:=As8.1 (show (P.info? e).map (·.size)=some 1 from hc.2);have d:P.cellsOf e=1:=by simp[Program.cellsOf,f,c]
    have hl:xs.length=n/\ys.length=n:=by
     have:=AJ (k1:=List.replicate n k) (k2:=[]) (by simpa using a)
     obtain⟨_,_,_,_,_,h1,l⟩:=this;exact⟨by simpa using h1,by simpa using l⟩
    show (Op.equalIn (9999+1) t (.agg vs) (.agg us)).run P w=_;rw[run_equalIn_array w 9999 vs us b f,d,List.range_eq_range'];exact Gl hk hc.1 ⟨hs1,hr1⟩ ⟨hs2,hr2⟩ 9998 n 0 r (by omega) (by omega) (by simpa using a)
   cases a
  cases a
 cases a
theorem ZS {t e:TypeId}(hk:P.underlying t=some (.pointer e))(d:Nat)(p q:Option Addr)(h:p=none \/ q=none):(Op.equalIn (d+1) t (.pointer p) (.pointer q)).run P w=.ok (p.isNone&&q.isNone) w:=by
 rcases h with rfl|rfl
 .simp[Op.equalIn,Y4 w hk]
 cases p<;>simp[Op.equalIn,Y4 w hk]
theorem UL {t e:TypeId}(hk:P.underlying t=some (.slice e))(d:Nat)(p q:Option Addr)(n m k l:Nat)(h:p=none \/ q=none):(Op.equalIn (d+1) t (.slice p n m) (.slice q k l)).run P w=.ok (p.isNone&&q.isNone) w:=by
 rcases h with rfl|rfl
 .simp[Op.equalIn,Y4 w hk]
 cases p<;>simp[Op.equalIn,Y4 w hk]
theorem ZT {t e f:TypeId}(hk:P.underlying t=some (.map e f))(d:Nat)(p q:Option Nat)(h:p=none \/ q=none):(Op.equalIn (d+1) t (.map p) (.map q)).run P w=.ok (p.isNone&&q.isNone) w:=by
 rcases h with rfl|rfl
 .simp[Op.equalIn,Y4 w hk]
 cases p<;>simp[Op.equalIn,Y4 w hk]
theorem Rt {t:TypeId}{a b:Array TypeId}{c:Bool}(hk:P.underlying t=some (.func a b c))(d:Nat):(Op.equalIn (d+1) t .nilFunc .nilFunc).run P w=.ok true w/\∀f x y,(Op.equalIn (d+1) t (.func f x y) .nilFunc).run P w=.ok false w:=
 ⟨by simp[Op.equalIn,Y4 w hk],fun f x y=>by simp[Op.equalIn,Y4 w hk]⟩
theorem UM {t:TypeId}{ms:Array (String×TypeId)}(hk:P.underlying t=some (.interface ms))(d:Nat)(u:TypeId)(x:Value):(Op.equalIn (d+1) t (.iface u x) .nilIface).run P w=.ok false w:=by simp[Op.equalIn,Y4 w hk]
def Odd (v:Value):Prop:=(∀xs,v ≠ .agg xs)/\(∀k n,v ≠ .int k n)/\(∀s,v ≠ .string s)/\(∀k n,v ≠ .float k n)/\(∀k n m,v ≠ .complex k n m)
theorem PT {Pi:Nat->Nat->Prop}{live:Nat->Prop}{t:TypeId}{v u:Value}{x y:AV}(d:RepA w Pi live rho v x)(g:RepA w Pi live rho u y){b:Bool}(i:ZB P t x y=some b) :(Op.equal t v u).run P w=.ok b w/\¬(v=.nilIface/\u=.nilIface)/\Odd v:=by
 show (Op.equalIn (9999+1) t v u).run P w=.ok b w/\_;generalize 9999=D;unfold ZB at i;split at i
 .rename_i e hk;have fin:∀p q:Option Addr,v=.pointer p->u=.pointer q->(p=none \/ q=none)->b=(p.isNone&&q.isNone)->(Op.equalIn (D+1) t v u).run P w=.ok b w/\¬(v=.nilIface/\u=.nilIface)/\Odd v:=by rintro p q rfl rfl h rfl;exact⟨ZS hk D p q h,by simp,by simp[Odd]⟩
  split at i<;>cases i
  .exact fin _ _ d.toP.toV g.toP.toV (.inl rfl) rfl
  .have:=g.toP;generalize u=u at this fin;cases this;exact fin _ _ d.toP.toV rfl (.inl rfl) rfl
  .generalize u=u at g fin;cases g;exact fin _ _ d.toP.toV rfl (.inl rfl) rfl
  .generalize u=u at g fin;cases g;exact fin _ _ d.toP.toV rfl (.inl rfl) rfl
  .have:=d.toP;generalize v=v at this fin;cases this;exact fin _ _ rfl g.toP.toV (.inr rfl) rfl
  .generalize v=v at d fin;cases d;exact fin _ _ rfl g.toP.toV (.inr rfl) rfl
  generalize v=v at d fin;cases d;exact fin _ _ rfl g.toP.toV (.inr rfl) rfl
 .rename_i e hk;have fin:∀(p q:Option Addr) (n m k l:Nat),v=.slice p n m->u=.slice q k l->(p=none \/ q=none)->b=(p.isNone&&q.isNone)->(Op.equalIn (D+1) t v u).run P w=.ok b w/\¬(v=.nilIface/\u=.nilIface)/\Odd v:=by rintro p q n m k l rfl rfl h rfl;exact⟨UL hk D p q n m k l h,by simp,by simp[Odd]⟩
  split at i<;>cases i
  .exact fin _ _ _ _ _ _ d.toP.toV g.toP.toV (.inl rfl) rfl
  have:=d.toP;generalize v=v at this fin;cases this;exact fin _ _ _ _ _ _ rfl g.toP.toV (.inr rfl) rfl
 .rename_i e f hk;have fin:∀(p q:Option Nat),v=.map p->u=.map q->(p=none \/ q=none)->b=(p.isNone&&q.isNone)->(Op.equalIn (D+1) t v u).run P w=.ok b w/\¬(v=.nilIface/\u=.nilIface)/\Odd v:=by rintro p q rfl rfl h rfl;exact⟨ZT hk D p q h,by simp,by simp[Odd]⟩
  split at i<;>cases i
  .exact fin _ _ d.toP.toV g.toP.toV (.inl rfl) rfl
  generalize v=v at d fin;cases d;exact fin _ _ rfl g.toP.toV (.inr rfl) rfl
 .rename_i a c e hk;split at i<;>cases i
  .rw[d.toP.toV,g.toP.toV];exact⟨(Rt hk D).1,by simp,by simp[Odd]⟩
  rw[g.toP.toV];cases d;exact⟨(Rt hk D).2 _ _ _,by simp,by simp[Odd]⟩
 .rename_i ms hk;split at i<;>cases i
  rw[g.toP.toV];have:=d.toP;cases this;exact⟨UM hk D _ _,by simp,by simp[Odd]⟩
 cases i
theorem Xg (h:Sat C st a w rho){op:BinOp}{t yt:TypeId}{x y:Operand}(ho:o.op=.binOp op t x y yt)(he:aop P st.env st.regs d o.op=some out)(hc:C7 out.cond):OpOk P C o st a w rho out:=by
 rw[ho]at he;simp only[aop]at he;split at he
 .rename_i c r hb;cases he;have hx:=h.aev x;have hy:=h.aev y;have fin:∀v,(eqGuard op t x y (a.eval x) (a.eval y)).run P w=.ok () w->(binOp op t (a.eval x) (a.eval y)).run P w=.ok v w->RepP w (PiS C st rho) v r->OpOk P C o st a w rho ⟨c,.p r,st.regs⟩:=by intro v h1 h2 f;exact OpOk.pure h (by simp[execOp,ho,h1,h2]) (.p _ _ f)
  unfold bin at hb;split at hb
  .rename_i k n l m j s;rw[j]at hx;rw[s]at hy;have u:=hx.toP.toInt;have a0:=hy.toP.toInt;have hg:(eqGuard op t x y (a.eval x) (a.eval y)).run P w=.ok () w:=Bv (by rw[u];simp) (by rw[u];simp);have key:NF op k n m=(c,r)/\(k=l \/ op=.shl \/ op=.shr):=by
    split at hb
    .cases hb;exact⟨rfl,.inr (.inl rfl)⟩
    .cases hb;exact⟨rfl,.inr (.inr rfl)⟩
    split at hb
    .rename_i hkl;exact⟨As9 hb,.inl hkl⟩
    cases hb
   obtain⟨v,hv,hr⟩:=Xf (P:=P) (w:=w) (t:=t) key.2 key.1 hc (PiS C st rho);exact fin v hg (by rw[u,a0];exact hv) hr
  have eq:∀neg:Bool,op=(if neg then .neq else .eql)->eqA P t (aev st.env x) (aev st.env y) neg=some (c,r)->OpOk P C o st a w rho ⟨c,.p r,st.regs⟩:=by
   intro neg a1 i;unfold eqA at i;split at i
   .rename_i r' g;cases i;split at g
    .rename_i p q j s;rw[j]at hx;rw[s]at hy;have a2:=hx.toP;have a3:=hy.toP;obtain⟨h1,h2⟩:=Hf a2 a3 g hc;have hg:(eqGuard op t x y (a.eval x) (a.eval y)).run P w=.ok () w:=by refine Bv ?_ h2;rintro⟨e1,e2⟩;rcases Lt a2 a3 g with⟨_,_,_,f,_⟩ | ⟨_,_,f,_⟩ | ⟨_,_,f,_⟩ | ⟨_,_,f,_⟩<;>rw[e1]at f<;>cases f
     refine fin (.bool (r' != neg)) hg ?_ (.bb _);subst a1;rcases Lt a2 a3 g with⟨k,n,m,f,z,rfl⟩ | ⟨n,m,f,z⟩ | ⟨n,m,f,z,rfl⟩ | ⟨n,m,f,z⟩
     .rw[f,z];cases neg<;>simp[binOp,Op.intCmp,bne]
     .exact Bk h1 neg (by rw[f];simp) (by rw[f];simp) (by rw[f];simp) (by rw[f];simp)
     .rw[f,z];cases neg<;>simp[binOp,Op.stringOp]
     exact Bk h1 neg (by rw[f];simp) (by rw[f];simp) (by rw[f];simp) (by rw[f];simp)
    cases g
   split at i
   .rename_i r' g;cases i;split at g
    .rename_i p q j s;rw[j]at hx;rw[s]at hy;obtain⟨h1,xs,ys,f,z⟩:=NU hx.toP hy.toP g;have hg:(eqGuard op t x y (a.eval x) (a.eval y)).run P w=.ok () w:=
      Bv (by rw[f];simp) fun _ _ _ _=>by simpa[C7]using hc
     refine fin (.bool (r' != neg)) hg ?_ (.bb _);subst a1;exact Bk h1 neg (by rw[f];simp) (by rw[f];simp) (by rw[f];simp) (by rw[f];simp)
    cases g
   split at i
   .rename_i b hnil;cases i;obtain⟨h1,h2,f,z,h5,h6,h7⟩:=PT hx hy hnil;refine fin (.bool (b != neg)) (Bv h2 fun xs _ e _=>Ng e (f xs)) ?_ (.v _);subst a1;exact Bk h1 neg z h5 h6 h7
   cases i
  split at hb
  .split at hb
   .rename_i l m j s;cases hb;rw[j]at hx;rw[s]at hy;have u:=hx.toP.toStr;have a0:=hy.toP.toStr;refine fin (.string ⟨(l++m).toArray⟩) (Bv (by rw[u];simp) (by rw[u];simp)) ?_ (.str _)
    have:¬(9223372036854775807<((l.length:Int)+(m.length:Int))):=by simp only[C7]at hc;omega
    have hmx:IntKind.i64.max=9223372036854775807:=rfl;rw[u,a0];simp[binOp,Op.stringOp,Kx,ZQ,hmx,this]
   cases hb
  .exact eq false rfl hb
  .exact eq true rfl hb
  cases hb
 cases he
end
end Go.AM
namespace Go.AM
section
variable {P:Program}{C:Ctx}{st:St}{a:Act}{w:World}{rho:Nat->Value}{o:Oper}{out:Out}{d:Nat}
theorem Sat.grow (h:Sat C st a w rho){w' : World}(l:w.heap.size<=w'.heap.size)(c:∀b,b<w.heap.size->w'.heap[b]? = w.heap[b]?)(d:Ext w w':=by exact⟨rfl,rfl⟩):Sat C st a w' rho/\Kp C st.regs st.regs w w' rho rho:=by
 obtain⟨h1,m⟩:=h.step (R':=st.regs) (rho':=rho) (w':=w') (fun _=>False) (fun _ _=>rfl) (fun j f=>⟨f,rfl⟩) l (fun j h1 m=>Ng m h1) (fun j _ _ h=>h.elim) (fun b hb _=>c b hb)
  (fun j o b f=>f.elim) (fun i j oi oj b g=>g.elim) (fun i oi b off v g=>g.elim) (fun _ j o f=>f.elim) d
 exact⟨h1,m,fun i g=>⟨g,rfl⟩⟩
theorem Hg (e:TypeId)(l:List UInt8):∃w' cap c,(Conv.stringToBytes e ⟨l.toArray⟩).run P w=.ok (.slice (some ⟨w.heap.size,0,none⟩) l.length cap) w' /\ Ext w w' /\ l.length<=cap/\w.heap.size<=w'.heap.size/\(∀b,b<w.heap.size->w'.heap[b]? = w.heap[b]?) /\
 ∀i,i<l.length->w'.cell? ⟨w.heap.size,i,none⟩=some (.int .u8 ((l.getD i 0).toNat:Nat))/\c=():=by
 have d:l.length<=grownCap w l.length 0 e:=grownCap_ge w _ _ e;refine⟨(w.drew.alloc (.cells ((l.toArray.map fun b=>Value.int .u8 (b.toNat:Nat))++Array.replicate (grownCap w l.length 0 e-l.length) (.int .u8 0)) e)).freeze ⟨w.heap.size,l.length+(grownCap w l.length 0 e-l.length),none⟩ 1,grownCap w l.length 0 e,(),?_,⟨rfl,rfl⟩,d,?_,?_,?_⟩
 .have f:∀arr:Array Value,(w.drew.alloc (.cells arr e)).shape? w.heap.size=some (e,arr.size):=by
   intro arr
   have:=heap_alloc_new w.drew (.cells arr e)
   simp only[World.size_drew]at this;unfold World.shape?;rw[this]
  simp[Conv.stringToBytes,Kx,Question.forced,newRow,markStringish,f,grownCap]
 .simp[World.freeze]
 .intro b hb;have h1:b≠w.heap.size:=by omega
  simp only[World.freeze,Nat.one_ne_zero,Ni,Ax9,Nf (Aw2 h1)];exact heap_alloc_old w.drew _ b hb
 intro i g;refine⟨?_,rfl⟩;have a:=heap_alloc_new w.drew (.cells ((l.toArray.map fun b=>Value.int .u8 (b.toNat:Nat))++Array.replicate (grownCap w l.length 0 e-l.length) (.int .u8 0)) e);simp only[World.size_drew]at a;simp only[World.cell?,World.freeze,Nat.one_ne_zero,Ni,Ax9,Nh,a,Ar5];simp[Ay0,g,Aq1]
theorem PU {Pi:Nat->Nat->Prop}{f:List PV}{v:Value}(a:(Fe f).isSome=true)(hl:f.length=1)(b:RepP w Pi v (f.getD 0 default)):∃n,v=.int .u8 n/\Fe f=some (UInt8.ofNat n.toNat):=by
 unfold Fe at a⊢;split at a
 .rename_i n;exact⟨n,b.toInt,rfl⟩
 cases a
theorem SQ (ns:List Int):∀s:ByteArray,ns.foldl (fun r n=>r.push (UInt8.ofNat n.toNat)) s=⟨s.data++(ns.map fun n=>UInt8.ofNat n.toNat).toArray⟩:=by
 induction ns with
 |nil=>intro s;simp
 |cons n ns ih=>intro s;rw[AE2,ih];apply AF7;show (s.data.push _)++_=s.data++_;apply Array.ext';simp
theorem Gm {v:Value}{n:Nat}{news:List Value}(hs:(Builtin.firstCells 1 n v).run P w=.ok news.toArray w)(hl:(Builtin.lenOf v).run P w=.ok n w)(a:∃b k c,v=.slice b k c){ns:List Int}(hn:news=ns.map (Value.int .u8))(d:∀k c,v=.slice none k c->news=[]) :(Conv.bytesToString v).run P w=.ok (.string (ns.foldl (fun r n=>r.push (UInt8.ofNat n.toNat)) ByteArray.empty)) w:=by
 obtain⟨b,k,c,rfl⟩:=a;simp only[Builtin.lenOf,Av1,Result.ok.injEq,and_true]at hl;subst hl;cases b with
 |none=>
  have:=d k c rfl
  subst this
  have:ns=[]:=by cases ns<;>simp at hn⊢
  subst this;simp[Conv.bytesToString,ByteArray.empty,ByteArray.emptyWithCapacity]
 |some ad=>simp only[Builtin.firstCells,Av4]at hs;rw[hn]at hs;exact run_bytesToString w ad k c ns hs
theorem SR (h:Sat C st a w rho){s t:TypeId}{x:Operand}(ho:o.op=.convert s t x)(u:aop P st.env st.regs d o.op=some out)(hc:C7 out.cond):OpOk P C o st a w rho out:=by
 rw[ho]at u;simp only[aop]at u;have hx:=h.aev x;split at u
 .rename_i k0 k hs ht;split at u
  .rename_i k1 n a1;cases u;rw[a1]at hx;refine OpOk.pure h (v:=.int k (k.wrap n)) ?_ (.p _ _ (.v _));simp[execOp,ho,convert,Y4 w (NM hs),Y4 w (NM ht),hx.toP.toInt,Conv.intToInt]
  cases u
 .rename_i hs ht;split at u
  .rename_i l a1;cases u;rw[a1]at hx;refine OpOk.pure h (v:=.string ⟨l.toArray⟩) ?_ (.p _ _ (.str _));simp[execOp,ho,convert,Y4 w (Fg hs),Y4 w (Fg ht),hx.toP.toStr]
  cases u
 .rename_i e hs ht;split at u
  .rename_i l a1 a4;cases u;rw[a1]at hx;obtain⟨w',cap,c,hr,hxt,hcap,hsz,a5,a6⟩:=Hg (P:=P) (w:=w) e l;obtain⟨h1,h2⟩:=h.grow hsz a5 hxt;refine⟨_,_,w',rho,?_,.inl rfl,h1,h2,.p _ _ (.sl true w.heap.size 0 cap 1 l.length _ (fun i _=>.int .u8 ((l.getD i 0).toNat:Nat)) hcap (fun i z=>rfl) (fun i j z hj=>?_) (fun i j z hj=>?_) none fun _=>rfl)⟩
   .simp[execOp,ho,convert,Y4 w (Fg hs),Y4 w (I4 ht),Y4 w (NM a4),hx.toP.toStr,hr]
   .obtain rfl:j=0:=by omega
    refine⟨by simpa using (a6 i z).1,?_,rfl⟩;rintro (hX|⟨j',o',hj',hbo,_⟩)
    .have:=h.hp.bound _ _ hX;omega
    have:=h.hp.lt ⟨j',o',hj',hbo⟩;omega
   obtain rfl:j=0:=by omega
   exact .v _
  cases u
 .rename_i e hs ht;split at u
  .rename_i a4;split at u
   .rename_i n f hsl q;cases u;have hc:∀i,i<n->(Fe (f i)).isSome=true:=hc;obtain⟨c,a2,hfl,hfr⟩:=Je h hx q hs rfl;have hb:∀i,i<n->∃m,c i 0=.int .u8 m/\Fe (f i)=some (UInt8.ofNat m.toNat):=fun i z=>PU (hc i z) (hfl i z) (hfr i 0 z (by omega)).1;obtain⟨g,hg⟩:∃g:Nat->Int,∀i,i<n->c i 0=.int .u8 (g i)/\Fe (f i)=some (UInt8.ofNat (g i).toNat):=
     ⟨fun i=>if z:i<n then (hb i z).choose else 0,fun i z=>by simp only[z,dif_pos];exact (hb i z).choose_spec⟩
    have a7:V8 c n 1=((List.range n).map g).map (Value.int .u8):=by simp only[V8,Av4,Nat.div_one,Nat.mod_one,Az4];apply Au0;intro i z;exact (hg i (Aw8.1 z)).1
    have a0:∃b k cc,a.eval x=.slice b k cc:=by
     generalize a1:aev st.env x=y at hx hsl q;generalize a.eval x=v at hx;cases hx with
     |p _ y hy=>
      cases hy with
      |v y=>
       simp only[elems]at q;split at q<;>first
        |(rename_i a8;cases a8;exact⟨_,_,_,rfl⟩)
        |(cases q;done)
        |(rename_i a8;cases a8)
      |str l=>simp[YN]at hsl
      |slnil=>exact⟨_,_,_,rfl⟩
      |sl=>exact⟨_,_,_,rfl⟩
      |_=>simp[elems]at q
     |vec=>exact⟨_,_,_,rfl⟩
     |vecp=>exact⟨_,_,_,rfl⟩
     |_=>simp[elems]at q
    have hnil:∀k cc,a.eval x=.slice none k cc->V8 c n 1=[]:=by intro k cc hv;have h1:=a2.cells;rw[hv]at h1;simp only[Builtin.firstCells,Av1,Result.ok.injEq,and_true]at h1;simpa using (congrArg Array.toList h1).symm
    have a3:=Gm a2.cells (a2.len w) a0 a7 hnil;refine OpOk.pure h (v:=.string ⟨((List.range n).map fun i=>(Fe (f i)).getD 0).toArray⟩) ?_ (.p _ _ (.str _));have hfin:(((List.range n).map g).foldl (fun r m=>r.push (UInt8.ofNat m.toNat)) ByteArray.empty)=⟨((List.range n).map fun i=>(Fe (f i)).getD 0).toArray⟩:=by
     rw[SQ];apply AF7;apply Array.ext';simp only[AI1,Az4]
     have:ByteArray.empty.data.toList=[]:=rfl
     rw[this,List.nil_append];apply Au0;intro i z;simp[(hg i (Aw8.1 z)).2]
    rw[hfin]at a3;obtain⟨b,k,cc,hv⟩:=a0;rw[hv]at a3;simp only[execOp,ho,hv];simp[run_convert_bytes_string w s t e b k cc (I4 hs) (NM a4) (Fg ht),a3]
   cases u
  cases u
 cases u
theorem NV (h:Sat C st a w rho){t:TypeId}{l c:Operand}(ho:o.op=.makeSlice t l c)(q:aop P st.env st.regs d o.op=some out)(hc:C7 out.cond):OpOk P C o st a w rho out:=by
 rw[ho]at q;simp only[aop]at q;split at q
 .rename_i e n m hk hn hm y;split at q
  .rename_i k z u hz;split at q
   .rename_i a0;cases q;obtain⟨h1,h2,h3,h4⟩:0<=n/\n<=m/\m*Bf P e<=140737488355328/\m<=140737488355328:=hc;obtain⟨kn,a1⟩:=Y5 (h.aev l) hn;obtain⟨km,a2⟩:=Y5 (h.aev c) hm;obtain⟨i,v,hi,hiz,rfl⟩:=Ar hz;have hk' : i.size=k:=by obtain⟨i',f,hs'⟩:=II u;rw[hi]at f;cases f;exact hs'
    have hvz:v.cells.size=k:=by simpa using a0.1
    have hby:Bf P e=i.bytes:=by simp[Bf,Program.bytesOf,hi]
    rw[hby]at h3;have w64:∀x:Int,0<=x->x<=140737488355328->IntKind.i64.wrap x=x:=by intro x hx hx';have e1:x % (2 ^ 64:Int)=x:=AA1 hx (by omega);unfold IntKind.wrap;simp only[IntKind.bits,IntKind.signed,e1];rw[Nf];simp;omega
    have hrange:(i.bytes:Int)*m<=140737488355328:=by have e:m*(i.bytes:Int)=(i.bytes:Int)*m:=Int.mul_comm _ _;omega
    obtain⟨arr,g⟩:∃arr:Array Value,arr=(Array.range (m.toNat*k)).map ((if m.toNat*k=0 then #[]else v.cells)[· % (if m.toNat*k=0 then #[]else v.cells).size]!):=⟨_,rfl⟩;have hrun:(Instr.makeSlice t (a.eval l) (a.eval c)).run P w=.ok (.slice (some ⟨w.heap.size,0,none⟩) n.toNat m.toNat) (w.alloc (.cells arr e)):=by
     have b1:¬(m<0):=by omega
     have b2:¬(281474976710656<(i.bytes:Int)*m):=by omega
     have b3:¬(n<0):=by omega
     have b4:¬(m<n):=by omega
     rw[g];by_cases r:m.toNat*k=0
     .simp[Instr.makeSlice,Y4 w (I4 hk),a1,a2,_root_.Go.asInt,asIntOf,ZM w hi,w64 n h1 (by omega),w64 m (by omega) h4,b1,b2,b3,b4,Gc w u,r,newRow]
     simp[Instr.makeSlice,Y4 w (I4 hk),a1,a2,_root_.Go.asInt,asIntOf,ZM w hi,w64 n h1 (by omega),w64 m (by omega) h4,b1,b2,b3,b4,Gc w u,r,newRow,YX w hi hiz]
    have hget:∀i' j,i' < n.toNat->j<k->arr.getD (i' * k+j) undef=v.cells.getD j undef:=by
     intro i' j f hj;have hlt:=F9 (show i' < m.toNat by omega) hj;have r:¬(m.toNat*k=0):=by omega
     rw[g];simp only[r,Ni]
     have:(i' * k+j) % v.cells.size=j:=by rw[hvz,AA7,AC3,Ay5 hj]
     simp[Aq0,hlt,this,show j<v.cells.size by omega]
    obtain⟨h1',h2',h3'⟩:=h.fresh (Bg d 0) y (.vec e k n.toNat (fun _=>v.cells.toList.map Lj) false) (.slice (some ⟨w.heap.size,0,none⟩) n.toNat m.toNat) (w':=w.alloc (.cells arr e)) (by simp)
     (fun b hb=>heap_alloc_old w _ b hb) (fun b hb=>by simp[D2,N0]at hb;omega) (fun hk=>by
      refine .inr ⟨w.heap.size,m.toNat,arr,rfl,heap_alloc_new w _,by omega,by rw[g];simp,by simp only[maxLen];omega,fun i' f=>by simpa using hvz,fun i' j f hj=>?_⟩;rw[hget i' j f hj];have hj' : j<v.cells.size:=by omega
      have e:(v.cells.getD j undef)=v.cells[j]:=by simp[Aq0,hj']
      rw[e];refine⟨?_,?_⟩
      .simp only[Aq1,Aq8,Av0,At8 hj',Ar5,Ar3];exact M8 _ _ _
      have s:=a0.2;simp only[AA6,Ar7,Function.comp]at s;exact (M8 w (fun _ _=>False) _).cell (s _ (by simp)))
    exact⟨_,_,_,_,by simp[execOp,ho,hrun],.inl rfl,h1',⟨h2',h3'⟩,.vec _ (some ⟨w.heap.size,0,none⟩) n.toNat m.toNat (by simp[Lv,A3]) (by simp)⟩
   cases q
  cases q
 cases q
end
end Go.AM
namespace Go.AM
section
variable {P:Program}{C:Ctx}{st:St}{a:Act}{w:World}{rho:Nat->Value}{o:Oper}{out:Out}{d:Nat}
theorem Ru (off:Nat):∀(vs:List Value) (k:Nat) (cells:Array Value),off+k+vs.length<=cells.size ->
 ((vs.zipIdx k).foldl (fun cs (p:Value×Nat)=>cs.setIfInBounds (off+p.2) p.1) cells).toList=splice cells.toList (off+k) vs
 |[],k,cells,h=>by simp[splice]
 |v::vs,k,cells,h=>by simp only[As6]at h;rw[List.zipIdx_cons,AE2,Ru off vs (k+1) _ (by simp;omega)];have e:=list_seg_step cells.toList (off+k) v vs (by simp;omega);simpa[splice,AE7,AC2]using e
theorem NW (off:Nat)(vs:Array Value)(cells:Array Value)(h:off+vs.size<=cells.size) :(vs.zipIdx.foldl (fun cs (p:Value×Nat)=>cs.setIfInBounds (off+p.2) p.1) cells).toList=splice cells.toList off vs.toList:=by rw[<- AI3,Array.toList_zipIdx];exact Ru off vs.toList 0 cells (by simpa using h)
theorem Ky (fs:List Field)(h:∀f∈fs,(tsz P f.type).isSome=true):(fs.mapM fun f=>(do pure (f.offset,<- sizeOf f.type):Sem (Nat×Nat))).run P w=.ok (fs.map fun f=>(f.offset,(tsz P f.type).getD 0)) w:=by
 induction fs with
 |nil=>simp
 |cons f fs ih=>obtain⟨m,hm⟩:=As1.1 (h f (by simp));rw[List.mapM_cons];simp only[At7,Gc w hm,Ar8,Av1,ih fun g a=>h g (by simp[a]),At4,hm,Ar3]
theorem Lu (h:Sat C st a w rho){place:Nat->Option (Nat×Nat)}:∀(parts:List (Nat×Operand)) (cs cs' : List AV) (c:Array Value) (f:List AV->Option (List AV)),
 (∀cs,HL st.env place parts cs=f cs)->f cs=some cs' -> c.size=cs.length->RepL w (PiS C st rho) (Lv (A1 st.regs)) rho (fun i=>c.getD i undef) cs ->
 ∃c',Instr.fill place c (parts.map fun q=>(q.1,a.eval q.2))=some c' /\ c'.size=cs'.length/\RepL w (PiS C st rho) (Lv (A1 st.regs)) rho (fun i=>c'.getD i undef) cs'
 |[],cs,cs',c,f,hf,he,hs,hr=>by rw[<- hf]at he;simp only[HL,Aq2]at he;subst he;exact⟨c,rfl,hs,hr⟩
 |(i,x)::parts,cs,cs',c,f,hf,he,hs,hr=>by
  rw[<- hf]at he;simp only[HL]at he;split at he
  .rename_i off m g hp;split at he
   .rename_i l;have hc:=EJ (h.aev x) g;have b:=NW off (a.eval x).cells c (by omega);have j:((a.eval x).cells.zipIdx.foldl (fun cs (p:Value×Nat)=>cs.setIfInBounds (off+p.2) p.1) c).size=(splice cs off (cellsOf (aev st.env x))).length:=by rw[<- Av2,b,F0 _ _ _ (by simp;omega),F0 _ _ _ (by omega)];simpa using hs
    obtain⟨c',h1,n,o⟩:=Lu h parts (splice cs off (cellsOf (aev st.env x))) cs' _ _ (fun _=>rfl) he j (by
     have:=RepL.splice (c:=c.toList) (cs:=cs) (vs:=(a.eval x).cells.toList) (new:=cellsOf (aev st.env x)) (off:=off) (by simpa using hs)
      (by intro i d;have:=hr i d;simpa only[B2]using this) (by simpa using hc.1) (by intro i d;have:=hc.2 i d;simpa only[B2]using this) (by omega)
     intro i d
     have:=this i d
     simpa only[B2,b]using this)
    refine⟨c', ?_,n,o⟩;simp only[At4,Instr.fill,hp];rw[Nf (by simp;omega)];exact h1
   cases he
  cases he
theorem Ms {t:TypeId}{i:TypeInfo}{v:Value}{Pi:Nat->Nat->Prop}{live:Nat->Prop}{rho:Nat->Value}(a:(v.cells.toList.map Lj).all FD=true):RepL w Pi live rho (fun i=>v.cells.getD i undef) ((v.cells.toList.map Lj).map .p):=by
 intro i b;simp only[Au9,Av2]at b;have e:(v.cells.getD i undef)=v.cells[i]:=by simp[Aq0,b]
 simp only[e];refine⟨?_,?_⟩
 .simp only[Aq1,Aq8,Av0,At8 b,Ar5,Ar3];exact .p _ _ (M8 _ _ _)
 simp only[AA6,Ar7,Function.comp]at a;exact (M8 w (fun _ _=>False) _).cell (a _ (by simp))
theorem Xh (h:Sat C st a w rho){t:TypeId}{parts:Array (Nat×Operand)}(l:o.op=.build t parts)(c:aop P st.env st.regs d o.op=some out):OpOk P C o st a w rho out:=by
 rw[l]at c;simp only[aop]at c;split at c
 .rename_i z x;split at c
  .rename_i cs g hb;cases c;simp only[Aq7]at g;obtain⟨i,v,u,j,rfl⟩:=Ar x;obtain⟨c',h1,y,h3⟩:=Lu h (place:=Ll P t) parts.toList _ cs v.cells _ (fun _=>rfl) hb (by simp) (Ms (t:=t) (i:=i) g.1);refine OpOk.pure h (v:=.agg c') ?_ (h3.mkAgg y fun _ _=>rfl);have b:(parts.map fun q=>(q.1,a.eval q.2)).toList=parts.toList.map fun q=>(q.1,a.eval q.2):=by simp
   have hs:=g.2;unfold Us at hs;split at hs
   .rename_i fs hk;obtain⟨fa,hu,rfl⟩:=CB hk;have hp:Ll P t=fun i=>((fa.toList.map fun f=>(f.offset,(tsz P f.type).getD 0)).toArray)[i]?:=by
     funext i;simp only[Ll,hk,Aq8,Av0,List.getElem?_toArray];cases r:fa[i]? with
     |none=>simp
     |some f=>
      simp only[AA6,Ar7,Function.comp]at hs
      have:=hs f (by have:=AG6 r;simpa using this)
      obtain⟨m,hm⟩:=As1.1 this;simp[hm]
    have hm:=Ky (P:=P) (w:=w) fa.toList (fun f r=>by simp only[AA6,Ar7,Function.comp]at hs;exact hs f r)
    have s : (fa.mapM fun f=>(do pure (f.offset,<- sizeOf f.type):Sem (Nat×Nat))).run P w=.ok ((fa.toList.map fun f=>(f.offset,(tsz P f.type).getD 0)).toArray) w:=by obtain⟨fl⟩:=fa;rw[List.mapM_toArray];simp only[Sem.run_map,hm,Ar8]
    rw[hp]at h1;simp only[execOp,l,At7,Instr.build,YX w u j,Ar8,Y4 w hu,s,b,h1,Av1]
   .rename_i n e hk;obtain⟨m,hm⟩:=As1.1 hs;have hp:Ll P t=fun i=>some (i*m,m):=by funext i;simp[Ll,hk,hm]
    rw[hp]at h1;simp only[execOp,l,At7,Instr.build,YX w u j,Ar8,Y4 w (Jb hk),Gc w hm,b,h1,Av1]
   cases hs
  cases c
 cases c
end
end Go.AM
namespace Go.AM
section
variable {P:Program}{C:Ctx}{st:St}{a:Act}{w:World}{rho:Nat->Value}{o:Oper}{out:Out}{d:Nat}
theorem UN {regs R' : B5}{x:AV}{y:PV}(h:EY regs x=some (y,R')){i:Nat}(a:A1 regs i=none):A1 R' i=none:=by
 unfold EY at h;split at h
 .cases h;exact a
 .split at h
  .rename_i b;cases h;rw[A3];split
   .rename_i e;subst e;rw[a]at b;cases b
   exact a
  cases h
 .split at h
  .rename_i b;cases h;rw[A3];split
   .rename_i e;subst e;rw[a]at b;cases b
   exact a
  cases h
 .cases h;exact a
 .split at h
  .cases h;exact a
  cases h
 cases h
theorem Db:∀(xs:List Operand) (st:St) (l:List PV) (R' : B5),Sat C st a w rho->Cx st.regs (xs.map (aev st.env))=some (l,R') ->
 Sat C { st with regs:=R' } a w rho/\Kp C st.regs R' w w rho rho/\l.length=xs.length/\(∀i x,xs[i]? = some x->RepP w (Prv C.X (A1 R') rho) (a.eval x) (l.getD i default))/\∀i,A1 st.regs i=none->A1 R' i=none
 |[],st,l,R',h,he=>by simp only[AB5,Cx,Aq2,Ar6]at he;obtain⟨rfl,rfl⟩:=he;exact⟨h,Kp.refl _ _ _ _,rfl,fun i x hx=>by simp at hx,fun i b=>b⟩
 |x::xs,st,l,R',h,he=>by
  simp only[At4,Cx]at he;split at he
  .rename_i y R1 f;split at he
   .rename_i l' R2 c;cases he;obtain⟨h1,j,m⟩:=Bo h (h.aev x) f;obtain⟨n,g,o,q,r⟩:=Db xs { st with regs:=R1 } l' R' h1 c;refine⟨n,m.trans g,by simp[o],fun i z d=>?_,fun i b=>r i (UN f b)⟩;cases i with
    |zero=>simp only[Aw3,Aq2]at d;subst d;simpa using g.p j
    |succ i=>simpa using q i z (by simpa using d)
   cases he
  cases he
def Iw (F:Nat->List PV):List (Nat×List PV)->Nat->List PV
 |[],i=>F i
 |(j,x)::r,i=>if i=j then x else Iw F r i
theorem Mt (z:List PV)(l:List (Nat×List PV))(i:Nat):Iw (fun _=>z) l i=G7 z l i:=by
 induction l with
 |nil=>rfl
 |cons p r ih=>obtain⟨j,x⟩:=p;simp only[Iw,G7,ih]
theorem Jf {F:Nat->List PV}{j:Nat}{x:List PV}:∀(l:List (Nat×List PV)),(∀p∈l,p.1≠j)->∀i,Iw (fun i=>if i=j then x else F i) l i=if i=j then x else Iw F l i
 |[],_,i=>rfl
 |(k,y)::r,h,i=>by
  have hk:=h (k,y) (by simp);simp only[Iw,Jf r (fun p hp=>h p (by simp[hp])) i];by_cases e:i=k
  .subst e;simp only[Nh];rw[Nf hk]
  simp only[e,Ni]
theorem PW {x:PV}(h:IR x=true):AD (.p x)=true/\cellsOf (.p x)=(Y3 x).map .p:=by cases x<;>simp_all [IR,AD,Up,cellsOf,Y3]
theorem FG {Pi:Nat->Nat->Prop}{m n:Nat}:∀(ps:List (Nat×Value)) (xs:List PV) (c:Array Value) (F:Nat->List PV),ps.length=xs.length->CY n m (ps.map (·.1)) xs=true ->
 (∀i x,ps[i]? = some x->RepP w Pi x.2 (xs.getD i default))->c.size=n*m->(∀i,i<n->(F i).length=m)->(∀i j,i<n->j<m->RepP w Pi (c.getD (i*m+j) undef) ((F i).getD j default)/\(c.getD (i*m+j) undef).oneCell' = true) ->
 ∃c',Instr.fill (fun i=>some (i*m,m)) c ps=some c' /\ c'.size=n*m/\(∀i,i<n->(Iw F ((ps.map (·.1)).zip (xs.map Y3)) i).length=m) /\
  ∀i j,i<n->j<m->RepP w Pi (c'.getD (i*m+j) undef) ((Iw F ((ps.map (·.1)).zip (xs.map Y3)) i).getD j default)/\(c'.getD (i*m+j) undef).oneCell' = true
 |[],xs,c,F,hl,f,hr,hs,hF,hc=>⟨c,rfl,hs,by simpa[Iw]using hF,by simpa[Iw]using hc⟩
 |(i0,v)::ps,[],c,F,hl,f,hr,hs,hF,hc=>by simp at hl
 |(i0,v)::ps,x::xs,c,F,hl,f,hr,hs,hF,hc=>by
  simp only[At4,CY,Aq7,decide_eq_true_eq,beq_iff_eq,At3]at f;obtain⟨⟨hi0,hst,hpl⟩,r,f⟩:=f;obtain⟨s,t⟩:=PW hst;have hv:RepP w Pi v x:=by simpa using hr 0 (i0,v) rfl
  obtain⟨u,y⟩:=EJ (live:=fun _=>False) (rho:=fun _=>undef) (.p _ _ hv) s;rw[t]at u y;simp only[Au9]at u;have hle:i0*m+m<=n*m:=by rw[<- AD5];exact As3 m hi0
  have o:=NW (i0*m) v.cells c (by omega);obtain⟨c1,a0⟩:∃c1,c1=v.cells.zipIdx.foldl (fun cs (p:Value×Nat)=>cs.setIfInBounds (i0*m+p.2) p.1) c:=⟨_,rfl⟩;rw[<- a0]at o;have hs1:c1.size=n*m:=by rw[<- Av2,o,F0 _ _ _ (by simp;omega)];simpa using hs
  obtain⟨c',h1,h2,h3,h4⟩:=FG ps xs c1 (fun i=>if i=i0 then Y3 x else F i) (by simpa using hl) f (fun i z hz=>by simpa using hr (i+1) z (by simpa using hz)) hs1
   (fun i q=>by
    by_cases e:i=i0
    .simp only[e,Nh];exact hpl
    .simp only[e,Ni];exact hF i q) (fun i j q hj=>by
    rw[B2,o,P3 _ _ _ _ _ (by simp;omega)];by_cases d:i0*m<=i*m+j/\i*m+j<i0*m+v.cells.toList.length
    .rw[Nd d];simp only[Av2]at d;obtain⟨rfl,hjj⟩:=UI (l:=i) (i:=i0) (k:=m) (a:=j) (b:=i*m+j-i0*m) (by omega) hj (by omega);simp only[Nh]
     have:=y j (by simp;omega)
     rw[show i*m+j-i*m=j by omega,<- B2];refine⟨?_,this.2⟩;have h5:=this.1;simp only[Aq1,Aq8,Aq4 (show j<(Y3 x).length by omega),Ar5,Ar3]at h5⊢;exact h5.toP
    rw[Nf d];have hne:i≠i0:=by rintro rfl;apply d;simp only[Av2];omega
    simp only[hne,Ni];rw[<- B2];exact hc i j q hj)
  have g:∀p∈(ps.map (·.1)).zip (xs.map Y3),p.1≠i0:=by
   intro p hp e
   have:=(List.of_mem_zip hp).1
   rw[e]at this;simp only[Au1,decide_eq_false_iff_not]at r;exact r this
  refine⟨c', ?_,h2,fun i q=>?_,fun i j q hj=>?_⟩
  .simp only[Instr.fill];rw[Nf (by simp;omega)];rw[<- a0];exact h1
  .have:=h3 i q
   rw[Jf _ g]at this;simpa[Iw]using this
  have:=h4 i j q hj
  rw[Jf _ g]at this;simpa[Iw]using this
theorem Fh (h:Sat C st a w rho){t:TypeId}{n:Nat}{parts:Array (Nat×Operand)}(hf:Ge st.regs n (parts.toList.map fun q=>(q.1,aev st.env q.2))=none)(ho:o.op=.buildSlice t n parts)(s:aop P st.env st.regs d o.op=some out)(hc:C7 out.cond):OpOk P C o st a w rho out:=by
 rw[ho]at s;simp only[aop,hf]at s;split at s
 .rename_i e hk a1;split at s
  .rename_i l R' m z hv a7 hz;split at s
   .rename_i a8;cases s;have a9:CY n m (parts.toList.map (·.1)) l=true:=hc;obtain⟨⟨hmax,b0⟩,r,a2⟩:=a8;have b1 : Cx st.regs ((parts.toList.map (·.2)).map (aev st.env))=some (l,R'):=by simpa[Az4,Aw4]using hv
    obtain⟨h1,h2,h3,h4,h5⟩:=Db (parts.toList.map (·.2)) st l R' h b1;obtain⟨i,v,hi,b2,rfl⟩:=Ar hz;have b3:v.cells.size=m:=by simpa using r
    obtain⟨arr,c⟩:∃arr:Array Value,arr=(Array.range (n*m)).map ((if n*m=0 then #[]else v.cells)[· % (if n*m=0 then #[]else v.cells).size]!):=⟨_,rfl⟩;have a3:∀i' j,i' < n->j<m->arr.getD (i' * m+j) undef=v.cells.getD j undef:=by
     intro i' j f y;have b4:=F9 f y;have g:¬(n*m=0):=by omega
     rw[c];simp only[g,Ni]
     have:(i' * m+j) % v.cells.size=j:=by rw[b3,AA7,AC3,Ay5 y]
     simp[Aq0,b4,this,show j<v.cells.size by omega]
    have b5:=Ms (w:=w) (Pi:=Prv C.X (A1 R') rho) (live:=fun _=>False) (rho:=rho) (t:=t) (i:=i) a2;obtain⟨c',a4,b6,a5,a0⟩:=FG (w:=w) (Pi:=Prv C.X (A1 R') rho) (m:=m) (n:=n) (parts.toList.map fun q=>(q.1,a.eval q.2)) l arr (fun _=>v.cells.toList.map Lj) (by simpa using h3.symm)
     (by simpa[Az4,Aw4]using a9) (fun i x hx=>by
      rw[Aq8,As8]at hx;obtain⟨q,hq,rfl⟩:=hx;exact h4 i q.2 (by rw[Aq8,hq];rfl)) (by rw[c];simp) (fun i hi=>r) (fun i' j f y=>by
      rw[a3 i' j f y]
      have:=b5 j (by simp;omega)
      refine⟨?_,this.2⟩;have h6:=this.1;simp only[Aq1,Aq8,Av0,At8 (show j<v.cells.size by omega),Ar5,Ar3]at h6⊢;exact h6.toP)
    have b7:(parts.toList.map fun q=>(q.1,a.eval q.2)).map (·.1)=parts.toList.map (·.1):=by simp[Az4,Aw4]
    rw[b7]at a5 a0;have a6:(Instr.buildSlice t n (parts.map fun q=>(q.1,a.eval q.2))).run P w=.ok (.slice (some ⟨w.heap.size,0,none⟩) n n) (w.alloc (.cells c' e)):=by
     have u:(parts.map fun q=>(q.1,a.eval q.2)).toList=parts.toList.map fun q=>(q.1,a.eval q.2):=by simp
     have hb:¬(n*m>2 ^ 24):=by omega
     simp only[Instr.buildSlice,At7,Y4 w (I4 hk),Ar8,Gc w a7,Nf hb,u];by_cases g:n*m=0
     .simp only[Nd g]at c;rw[Nd g];simp only[At7,Av1,Ar8];rw[<- c,a4];simp[newRow]
     simp only[Nf g]at c;rw[Nf g];simp only[At7,Av1,Ar8,YX w hi b2];rw[<- c,a4];simp[newRow]
    obtain⟨g1,g2,g3⟩:=h1.fresh (Bg d 0) (h5 _ a1) (.vec e m n (G7 (v.cells.toList.map Lj) ((parts.toList.map (·.1)).zip (l.map Y3))) false) (.slice (some ⟨w.heap.size,0,none⟩) n n) (w':=w.alloc (.cells c' e)) (by simp)
     (fun b hb=>heap_alloc_old w _ b hb) (fun b hb=>by simp[D2,N0]at hb;omega) (fun b8=>by
      refine .inr ⟨w.heap.size,n,c',rfl,heap_alloc_new w _,Aq9 _,b6,?_,fun i' f=>?_,fun i' j f y=>?_⟩
      .simp only[maxLen];omega
      .rw[<- Mt];exact a5 i' f
      rw[<- Mt];exact⟨(a0 i' j f y).1.keeps b8,(a0 i' j f y).2⟩)
    exact⟨_,_,_,_,by simp[execOp,ho,a6],.inl rfl,g1,h2.trans ⟨g2,g3⟩,.vec _ (some ⟨w.heap.size,0,none⟩) n n (by simp[Lv,A3]) (by simp)⟩
   cases s
  cases s
 cases s
theorem Jg {regs:B5}:∀{l:List AV}{xs:List PV},Ut l=some xs->Cx regs l=some (xs,regs)
 |[],_,h=>by cases h;rfl
 |a::r,xs,h=>by
  cases a with
  |p x=>
   simp only[Ut]at h;split at h
   .rename_i l hl;cases h;simp only[Cx,EY,Jg hl]
   cases h
  |_=>simp[Ut]at h
theorem Kz (h:Sat C st a w rho){t:TypeId}{n:Nat}{parts:Array (Nat×Operand)}(ho:o.op=.buildSlice t n parts){cc:List Prop}{x:PV}(r:Lm P st.env o.op=some (cc,x))(hc:C7 cc):OpOk P C o st a w rho ⟨cc,.p x,st.regs⟩:=by
 rw[ho]at r;simp only[Lm]at r;split at r
 .rename_i e hk;split at r
  .rename_i l m z a7 a8 hz;have hv:=Jg (regs:=st.regs) a7;split at r
   .rename_i a9;cases r;have b0:CY n m (parts.toList.map (·.1)) l=true:=hc;obtain⟨⟨hmax,b1⟩,g,a1⟩:=a9;have b2 : Cx st.regs ((parts.toList.map (·.2)).map (aev st.env))=some (l,st.regs):=by simpa[Az4,Aw4]using hv
    obtain⟨h1,h2,h3,h4,h5⟩:=Db (parts.toList.map (·.2)) st l st.regs h b2;obtain⟨i,v,hi,b3,rfl⟩:=Ar hz;have b4:v.cells.size=m:=by simpa using g
    obtain⟨arr,d⟩:∃arr:Array Value,arr=(Array.range (n*m)).map ((if n*m=0 then #[]else v.cells)[· % (if n*m=0 then #[]else v.cells).size]!):=⟨_,rfl⟩;have a2:∀i' j,i' < n->j<m->arr.getD (i' * m+j) undef=v.cells.getD j undef:=by
     intro i' j c s;have y:=F9 c s;have f:¬(n*m=0):=by omega
     rw[d];simp only[f,Ni]
     have:(i' * m+j) % v.cells.size=j:=by rw[b4,AA7,AC3,Ay5 s]
     simp[Aq0,y,this,show j<v.cells.size by omega]
    have b5:=Ms (w:=w) (Pi:=Prv C.X (A1 st.regs) rho) (live:=fun _=>False) (rho:=rho) (t:=t) (i:=i) a1;obtain⟨c',a3,b6,a4,a0⟩:=FG (w:=w) (Pi:=Prv C.X (A1 st.regs) rho) (m:=m) (n:=n) (parts.toList.map fun q=>(q.1,a.eval q.2)) l arr (fun _=>v.cells.toList.map Lj) (by simpa using h3.symm)
     (by simpa[Az4,Aw4]using b0) (fun i x hx=>by
      rw[Aq8,As8]at hx;obtain⟨q,hq,rfl⟩:=hx;exact h4 i q.2 (by rw[Aq8,hq];rfl)) (by rw[d];simp) (fun i hi=>g) (fun i' j c s=>by
      rw[a2 i' j c s]
      have:=b5 j (by simp;omega)
      refine⟨?_,this.2⟩;have h6:=this.1;simp only[Aq1,Aq8,Av0,At8 (show j<v.cells.size by omega),Ar5,Ar3]at h6⊢;exact h6.toP)
    have b7:(parts.toList.map fun q=>(q.1,a.eval q.2)).map (·.1)=parts.toList.map (·.1):=by simp[Az4,Aw4]
    rw[b7]at a4 a0;have a5:(Instr.buildSlice t n (parts.map fun q=>(q.1,a.eval q.2))).run P w=.ok (.slice (some ⟨w.heap.size,0,none⟩) n n) (w.alloc (.cells c' e)):=by
     have u:(parts.map fun q=>(q.1,a.eval q.2)).toList=parts.toList.map fun q=>(q.1,a.eval q.2):=by simp
     have hb:¬(n*m>2 ^ 24):=by omega
     simp only[Instr.buildSlice,At7,Y4 w (I4 hk),Ar8,Gc w a8,Nf hb,u];by_cases f:n*m=0
     .simp only[Nd f]at d;rw[Nd f];simp only[At7,Av1,Ar8];rw[<- d,a3];simp[newRow]
     simp only[Nf f]at d;rw[Nf f];simp only[At7,Av1,Ar8,YX w hi b3];rw[<- d,a3];simp[newRow]
    obtain⟨g1,g2⟩:=h.grow (w':=w.alloc (.cells c' e)) (by simp) (fun b hb=>heap_alloc_old w _ b hb);have a6:∀off,¬Prv C.X (A1 st.regs) rho w.heap.size off:=by
     rintro off (hX|⟨j',o',b8,b9,_⟩)
     .have:=h.hp.bound _ _ hX;omega
     have:=h.hp.lt ⟨j',o',b8,b9⟩;omega
    refine⟨_,_,w.alloc (.cells c' e),rho,by simp[execOp,ho,a5],.inl rfl,g1,g2,.p _ _ (.sl true w.heap.size 0 n m n _ (fun i' j=>c'.getD (i' * m+j) undef) (Aq9 _) (fun i' c=>by rw[<- Mt];exact a4 i' c) (fun i' j c s=>?_) (fun i' j c s=>?_) none fun _=>rfl)⟩
    .refine⟨?_,a6 _,?_⟩
     .have y:=F9 c s
      have:=C8 (heap_alloc_new w (.cells c' e)) (o:=i' * m+j) (by rw[b6];exact y)
      rw[At5];exact this
     have:=(a0 i' j c s).2;exact this
    rw[<- Mt];exact (a0 i' j c s).1.keeps fun b o v hp hc=>⟨by rw[<- hc];exact Au7 (heap_alloc_old w _ b (Ay7 w ⟨b,o,none⟩ hc)),hp⟩
   cases r
  cases r
 cases r
theorem Mu (h:Sat C st a w rho){t:TypeId}{l c:Operand}(ho:o.op=.makeSlice t l c){cc:List Prop}{x:PV}(q:Lm P st.env o.op=some (cc,x))(hc:C7 cc):OpOk P C o st a w rho ⟨cc,.p x,st.regs⟩:=by
 rw[ho]at q;simp only[Lm]at q;split at q
 .rename_i e n m hk hn hm;split at q
  .rename_i k z y hz;split at q
   .rename_i hzl;cases q;obtain⟨h1,h2,h3,h4⟩:0<=n/\n<=m/\m*Bf P e<=140737488355328/\m<=140737488355328:=hc;obtain⟨kn,hkn⟩:=Y5 (h.aev l) hn;obtain⟨km,hkm⟩:=Y5 (h.aev c) hm;obtain⟨i,v,hi,hiz,rfl⟩:=Ar hz;have hk' : i.size=k:=by obtain⟨i',d,hs'⟩:=II y;rw[hi]at d;cases d;exact hs'
    have hvz:v.cells.size=k:=by simpa using hzl.1
    have hby:Bf P e=i.bytes:=by simp[Bf,Program.bytesOf,hi]
    rw[hby]at h3;have w64:∀x:Int,0<=x->x<=140737488355328->IntKind.i64.wrap x=x:=by intro x hx hx';have e1:x % (2 ^ 64:Int)=x:=AA1 hx (by omega);unfold IntKind.wrap;simp only[IntKind.bits,IntKind.signed,e1];rw[Nf];simp;omega
    have hrange:(i.bytes:Int)*m<=140737488355328:=by have e:m*(i.bytes:Int)=(i.bytes:Int)*m:=Int.mul_comm _ _;omega
    obtain⟨arr,g⟩:∃arr:Array Value,arr=(Array.range (m.toNat*k)).map ((if m.toNat*k=0 then #[]else v.cells)[· % (if m.toNat*k=0 then #[]else v.cells).size]!):=⟨_,rfl⟩;have hrun:(Instr.makeSlice t (a.eval l) (a.eval c)).run P w=.ok (.slice (some ⟨w.heap.size,0,none⟩) n.toNat m.toNat) (w.alloc (.cells arr e)):=by
     have b1:¬(m<0):=by omega
     have b2:¬(281474976710656<(i.bytes:Int)*m):=by omega
     have b3:¬(n<0):=by omega
     have b4:¬(m<n):=by omega
     rw[g];by_cases r:m.toNat*k=0
     .simp[Instr.makeSlice,Y4 w (I4 hk),hkn,hkm,_root_.Go.asInt,asIntOf,ZM w hi,w64 n h1 (by omega),w64 m (by omega) h4,b1,b2,b3,b4,Gc w y,r,newRow]
     simp[Instr.makeSlice,Y4 w (I4 hk),hkn,hkm,_root_.Go.asInt,asIntOf,ZM w hi,w64 n h1 (by omega),w64 m (by omega) h4,b1,b2,b3,b4,Gc w y,r,newRow,YX w hi hiz]
    have s:∀i' j,i' < n.toNat->j<k->arr.getD (i' * k+j) undef=v.cells.getD j undef:=by
     intro i' j d hj;have hlt:=F9 (show i' < m.toNat by omega) hj;have r:¬(m.toNat*k=0):=by omega
     rw[g];simp only[r,Ni]
     have:(i' * k+j) % v.cells.size=j:=by rw[hvz,AA7,AC3,Ay5 hj]
     simp[Aq0,hlt,this,show j<v.cells.size by omega]
    obtain⟨g1,g2⟩:=h.grow (w':=w.alloc (.cells arr e)) (by simp) (fun b hb=>heap_alloc_old w _ b hb);have hnew:∀off,¬Prv C.X (A1 st.regs) rho w.heap.size off:=by
     rintro off (hX|⟨j',o',f,hbo,_⟩)
     .have:=h.hp.bound _ _ hX;omega
     have:=h.hp.lt ⟨j',o',f,hbo⟩;omega
    refine⟨_,_,w.alloc (.cells arr e),rho,by simp[execOp,ho,hrun],.inl rfl,g1,g2,.p _ _ (.sl true w.heap.size 0 m.toNat k n.toNat _ (fun i' j=>arr.getD (i' * k+j) undef) (by omega) (fun i' d=>by simpa using hvz) (fun i' j d hj=>?_) (fun i' j d hj=>?_) none fun _=>rfl)⟩
    .refine⟨?_,hnew _,?_⟩
     .have hlt:=F9 (show i' < m.toNat by omega) hj
      have:=C8 (heap_alloc_new w (.cells arr e)) (o:=i' * k+j) (by rw[g];simpa using hlt)
      rw[At5];exact this
     rw[s i' j d hj];have f : j<v.cells.size:=by omega
     rw[show (v.cells.getD j undef)=v.cells[j] by simp[Aq0,f]];have u:=hzl.2;simp only[AA6,Ar7,Function.comp]at u;exact (M8 w (fun _ _=>False) _).cell (u _ (by simp))
    rw[s i' j d hj];have f : j<v.cells.size:=by omega
    rw[show (v.cells.getD j undef)=v.cells[j] by simp[Aq0,f]];simp only[Aq1,Aq8,Av0,At8 f,Ar5,Ar3];exact M8 _ _ _
   cases q
  cases q
 cases q
theorem SS (h:Sat C st a w rho){cc:List Prop}{x:PV}(b:Lm P st.env o.op=some (cc,x))(hc:C7 cc):OpOk P C o st a w rho ⟨cc,.p x,st.regs⟩:=by
 cases d:o.op with
 |buildSlice t n parts=>exact Kz h d b hc
 |makeSlice t l c=>exact Mu h d b hc
 |_=>rw[d]at b;simp[Lm]at b
end
end Go.AM
namespace Go.AM
section
variable {P:Program}{C:Ctx}{st:St}{a:Act}{w:World}{rho:Nat->Value}{o:Oper}{out:Out}{d:Nat}
theorem Mv {b:Bool}:∀(n:Nat) (t:TypeId) (ks:List TK),lay P n t=some ks->∀(vs:Array Value) (off D:Nat),n<=D->off+ks.length<=vs.size ->
 ∃x,(part t vs off).run P w=.ok x w/\(Instr.checkKey b D t x).run P w=.ok () w:=by
 intro n
 induction n with
 |zero=>intro t ks h;simp[lay]at h
 |succ n ih=>
  intro t ks hl vs off D z ha;obtain⟨D,rfl⟩:∃D',D=D' + 1:=⟨D-1,by omega⟩;cases hk:tk P t with
  |none=>
   have:P.underlying t=none:=by unfold tk at hk;cases j:P.underlying t<;>simp[j]at hk⊢
   simp[lay,this]at hl
  |some k=>
   by_cases hs:∀fs,k ≠ .struct fs
   .obtain⟨rfl,m⟩:=NT hk hl hs;simp only[Av7]at ha;refine⟨vs.getD off undef,?_,?_⟩
    .simp[part,G0 w hk,m,Aq0,show off<vs.size by omega]
    obtain⟨dd,j,rfl⟩:=Z4 hk;simp only[lay,j]at hl;cases dd<;>simp at hl<;>first
     |(simp[Instr.checkKey,Y4 w j];done)
     |exact Ng rfl (hs _)
   obtain⟨fs,rfl⟩:∃fs,k=.struct fs:=Av3 fun hn=>hs fun fs e=>hn ⟨fs,e⟩;obtain⟨fa,d,_⟩:=CB hk;simp only[lay,d]at hl;split at hl
   .rename_i l q;split at hl
    .rename_i r;cases hl;refine⟨.agg (vs.extract off (off+ks.length)),by simp[part,G0 w hk,Rp,Gc w r],?_⟩;generalize g : vs.extract off (off+ks.length)=vs';have i : vs'.size=0+ks.length:=by rw[<- g];simp;omega
     simp only[Instr.checkKey,At7,Y4 w d,Ar8];rw[<- Array.forIn_toList];have s:∀(fl:List Field) (o:Nat) (l:List TK),ZA (lay P n) fl o=some l->vs'.size=o+l.length ->
      (forIn fl PUnit.unit (fun f _=>(do
       if f.name ≠ "_" then do
        Instr.checkKey b D f.type (<- part f.type vs' f.offset)
        pure (ForInStep.yield PUnit.unit)
       else pure (ForInStep.yield PUnit.unit):Sem (ForInStep PUnit)))).run P w=.ok PUnit.unit w:=by
      intro fl
      induction fl with
      |nil=>intro o l _ _;simp
      |cons f fl ihf=>
       intro o l h1 y;simp only[ZA]at h1;split at h1
       .cases h1
       rename_i a;have a:f.offset=o:=Av3 a;split at h1
       .rename_i ka u;split at h1
        .rename_i kb v;cases h1;simp only[Au6]at y;obtain⟨x,hx,hc⟩:=ih f.type ka u vs' o D (by omega) (by omega);have c:=ihf (o+ka.length) kb v (by omega);rw[List.forIn_cons];by_cases hn:f.name ≠ "_"
         .simp only[At7,Nd hn,a,hx,hc,Ar8,Av1];exact c
         simp only[At7,Nf hn,Ar8,Av1];exact c
        cases h1
       cases h1
     have:=s fa.toList 0 ks q i
     simp only[ne_eq]at this⊢
     first
      |exact this
      |(simp only[this];done)
      |(rw[this];rfl)
    cases hl
   cases hl
theorem FH {Pi:Nat->Nat->Prop}{b:Bool}{t:TypeId}{v:Value}{x:PV}(hk:IS P t x=true)(f:RepP w Pi v x):(Instr.checkKey b 10000 t v).run P w=.ok () w:=by
 unfold IS at hk;split at hk
 .rename_i fs ht;split at hk
  .rename_i ks cs hl;simp only[beq_iff_eq]at hk;cases f with
   |agg vs _ hs _ _=>
    obtain⟨y,hy,hc⟩:=Mv (P:=P) (w:=w) (b:=b) 10 t ks hl vs 0 10000 (by omega) (by omega);have a:=hl;obtain⟨fa,c,_⟩:=CB ht;simp only[lay,c]at a;split at a
    .split at a
     .rename_i d;cases a
      have:vs.extract 0 ks.length=vs:=by rw[<- hk,<- hs];simp
      have e1:(part t vs 0).run P w=.ok (.agg vs) w:=by simp[part,G0 w ht,Rp,Gc w d,this]
      rw[e1]at hy;cases hy;exact hc
     cases a
    cases a
  cases hk
 .rename_i k g ht;obtain⟨dd,i,rfl⟩:=Z4 ht;show (Instr.checkKey b (9999+1) t v).run P w=.ok () w;generalize 9999=D;cases dd<;>simp[PB,keyK]at hk<;>simp[Instr.checkKey,Y4 w i]
 cases hk
def EntL (w:World)(Pi:Nat->Nat->Prop)(ents:List MapEntry)(es:List (PV×PV)):Prop:= ents.length=es.length/\∀i,i<es.length->RepP w Pi (ents.getD i default).key (es.getD i default).1/\RepP w Pi (ents.getD i default).val (es.getD i default).2
theorem EntL.cons {Pi:Nat->Nat->Prop}{e:MapEntry}{ents:List MapEntry}{p:PV×PV}{es:List (PV×PV)}(h:EntL w Pi (e::ents) (p::es)):RepP w Pi e.key p.1/\RepP w Pi e.val p.2/\EntL w Pi ents es:=
 ⟨by simpa using (h.2 0 (by simp)).1,by simpa using (h.2 0 (by simp)).2,by simpa using h.1,fun i a=>by simpa using h.2 (i+1) (by simpa using a)⟩
theorem Lw {cmp:PV->PV->Option Bool}{k:PV}:∀{es:List (PV×PV)}{r:Option PV},find cmp k es=some r->∃q,DT cmp k es=some q/\r=q.map fun j=>(es.getD j default).2
 |[],r,h=>by simp only[find,Aq2]at h;subst h;exact⟨none,rfl,rfl⟩
 |(a,x)::es,r,h=>by
  simp only[find]at h;split at h
  .rename_i hc;cases h;exact⟨some 0,by simp[DT,hc],by simp⟩
  .rename_i hc;obtain⟨q,h1,b⟩:=Lw h;refine⟨q.map (· + 1),by simp[DT,hc,h1],?_⟩;rw[b];cases q<;>simp
  cases h
theorem NX {cmp:PV->PV->Option Bool}{k x:PV}:∀{es es' : List (PV×PV)},upd cmp k x es=some es' -> ∃q,DT cmp k es=some q/\(q=none->es' = es++[(k,x)])/\∀j,q=some j->es' = es.set j (k,x)
 |[],es',h=>by simp only[upd,Aq2]at h;subst h;exact⟨none,rfl,fun _=>rfl,fun j h=>by cases h⟩
 |(a,y)::es,es',h=>by
  simp only[upd]at h;split at h
  .rename_i hc;cases h;exact⟨some 0,by simp[DT,hc],fun h=>(by cases h),fun j b=>by cases b;simp⟩
  .rename_i hc;rw[As8]at h;obtain⟨e1,c,rfl⟩:=h;obtain⟨q,h1,d,f⟩:=NX c;refine⟨q.map (· + 1),by simp[DT,hc,h1],fun g=>?_,fun j b=>?_⟩
   .cases q with
    |none=>rw[d rfl];rfl
    |some j=>simp at g
   cases q with
   |none=>simp at b
   |some j'=>simp at b;subst b;rw[f j' rfl];rfl
  cases h
theorem EL {cmp:PV->PV->Option Bool}{k:PV}:∀{es:List (PV×PV)}{j:Nat},DT cmp k es=some (some j)->j<es.length/\cmp k (es.getD j default).1=some true
 |[],j,h=>by simp[DT]at h
 |(a,y)::es,j,h=>by
  simp only[DT]at h;split at h
  .rename_i hc;cases h;exact⟨by simp,by simpa using hc⟩
  .rename_i hc;rw[As8]at h;obtain⟨q,h1,b⟩:=h;cases q with
   |none=>simp at b
   |some j'=>simp at b;subst b;obtain⟨c,d⟩:=EL h1;exact⟨by simpa using c,by simpa using d⟩
  cases h
theorem DL {Pi:Nat->Nat->Prop}{kt:TypeId}{k:Value}{x:PV}(hk:RepP w Pi k x)(hc:C7 (Ud P kt)):∀(es:List (PV×PV)) (ents:List MapEntry) (i:Nat) (r:Option Nat),EntL w Pi ents es->DT (PC P kt) x es=some r ->
 (Instr.findAsking kt k ents i).run P w=.ok (r.map fun j=>(i+j,(ents.getD j default).val)) w
 |[],ents,i,r,he,hf=>by obtain rfl:ents=[]:=Au8 (by simpa using he.1);simp only[DT,Aq2]at hf;subst hf;simp[Instr.findAsking]
 |(a,b)::es,[],i,r,he,hf=>by simp[EntL]at he
 |(a,b)::es,e::ents,i,r,he,hf=>by
  obtain⟨h1,l,d⟩:=he.cons;simp only[DT]at hf;split at hf
  .rename_i c;cases hf
   have:=(Hf hk h1 c hc).1
   simp[Instr.findAsking,this]
  .rename_i c
   have:=(Hf hk h1 c hc).1
   rw[As8]at hf;obtain⟨q,f,rfl⟩:=hf;have g:=DL hk hc es ents (i+1) q d f;simp only[Instr.findAsking,At7,this,Ar8,Ar1,Ni,g];cases q with
   |none=>rfl
   |some j=>simp;omega
  cases hf
theorem Jh {Pi:Nat->Nat->Prop}{kt:TypeId}{dd:TypeDesc}(f:P.underlying kt=some dd){k e:Value}{x a:PV}(hk:RepP w Pi k x)(b:RepP w Pi e a){r q:Bool}(hc:PC P kt x a=some r)(hs:Instr.sameNow dd k e=some q):q=r:=by
 have c:tk P kt=some (PB dd):=by simp[tk,f]
 unfold PC at hc;rw[c]at hc;unfold Instr.sameNow at hs;split at hs
 .simp only[PB]at hc;cases hk;cases b;simp only[PH]at hc;split at hs
  .rename_i d;rw[Nd d]at hc;cases hs;cases hc;rfl
  cases hs
 .simp only[PB]at hc;cases hk with
  |v=>simp[PH]at hc
  |str l=>
   cases b with
   |v=>simp[PH]at hc
   |str m=>simp only[PH,Aq2]at hc;simp only[Aq2]at hs;rw[<- hs,<- hc,beq_toListBytes];simp
 .simp only[PB]at hc;cases hk<;>cases b<;>simp only[PH,NE,Aq2]at hc hs<;>exact hs.symm.trans hc
 cases hs
theorem Gn {Pi:Nat->Nat->Prop}{kt:TypeId}{dd:TypeDesc}(d:P.underlying kt=some dd){k:Value}{x:PV}(hk:RepP w Pi k x):∀(es:List (PV×PV)) (ents:List MapEntry) (i:Nat) (r:Option Nat) (q:Option (Nat×Value)),EntL w Pi ents es->DT (PC P kt) x es=some r ->
 Instr.findNow dd k ents i=some q->q=r.map fun j=>(i+j,(ents.getD j default).val)
 |[],ents,i,r,q,he,hf,hn=>by obtain rfl:ents=[]:=Au8 (by simpa using he.1);simp only[DT,Aq2]at hf;simp only[Instr.findNow,Aq2]at hn;subst hf;subst hn;rfl
 |(a,b)::es,[],i,r,q,he,hf,hn=>by simp[EntL]at he
 |(a,b)::es,e::ents,i,r,q,he,hf,hn=>by
  obtain⟨h1,l,g⟩:=he.cons;simp only[DT]at hf;simp only[Instr.findNow]at hn;split at hn
  .rename_i hs;cases hn;split at hf
   .cases hf;simp
   .rename_i c
    have:=Jh d hk h1 c hs;cases this
   cases hf
  .rename_i hs;split at hf
   .rename_i c
    have:=Jh d hk h1 c hs;cases this
   .rw[As8]at hf;obtain⟨r',f,rfl⟩:=hf
    have:=Gn d hk es ents (i+1) r' q g f hn
    rw[this];cases r' with
    |none=>rfl
    |some j=>simp;omega
   cases hf
  cases hn
theorem Dc {Pi:Nat->Nat->Prop}{kt:TypeId}{k:Value}{x:PV}(hk:RepP w Pi k x)(b:IS P kt x=true)(hc:C7 (Ud P kt)){es:List (PV×PV)}{ents:List MapEntry}{r:Option Nat}(c:EntL w Pi ents es)(d:DT (PC P kt) x es=some r) :(Instr.findKey kt k ents).run P w=.ok (r.map fun j=>(j,(ents.getD j default).val)) w:=by
 have a:∃dd,P.underlying kt=some dd:=by
  unfold IS at b;split at b
  .rename_i ht;obtain⟨dd,a,_⟩:=Z4 ht;exact⟨dd,a⟩
  .rename_i ht;obtain⟨dd,a,_⟩:=Z4 ht;exact⟨dd,a⟩
  cases b
 obtain⟨dd,a⟩:=a;cases hn:Instr.findNow dd k ents 0 with
 |some q=>
  have:=Gn a hk es ents 0 r q c d hn
  rw[this]at hn;simp[Instr.findKey,Y4 w a,hn]
 |none=>
  have:=DL hk hc es ents 0 r c d
  simp[Instr.findKey,Y4 w a,hn,this]
theorem NY {Pi:Nat->Nat->Prop}{v:Value}{x:PV}{b:Bool}(h:RepP w Pi v x)(hb:NE x=some b):v=.bool b:=by
 unfold NE at hb;split at hb
 .cases hb;cases h;rfl
 .cases hb;cases h;rfl
 cases hb
theorem PX {Pi:Nat->Nat->Prop}{k:TK}{v u:Value}{x y:PV}(d:RepP w Pi v x)(f:RepP w Pi u y)(c:PH k x y=some true):v=u/\∀n,Instr.sameBits n v u=true:=by
 unfold PH at c;split at c
 .split at c
  .rename_i g;subst g;cases d;cases f;simp only[Aq2,beq_iff_eq]at c;subst c;exact⟨rfl,fun n=>by cases n<;>simp[Instr.sameBits]⟩
  cases c
 .split at c
  .rename_i a b h1 i;simp only[Aq2,beq_iff_eq]at c;subst c;have e1:=NY d h1;have e2:=NY f i;subst e1;subst e2;exact⟨rfl,fun n=>by cases n<;>simp[Instr.sameBits]⟩
  cases c
 .cases d with
  |str l=>
   cases f with
   |str m=>simp only[Aq2,beq_iff_eq]at c;subst c;exact⟨rfl,fun n=>by cases n<;>(simp only[Instr.sameBits];rw[beq_toListBytes];simp)⟩
 cases c
theorem Rv {Pi:Nat->Nat->Prop}:∀{ks:List TK}{xs ys:List PV}(f g:Nat->Value),(∀i,i<xs.length->RepP w Pi (f i) (xs.getD i default))->(∀i,i<ys.length->RepP w Pi (g i) (ys.getD i default))->R5 ks xs ys=some true ->
 xs.length=ys.length/\∀i,i<xs.length->f i=g i/\∀n,Instr.sameBits n (f i) (g i)=true
 |ks,[],ys,f,g,hf,hg,he=>by cases ks<;>cases ys<;>simp[R5]at he⊢
 |[],x::xs,ys,f,g,hf,hg,he=>by simp[R5]at he
 |k::ks,x::xs,[],f,g,hf,hg,he=>by simp[R5]at he
 |k::ks,x::xs,y::ys,f,g,hf,hg,he=>by
  have hx:RepP w Pi (f 0) x:=by simpa using hf 0 (by simp)
  have hy:RepP w Pi (g 0) y:=by simpa using hg 0 (by simp)
  simp only[R5]at he;split at he
  .split at he
   .obtain⟨h1,b⟩:=PX hx hy he;refine⟨rfl,fun i a=>?_⟩;simp only[Av7]at a;obtain rfl:i=0:=by omega
    exact⟨h1,b⟩
   cases he
  split at he
  .rename_i p q hp c;simp only[Aq2,Aq7]at he;obtain⟨rfl,rfl⟩:=he;obtain⟨h1,b⟩:=PX hx hy hp;obtain⟨d,j⟩:=Rv (fun i=>f (i+1)) (fun i=>g (i+1)) (fun i a=>by simpa using hf (i+1) (by simpa using a)) (fun i a=>by simpa using hg (i+1) (by simpa using a)) c;refine⟨by simpa using d,fun i a=>?_⟩;cases i with
   |zero=>exact⟨h1,b⟩
   |succ i=>exact j i (by simpa using a)
  cases he
theorem UO {Pi:Nat->Nat->Prop}{t:TypeId}{v u:Value}{x y:PV}(f:RepP w Pi v x)(g:RepP w Pi u y)(a:PC P t x y=some true):v=u/\Instr.sameBits 10000 v u=true:=by
 unfold PC at a;split at a
 .split at a
  .rename_i ks xs ys hl;cases f with
   |agg vs _ hs _ hr=>
    cases g with
    |agg us _ hs' _ hr'=>
     obtain⟨h1,c⟩:=Rv (fun i=>vs.getD i undef) (fun i=>us.getD i undef) hr hr' a;have e:vs=us:=by
      refine Array.ext (by omega) fun i d b=>?_
      have:=(c i (by omega)).1
      simpa[Aq0,d,b]using this
     subst e;refine⟨rfl,?_⟩
     have:∀n,Instr.sameBits (n+1) (.agg vs) (.agg vs)=true:=by
      intro n;simp only[Instr.sameBits,BEq.rfl,AC6,Ar7];intro p hp;obtain⟨i,d,rfl⟩:=Ay6.1 hp;have b : i<vs.size:=by simpa using d
      have:=(c i (by omega)).2 n
      simpa[Aq0,b]using this
     exact this 9999
  cases a
 .obtain⟨h1,c⟩:=PX f g a;exact⟨h1,c _⟩
 cases a
end
end Go.AM
namespace Go.AM
section
variable {P:Program}{C:Ctx}{st:St}{a:Act}{w:World}{rho:Nat->Value}{o:Oper}{out:Out}{d:Nat}
theorem HP {Pi:Nat->Nat->Prop}{e:TypeId}{z:PV}(b:Lk P e=some z):∃v,(zeroValue e).run P w=.ok v w/\RepP w Pi v z:=by
 unfold Lk at b;split at b
 .rename_i v g;rw[AA9]at g;obtain⟨i,d,f⟩:=g;refine⟨v,YX w d f,?_⟩;split at b
  .rename_i cs;split at b
   .rename_i c;cases b;simp only[AA6,Ar7,Function.comp]at c;refine .agg cs _ (by simp) (fun i d=>?_) fun i d=>?_
    .have a : i<cs.size:=by simpa using d
     have:cs.getD i undef=cs[i]:=by simp[Aq0,a]
     rw[this];exact (M8 w Pi _).cell (c _ (by simp))
    have a : i<cs.size:=by simpa using d
    have:cs.getD i undef=cs[i]:=by simp[Aq0,a]
    rw[this];have e:(cs.toList.map Lj).getD i default=Lj cs[i]:=by simp[a]
    rw[e];exact M8 w Pi _
   cases b
  cases b;exact M8 w Pi _
 cases b
theorem NZ {ents:Array MapEntry}{clock:Nat}{e:MapEntry}(hc:clock=ents.size)(hb:∀i,i<ents.size->(ents.getD i default).born=i)(a:e.born=clock) :clock+1=(ents.push e).size/\∀i,i<(ents.push e).size->((ents.push e).getD i default).born=i:=by
 refine⟨by simp[hc],fun i b=>?_⟩;simp only[Array.size_push]at b;by_cases h:i<ents.size
 .have:=hb i h
  simpa[Aq0,AE3,show i≠ents.size by omega]using this
 obtain rfl:i=ents.size:=by omega
 simp[Aq0,a,hc]
theorem FI {ents:Array MapEntry}{clock j:Nat}{f:MapEntry->MapEntry}(hc:clock=ents.size)(hb:∀i,i<ents.size->(ents.getD i default).born=i)(b:∀e,(f e).born=e.born) :clock=(ents.modify j f).size/\∀i,i<(ents.modify j f).size->((ents.modify j f).getD i default).born=i:=by
 refine⟨by simp[hc],fun i a=>?_⟩;simp only[Array.size_modify]at a
 have:=hb i a
 by_cases h:j=i
 .subst h;simp[Aq0,a,AB9,b]at this⊢;exact this
 simpa[Aq0,Ax9,h]using this
theorem UP (h:Sat C st a w rho){t:TypeId}{m k:Operand}{ok:Bool}(ho:o.op=.lookup t m k ok)(he:aop P st.env st.regs d o.op=some out)(hc:C7 out.cond):OpOk P C o st a w rho out:=by
 rw[ho]at he;simp only[aop]at he;split at he
 .rename_i x R' hv;split at he
  .rename_i c y hl;cases he;obtain⟨h1,h2,h3⟩:=Bo h (h.aev k) hv;have hm:=h3.av (h.aev m);unfold CX at hl;split at hl
   .rename_i kt e ht;have fin:∀(ents:Array MapEntry) (es:List (PV×PV)) (r:Option PV),((a.eval m=.map none/\ents = #[]) \/ ∃r clock,a.eval m=.map (some r)/\w.heap[r]? = some (.map ents clock))->EntL w (Prv C.X (A1 R') rho) ents.toList es->IS P kt x=true->find (PC P kt) x es=some r ->
     (match (some r:Option (Option PV))with
      |some (some x)=>some (Ud P kt,if ok then AV.tup [.p x,.bool true]else .p x)
      |some none=>match Lk P e with
       |some z=>some (Ud P kt,if ok then AV.tup [.p z,.bool false]else .p z)
       |none=>none
      |none=>none)=some (c,y)->OpOk P C o st a w rho ⟨c,y,R'⟩:=by
     intro ents es r hget a0 a1 hf hres;have hcc:C7 (Ud P kt):=by
      cases r with
      |some x=>simp only[Aq2,Ar6]at hres;rw[hres.1];exact hc
      |none=>
       simp only at hres;split at hres
       .simp only[Aq2,Ar6]at hres;rw[hres.1];exact hc
       cases hres
     obtain⟨q,hq,u⟩:=Lw hf;have hfk:=Dc h2 a1 hcc a0 hq;have hck:=FH (b:=ents.isEmpty) a1 h2;have last:∀(v:Value) (b:Bool) (z:PV),RepP w (Prv C.X (A1 R') rho) v z->(Instr.lookup t (a.eval m) (a.eval k) ok).run P w=.ok (if ok then .tuple #[v,.bool b]else v) w->y=(if ok then AV.tup [.p z,.bool b]else .p z)->OpOk P C o st a w rho ⟨c,y,R'⟩:=by
      intro v b z hv hr hy;refine⟨_,_,w,rho,by simp[execOp,ho,hr];rfl,.inl rfl,h1,h3,?_⟩;rw[hy];cases ok
      .exact .p _ _ hv
      refine .tup _ _ rfl fun i hi=>?_;simp only[As6,AA0]at hi
      match i,hi with
      |0,_=>exact .p _ _ hv
      |1,_=>exact .p _ _ (.bb b)
     have hrun:∀(v:Value) (b:Bool),(q.map fun j=>(j,(ents.toList.getD j default).val))=(if b then some (q.getD 0,v)else none)->(b=false->(zeroValue e).run P w=.ok v w)->(Instr.lookup t (a.eval m) (a.eval k) ok).run P w=.ok (if ok then .tuple #[v,.bool b]else v) w:=by
      intro v b hqb hz;unfold Instr.lookup;rcases hget with⟨hm',rfl⟩ | ⟨r,clock,hm',hheap⟩
      .simp only[At7,Y4 w (HO ht),Ar8,hm',Av1,hck,hfk,hqb];cases b
       .simp[hz rfl]
       simp
      have hg:(getObj r).run P w=.ok (.map ents clock) w:=by simp[getObj,Sem.run,hheap]
      simp only[At7,Y4 w (HO ht),Ar8,hm',hg,Av1,hck,hfk,hqb];cases b
      .simp[hz rfl]
      simp
     cases q with
     |none=>
      simp only[AG8]at u;subst u;simp only at hres;split at hres
      .rename_i z hz;simp only[Aq2,Ar6]at hres;obtain⟨v,hv1,hv2⟩:=HP (w:=w) (Pi:=Prv C.X (A1 R') rho) hz;exact last v false z hv2 (hrun v false rfl fun _=>hv1) hres.2.symm
      cases hres
     |some j=>simp only[Ar5]at u;subst u;simp only[Aq2,Ar6]at hres;obtain⟨hj,_⟩:=EL hq;exact last _ true _ (a0.2 j hj).2 (hrun _ true rfl (fun h=>by cases h)) hres.2.symm
    split at hl
    .rename_i x' f;split at f
     .cases f
     .rename_i j l n;split at f
      .rename_i es hj;rw[n]at hm;have hh:=h1.hp.holds j _ hj;obtain⟨b,ents,clock,hr,hb,hs,s,hclk,hborn⟩:=hh;have hmv:a.eval m=.map (some b):=by
        generalize a.eval m=mv at hm;cases hm with
        |mref _ r hl' hr'=>rw[hr]at hr';cases hr';rfl
       exact fin ents es (some x') (.inr ⟨b,clock,hmv,hb⟩) ⟨by simpa using hs,fun i hi=>by simpa using s i hi⟩ l f hl
      cases f
     cases f
    .rename_i g;split at g
     .rename_i l n;rw[n]at hm;exact fin #[] [] none (.inl ⟨hm.toP.toV,rfl⟩) ⟨rfl,fun i hi=>Ng hi (by simp)⟩ l rfl hl
     .rename_i j l n;split at g
      .rename_i es hj;rw[n]at hm;have hh:=h1.hp.holds j _ hj;obtain⟨b,ents,clock,hr,hb,hs,s,hclk,hborn⟩:=hh;have hmv:a.eval m=.map (some b):=by
        generalize a.eval m=mv at hm;cases hm with
        |mref _ r hl' hr'=>rw[hr]at hr';cases hr';rfl
       exact fin ents es none (.inr ⟨b,clock,hmv,hb⟩) ⟨by simpa using hs,fun i hi=>by simpa using s i hi⟩ l g hl
      cases g
     cases g
    cases hl
   cases hl
  cases he
 cases he
theorem Oa (h:Sat C st a w rho){t:TypeId}{m k x:Operand}(ho:o.op=.mapUpdate t m k x)(g:aop P st.env st.regs d o.op=some out)(hc:C7 out.cond):OpOk P C o st a w rho out:=by
 rw[ho]at g;simp only[aop]at g;split at g
 .rename_i kt e j kp ht hm0 hk0;split at g
  .rename_i y R' hv;split at g
   .rename_i es hj;split at g
    .rename_i es' a3 a4;cases g;have a5:=h.aev k;rw[hk0]at a5;obtain⟨h1,h2,h3⟩:=Bo h (h.aev x) hv;have hm:=h3.av (h.aev m);rw[hm0]at hm;have c:=(h3.p a5.toP).nP;obtain⟨b,ents,clock,hr,hb,hs,f,a0,l⟩:=h1.hp.holds j _ hj;have a6:a.eval m=.map (some b):=by
      generalize a.eval m=mv at hm;cases hm with
      |mref _ r hl' hr'=>rw[hr]at hr';cases hr';rfl
     obtain⟨q,hq,hqn,hqs⟩:=NX a4;have a7:EntL w (Prv C.X (A1 R') rho) ents.toList es:=⟨by simpa using hs,fun i u=>by simpa using f i u⟩;have a8:=Dc c a3 hc a7 hq;have a9:=FH (b:=false) a3 c;have hg:(getObj b).run P w=.ok (.map ents clock) w:=by simp[getObj,Sem.run,hb]
     have hlt:b<w.heap.size:=(Ar2.1 hb).1;have a1:∀ob:Go.Obj,(setObj b ob).run P w=.ok () { w with heap:=w.heap.setIfInBounds b ob }:=fun ob=>by simp[setObj,Sem.run,hb]
     obtain⟨ents',clock',b0,b1,b2,n⟩:∃(ents' : Array MapEntry) (clock' : Nat),(Instr.mapUpdate t (a.eval m) (a.eval k) (a.eval x)).run P w=.ok () { w with heap:=w.heap.setIfInBounds b (.map ents' clock') }/\(clock' = ents'.size/\∀i,i<ents'.size->(ents'.getD i default).born=i)/\ents'.size=es'.length /\
      ∀i,i<es'.length->RepP w (Prv C.X (A1 R') rho) (ents'.getD i default).key (es'.getD i default).1/\RepP w (Prv C.X (A1 R') rho) (ents'.getD i default).val (es'.getD i default).2:=by
      cases q with
      |none=>
       have e:=hqn rfl;subst e;refine⟨ents.push { key:=a.eval k,val:=a.eval x,born:=clock },clock+1,?_,NZ a0 l rfl,by simp[hs],fun i u=>?_⟩
       .unfold Instr.mapUpdate;simp only[At7,Y4 w (HO ht),Ar8,a6,hg,a9,a8,AG8,a1]
       simp only[Au6,Av7]at u;by_cases b3 : i<es.length
       .have:=f i b3
        simpa[Aq0,AE3,show i≠ents.size by omega,Aw1 b3]using this
       obtain rfl:i=es.length:=by omega
       have h4:(ents.push { key:=a.eval k,val:=a.eval x,born:=clock }).getD es.length default={ key:=a.eval k,val:=a.eval x,born:=clock }:=by simp[Aq0,<- hs]
       rw[h4];simp only[Aq1,AE4,Ar3];exact⟨c,h2⟩
      |some j'=>
       have e:=hqs j' rfl;subst e;obtain⟨hj',hcmp⟩:=EL hq;have hjs:j' < ents.size:=by omega
       obtain⟨heq,s⟩:=UO c (f j' hj').1 hcmp;have hold:(((ents[j']?).map (·.key)).getD (a.eval k))=(ents.getD j' default).key:=by simp[Aq0,hjs]
       refine⟨ents.modify j' fun e=>{ e with key:=a.eval k,val:=a.eval x },clock,?_,FI a0 l fun _=>rfl,by simp[hs],fun i u=>?_⟩
       .unfold Instr.mapUpdate;have hks:Instr.keyThatStays (((ents[j']?).map (·.key)).getD (a.eval k)) (a.eval k)=(pure (a.eval k):Sem Value):=by rw[hold,<- heq];unfold Instr.keyThatStays;rw[<- heq]at s;rw[Nd s]
        simp only[At7,Y4 w (HO ht),Ar8,a6,hg,a9,a8,Ar5,hks,Av1,a1]
       simp only[AG9]at u;by_cases a2:i=j'
       .subst a2;have h4:((ents.modify i fun e=>{ e with key:=a.eval k,val:=a.eval x }).getD i default)={ (ents[i])with key:=a.eval k,val:=a.eval x }:=by simp[Aq0,hjs,AB9]
        rw[h4];simp only[Aq1,AD0 u,Ar3];exact⟨c,h2⟩
       have h4:((ents.modify j' fun e=>{ e with key:=a.eval k,val:=a.eval x }).getD i default)=ents.getD i default:=by simp[Aq0,Ax9,Aw2 a2]
       rw[h4]
       have:=f i u
       simpa[AE0 (Aw2 a2)]using this
     obtain⟨g1,g2,g3⟩:=h1.modify (o:=.map es) (ob:=.map es') hj (b:=b) (by simp[D2,N0,hr]) (fun _=>trivial) (fun b' z=>by simp[D2,N0,hr]at z;exact z.symm)
      (w':={ w with heap:=w.heap.setIfInBounds b (.map ents' clock') }) (by simp) (fun b' z=>by simp[AA2 (Aw2 z)])
      (fun hk'=>⟨b,ents',clock',hr,by simp[hlt],b2,fun i u=>⟨(n i u).1.keeps hk',(n i u).2.keeps hk'⟩,b1⟩)
     exact⟨_,undef,_,_,by simp[execOp,ho,b0],.inr ⟨rfl,rfl⟩,g1,h3.trans ⟨g2,g3⟩,.p _ _ (.v _)⟩
    cases g
   cases g
  cases g
 cases g
theorem ST {ents:Array MapEntry}(hb:∀i,i<ents.size->(ents.getD i default).born=i){n:Nat}(hn:n<ents.size):ents.findIdx? (fun e=>(e.born:Int)==(n:Int))=some n:=by
 rw[Array.findIdx?_eq_some_iff_getElem];refine⟨hn,?_,fun j a=>?_⟩
 .have:=hb n hn
  simp[Aq0,hn]at this;simp[this]
 have:=hb j (by omega)
 simp[Aq0,show j<ents.size by omega]at this;simp[this];omega
theorem PY (h:Sat C st a w rho){t:TypeId}{m k:Operand}(ho:o.op=.mapEntry t m k)(he:aop P st.env st.regs d o.op=some out)(hc:C7 out.cond):OpOk P C o st a w rho out:=by
 rw[ho]at he;simp only[aop]at he;split at he
 .rename_i kt e j kp ht hm0 hk0;split at he
  .rename_i es z hj hz;split at he
   .rename_i q hko hq;cases he;have hkr:=h.aev k;rw[hk0]at hkr;have hm:=h.aev m;rw[hm0]at hm;have f:=hkr.toP.nP;obtain⟨b,ents,clock,hr,hb,hs,c,s,g⟩:=h.hp.holds j _ hj;have hmv:a.eval m=.map (some b):=by
     generalize a.eval m=mv at hm;cases hm with
     |mref _ r hl' hr'=>rw[hr]at hr';cases hr';rfl
    have hent:EntL w (Prv C.X (A1 st.regs) rho) ents.toList es:=⟨by simpa using hs,fun i l=>by simpa using c i l⟩;have hfk:=Dc f hko hc hent hq;have hck:=FH (b:=false) hko f;have hg:(getObj b).run P w=.ok (.map ents clock) w:=by simp[getObj,Sem.run,hb]
    have hlt:b<w.heap.size:=(Ar2.1 hb).1;have hset:∀ob:Go.Obj,(setObj b ob).run P w=.ok () { w with heap:=w.heap.setIfInBounds b ob }:=fun ob=>by simp[setObj,Sem.run,hb]
    obtain⟨zv,hzr,hzp⟩:=HP (w:=w) (Pi:=Prv C.X (A1 st.regs) rho) hz;obtain⟨ents',clock',old,hrun,hcb',hold',hsz',u⟩:∃(ents' : Array MapEntry) (clock' : Nat) (old:Value),(Instr.mapEntry t (a.eval m) (a.eval k)).run P w=.ok (.tuple #[old,.int .i64 ((ent (nP kp) z es q).1:Nat)]) { w with heap:=w.heap.setIfInBounds b (.map ents' clock') }/\(clock' = ents'.size/\∀i,i<ents'.size->(ents'.getD i default).born=i) /\
     RepP w (Prv C.X (A1 st.regs) rho) old (ent (nP kp) z es q).2.1/\ents'.size=(ent (nP kp) z es q).2.2.length /\
     ∀i,i<(ent (nP kp) z es q).2.2.length->RepP w (Prv C.X (A1 st.regs) rho) (ents'.getD i default).key ((ent (nP kp) z es q).2.2.getD i default).1/\RepP w (Prv C.X (A1 st.regs) rho) (ents'.getD i default).val ((ent (nP kp) z es q).2.2.getD i default).2:=by
     cases q with
     |none=>
      refine⟨ents.push { key:=a.eval k,val:=zv,born:=clock },clock+1,zv,?_,NZ s g rfl,hzp,by simp[ent,hs],fun i l=>?_⟩
      .unfold Instr.mapEntry;simp only[At7,Y4 w (HO ht),Ar8,hmv,hg,hck,hfk,AG8,hset,hzr,Av1,goInt,ent,s,hs]
      simp only[ent,Au6,Av7]at l;by_cases hi' : i<es.length
      .have:=c i hi'
       simpa[ent,Aq0,AE3,show i≠ents.size by omega,Aw1 hi']using this
      obtain rfl:i=es.length:=by omega
      have h4:(ents.push { key:=a.eval k,val:=zv,born:=clock }).getD es.length default={ key:=a.eval k,val:=zv,born:=clock }:=by simp[Aq0,<- hs]
      rw[h4];simp only[ent,Aq1,AE4,Ar3];exact⟨f,hzp⟩
     |some j'=>
      obtain⟨hj',hcmp⟩:=EL hq;have n:j' < ents.size:=by omega
      obtain⟨heq,y⟩:=UO f (c j' hj').1 hcmp;have hold:(((ents[j']?).map (·.key)).getD (a.eval k))=(ents.getD j' default).key:=by simp[Aq0,n]
      have hbj:((ents[j']?).map fun x=>((x.born:Nat):Int)).getD 0=(j' : Int):=by
       have:=g j' n
       simp[Aq0,n]at this;simp[n,this]
      have hval:ents.toList.getD j' default=ents.getD j' default:=by simp[Aq0,Aq1]
      refine⟨ents.modify j' fun e=>{ e with key:=a.eval k },clock,(ents.getD j' default).val,?_,FI s g fun _=>rfl,(c j' hj').2,by simp[ent,hs],fun i l=>?_⟩
      .unfold Instr.mapEntry;have hks:Instr.keyThatStays (((ents[j']?).map (·.key)).getD (a.eval k)) (a.eval k)=(pure (a.eval k):Sem Value):=by rw[hold,<- heq];unfold Instr.keyThatStays;rw[<- heq]at y;rw[Nd y]
       simp only[At7,Y4 w (HO ht),Ar8,hmv,hg,hck,hfk,Ar5,hks,Av1,hset,goInt,ent,hbj,hval]
      simp only[ent,AG9]at l;by_cases hij:i=j'
      .subst hij;have h4:((ents.modify i fun e=>{ e with key:=a.eval k }).getD i default)={ (ents[i])with key:=a.eval k }:=by simp[Aq0,n,AB9]
       have h5:(ents[i]).val=(ents.getD i default).val:=by simp[Aq0,n]
       rw[h4];simp only[ent,Aq1,AD0 l,Ar3];refine⟨f, ?_⟩;rw[h5];simpa using (c i l).2
      have h4:((ents.modify j' fun e=>{ e with key:=a.eval k }).getD i default)=ents.getD i default:=by simp[Aq0,Ax9,Aw2 hij]
      rw[h4]
      have:=c i l
      simpa[ent,AE0 (Aw2 hij)]using this
    obtain⟨g1,g2,g3⟩:=h.modify (o:=.map es) (ob:=.map (ent (nP kp) z es q).2.2) hj (b:=b) (by simp[D2,N0,hr]) (fun _=>trivial) (fun b' hb'=>by simp[D2,N0,hr]at hb';exact hb'.symm)
     (w':={ w with heap:=w.heap.setIfInBounds b (.map ents' clock') }) (by simp) (fun b' hb'=>by simp[AA2 (Aw2 hb')])
     (fun hk'=>⟨b,ents',clock',hr,by simp[hlt],hsz',fun i l=>⟨(u i l).1.keeps hk',(u i l).2.keeps hk'⟩,hcb'⟩)
    refine⟨_,_,_,_,by simp[execOp,ho,hrun];rfl,.inl rfl,g1,⟨g2,g3⟩,.tup _ _ rfl fun i l=>?_⟩;simp only[As6,AA0]at l
    match i,l with
    |0,_=>exact .p _ _ (hold'.keeps g2)
    |1,_=>exact .p _ _ (.v _)
   cases he
  cases he
 cases he
theorem Mw (h:Sat C st a w rho){t:TypeId}{m s x:Operand}(ho:o.op=.entryStore t m s x)(q:aop P st.env st.regs d o.op=some out)(hc:C7 out.cond):OpOk P C o st a w rho out:=by
 rw[ho]at q;simp only[aop]at q;split at q
 .rename_i j sv y R' hm0 hs0 hv;split at q
  .rename_i es hj;cases q;have hsr:=h.aev s;obtain⟨h1,h2,h3⟩:=Bo h (h.aev x) hv;have hm:=h3.av (h.aev m);rw[hm0]at hm;obtain⟨b,ents,clock,hr,hb,hs,l,a1,c⟩:=h1.hp.holds j _ hj;have hmv:a.eval m=.map (some b):=by
    generalize a.eval m=mv at hm;cases hm with
    |mref _ r hl' hr'=>rw[hr]at hr';cases hr';rfl
   have hg:(getObj b).run P w=.ok (.map ents clock) w:=by simp[getObj,Sem.run,hb]
   have hlt:b<w.heap.size:=(Ar2.1 hb).1;have a2:∀ob:Go.Obj,(setObj b ob).run P w=.ok () { w with heap:=w.heap.setIfInBounds b ob }:=fun ob=>by simp[setObj,Sem.run,hb]
   have hc:0<=sv/\sv<(es.length:Int):=hc;obtain⟨c1,c2⟩:=hc;obtain⟨n,rfl⟩:∃n:Nat,sv=(n:Int):=⟨sv.toNat,by omega⟩;have hn:n<es.length:=by omega
   have u : n<ents.size:=by omega
   have hjx:=ST c u;have a3:(Instr.entryStore t (a.eval m) (a.eval s) (a.eval x)).run P w=.ok () { w with heap:=w.heap.setIfInBounds b (.map (ents.modify n fun e=>{ e with val:=a.eval x }) clock) }:=by obtain⟨kk,hkk⟩:=Y5 hsr hs0;unfold Instr.entryStore;simp only[At7,Ar8,hmv,hg,hkk,Go.asInt,asIntOf,Av1,hjx,a2]
   have hst:(setV es (n:Int).toNat y)=es.set n ((es.getD n default).1,y):=by simp[setV]
   rw[hst];have f : ∀i,i<(es.set n ((es.getD n default).1,y)).length->RepP w (Prv C.X (A1 R') rho) ((ents.modify n fun e=>{ e with val:=a.eval x }).getD i default).key ((es.set n ((es.getD n default).1,y)).getD i default).1/\RepP w (Prv C.X (A1 R') rho) ((ents.modify n fun e=>{ e with val:=a.eval x }).getD i default).val ((es.set n ((es.getD n default).1,y)).getD i default).2:=by
    intro i z;simp only[AG9]at z;by_cases a0:i=n
    .subst a0;have h4:((ents.modify i fun e=>{ e with val:=a.eval x }).getD i default)={ (ents[i])with val:=a.eval x }:=by simp[Aq0,u,AB9]
     have h5:(ents[i]).key=(ents.getD i default).key:=by simp[Aq0,u]
     rw[h4];simp only[Aq1,AD0 z,Ar3];refine⟨?_,h2⟩;rw[h5];simpa using (l i z).1
    have h4:((ents.modify n fun e=>{ e with val:=a.eval x }).getD i default)=ents.getD i default:=by simp[Aq0,Ax9,Aw2 a0]
    rw[h4]
    have:=l i z
    simpa[AE0 (Aw2 a0)]using this
   obtain⟨g1,g2,g3⟩:=h1.modify (o:=.map es) (ob:=.map (es.set n ((es.getD n default).1,y))) hj (b:=b) (by simp[D2,N0,hr]) (fun _=>trivial) (fun b' g=>by simp[D2,N0,hr]at g;exact g.symm)
    (w':={ w with heap:=w.heap.setIfInBounds b (.map (ents.modify n fun e=>{ e with val:=a.eval x }) clock) }) (by simp) (fun b' g=>by simp[AA2 (Aw2 g)])
    (fun a4=>⟨b,_,clock,hr,by simp[hlt],by simp[hs],fun i z=>⟨(f i z).1.keeps a4,(f i z).2.keeps a4⟩,FI a1 c fun _=>rfl⟩)
   exact⟨_,undef,_,_,by simp[execOp,ho,a3],.inr ⟨rfl,rfl⟩,g1,h3.trans ⟨g2,g3⟩,.p _ _ (.v _)⟩
  cases q
 cases q
end
end Go.AM
namespace Go.AM
section
variable {C:Ctx}{st:St}{a:Act}{w:World}{rho:Nat->Value}
theorem Sat.re (hs:Sat C st a w rho)(D:Nat->Prop){R' : B5}{rho' : Nat->Value}
 (c:∀j,¬D j->A1 R' j=A1 st.regs j) (d:∀j,Lv (A1 st.regs) j->Lv (A1 R') j/\rho' j=rho j) (q:∀j,¬Lv (A1 st.regs) j->Lv (A1 R') j->1000<=j)
 (t:∀j r b,D j->A1 R' j≠some (.yld r b))
 (f:∀j o b,D j->A1 R' j=some o->D2 (rho' j) o b->∃i oi,D i/\A1 st.regs i=some oi/\D2 (rho i) oi b)
 (l:∀i j oi oj b,D i->D j->A1 R' i=some oi->A1 R' j=some oj->D2 (rho' i) oi b->D2 (rho' j) oj b->i=j)
 (g:∀i oi,D i->A1 st.regs i=some oi->∀off,Gb oi off)
 (y:(∀b off,Prv C.X (A1 R') rho' b off->Prv C.X (A1 st.regs) rho b off)->Keeps w (Prv C.X (A1 st.regs) rho) w (Prv C.X (A1 R') rho')->∀j o,D j->A1 R' j=some o->HoldsO w (Prv C.X (A1 R') rho') (Lv (A1 R')) rho' (rho' j) o) :
 Sat C ⟨st.env,R'⟩ a w rho' /\ ∀b off,Prv C.X (A1 R') rho' b off->Prv C.X (A1 st.regs) rho b off:=by
 have s:∀b off,Prv C.X (A1 R') rho' b off->Prv C.X (A1 st.regs) rho b off:=by
  rintro b off (z|⟨j,o,m,hb,hp⟩)
  .exact .inl z
  by_cases n:D j
  .obtain⟨i,oi,h1,u,h3⟩:=f j o b n m hb;exact .inr ⟨i,oi,u,h3,g i oi h1 u off⟩
  rw[c j n]at m;rw[(d j (by simp[Lv,m])).2]at hb;exact .inr ⟨j,o,m,hb,hp⟩
 exact⟨(hs.step D c d (Aq9 _) q t (fun _ _ _=>rfl) (fun j o b n m hb=>.inl (f j o b n m hb)) l
  (fun i oi b off v n x hb hp hc=>Ng (.inr ⟨i,oi,x,hb,g i oi n x off⟩) hp) (y s)).1,s⟩
end
section
variable {P:Program}{C:Ctx}{st:St}{a:Act}{w:World}{rho:Nat->Value}{o:Oper}{out:Out}{d:Nat}
theorem Bw {regs:B5}{j q:Nat}{o:Obj}(h:Lv (A1 regs) q):Lv (A1 (ins j o regs)) q:=by
 unfold Lv;rw[A3];split
 .rfl
 exact h
theorem Bx {regs:B5}{j q:Nat}{o:Obj}(h:Lv (A1 (ins j o regs)) q):j=q \/ Lv (A1 regs) q:=by
 unfold Lv at h;rw[A3]at h;split at h
 .exact .inl ‹_›
 exact .inr h
theorem Ji {regs:B5}{q:Nat}{o:Obj}(h:A1 regs q=some o):Lv (A1 regs) q:=by unfold Lv;rw[h];rfl
theorem Dd {w:World}{p q:Nat->Nat->Prop}(h:∀b o,q b o->p b o):Keeps w p w q:=fun b o v hp hc=>⟨hc,fun a=>hp (h b o a)⟩
theorem UQ {e:TypeId}{n jr:Nat}{x:Option (Nat×AV)}{Pi Pi' : Nat->Nat->Prop}{live live' : Nat->Prop}{rho' : Nat->Value}{v:Value}(h:HoldsC w Pi live rho v (.fam e n jr x)) :∃c:Array Value,HoldsC w Pi' live' rho' v (.vec e 1 n (fun i=>[.v (c.getD i undef)]) false)/\(∃rv,live jr/\rho jr=.agg rv/\∀i,i<n->(x.map (·.1)≠some i->c.getD i undef=rv.getD i undef)) /\
  ∀i y,x=some (i,y)->0<n->RepA w Pi live rho (c.getD i undef) y:=by
 obtain⟨rv,l1,l2,h⟩:=h;rcases h with⟨h,d⟩ | ⟨b,cap,c,g1,g2,g3,g4,g5,g6,g7⟩
 .exact⟨#[],.inl ⟨h,d⟩,⟨rv,l1,l2,fun i a=>by omega⟩,fun i y _ h=>by omega⟩
 refine⟨c,.inr ⟨b,cap,c,g1,g2,g3,by omega,g5,fun _ _=>rfl,fun i l a hl=>?_⟩,⟨rv,l1,l2,fun i a=>(g6 i a).2⟩,fun i y hx _=>?_⟩
 .obtain rfl:l=0:=by omega
  rw[Av4,Ax1];exact⟨.v _,(g6 i a).1⟩
 subst hx;exact g7
theorem UR (h:Sat C st a w rho){c:Call}(hc:c.callee=.builtin .append)(g:o.op=.call c)(he:aop P st.env st.regs d o.op=some out)(a5:C7 out.cond):OpOk P C o st a w rho out:=by
 by_cases hF:∀s x e m b,c.args.toList=[s,x]->Gd st.regs e m d b (aev st.env s) (aev st.env x)=none
 .exact Ls h hF hc g he a5
 simp only[Classical.not_forall,not_imp]at hF;obtain⟨s,x,e0,m0,b0,a6,hF⟩:=hF;have hJ:∃j l n jr jz y e1 e2,aev st.env s=.vec j/\aev st.env x=.vec l/\A1 st.regs (nid d 0)=none/\A1 st.regs j=some (.fam e1 n jr none)/\A1 st.regs l=some (.fam e2 1 jz (some (0,y))):=by
  unfold Gd at hF;split at hF
  .rename_i j l hs hx;split at hF
   .rename_i e1 n jr e2 jz y h1 h2 h3;exact⟨j,l,n,jr,jz,y,e1,e2,hs,hx,h1,h2,h3⟩
   exact Ng rfl hF
  exact Ng rfl hF
 obtain⟨j,l,n,jr,jz,y,e1,e2,hsv,hxv,hd,hj,hl⟩:=hJ;obtain⟨callee,args,types⟩:=c;simp only at hc;subst hc;rw[g]at he;simp only at a6;simp only[aop,a6]at he;split at he
 .rename_i s' x' t t2 hs' htypes;cases hs';split at he
  .rename_i e k2 ht ht2;split at he
   .rename_i m z hk2 hm hz;have hel:elems st.regs m (.vec l)=none:=by simp only[elems,hl]
    simp only[hsv,hxv,hd,hel]at he;by_cases hzm:z.length=m
    case neg=>rw[show famB P e z m=0 by unfold famB;rw[show (z.length==m)=false by simpa using hzm]]at he;simp[Gd,hd,hj,hl]at he
    rw[show famB P e z m=Bf P e by unfold famB;rw[show (z.length==m)=true by simpa using hzm]]at he;simp only[Gd,hd,hj,hl]at he;split at he
    .rename_i c1 v1 R1 hif;split at hif
     .rename_i hif';obtain⟨⟨⟨he1,he2⟩,hm1,hby⟩,hne⟩:=hif';subst hm1;rw[he1]at hj;rw[he2]at hl;cases hif;cases he;have hzl:z.length=1:=hzm;have a5:C7 [(n+1)*Bf P e<=140737488355328/\n+1<=140737488355328]:=a5;have hnj:nid d 0≠j:=by rintro h;rw[h,hj]at hd;cases hd
      have hnl:nid d 0≠l:=by rintro h;rw[h,hl]at hd;cases hd
      obtain⟨cj,f1,⟨rv,l1,l2,f3⟩,_⟩:=UQ (Pi:=Prv C.X (A1 st.regs) rho) (live:=Lv (A1 st.regs)) (Pi':=fun _ _=>False) (live':=fun _=>False) (rho':=rho) (h.hp.holds j _ hj);obtain⟨cl,k1,_,k3⟩:=UQ (Pi:=Prv C.X (A1 st.regs) rho) (live:=Lv (A1 st.regs)) (Pi':=fun _ _=>False) (live':=fun _=>False) (rho':=rho) (h.hp.holds l _ hl);have k3:=k3 0 y rfl (by omega);obtain⟨R',hR'⟩:∃R' : B5,R' = ins l (.vec e 1 1 (fun i=>[.v (cl.getD i undef)]) false) (ins j (.vec e 1 n (fun i=>[.v (cj.getD i undef)]) false) st.regs):=⟨_,rfl⟩;have a0:∀q,A1 R' q=if l=q then some (.vec e 1 1 (fun i=>[.v (cl.getD i undef)]) false)else if j=q then some (.vec e 1 n (fun i=>[.v (cj.getD i undef)]) false)else A1 st.regs q:=fun q=>by rw[hR',A3,A3]
      have hwas:∀q o b,(q=j \/ q=l)->A1 R' q=some o->D2 (rho q) o b->∃oi,A1 st.regs q=some oi/\D2 (rho q) oi b:=by
       intro q o b f g hb;rw[a0]at g;split at g
       .rename_i h1;subst h1;cases g;exact⟨_,hl,hb⟩
       rename_i h1;obtain rfl:q=j:=f.resolve_right fun h=>h1 h.symm;rw[Nd rfl]at g;cases g;exact⟨_,hj,hb⟩
      obtain⟨h2,h3⟩:=h.re (fun q=>q=j \/ q=l) (R':=R') (rho':=rho)
       (fun q f=>by rw[a0,Nf (fun h=>f (.inr h.symm)),Nf (fun h=>f (.inl h.symm))]) (fun q f=>⟨by rw[hR'];exact Bw (Bw f),rfl⟩)
       (fun q f a4=>by
        rw[hR']at a4;rcases Bx a4 with rfl|a4
        .exact Ng (Ji hl) f
        rcases Bx a4 with rfl|a4
        .exact Ng (Ji hj) f
        exact Ng a4 f)
       (fun q r b f=>by rw[a0];rcases f with rfl|rfl<;>simp[hne,Aw2 hne])
       (fun q o b f g hb=>by obtain⟨oi,h,h'⟩:=hwas q o b f g hb;exact⟨q,oi,f,h,h'⟩)
       (fun q q' o o' b f a4 g ho' hb hb'=>by obtain⟨o1,g1,g2⟩:=hwas q o b f g hb;obtain⟨o2,g3,g4⟩:=hwas q' o' b a4 ho' hb';exact h.hp.sep q q' o1 o2 b g1 g3 g2 g4)
       (fun q o f g off=>by
        rcases f with rfl|rfl
        .rw[hj]at g;cases g;trivial
        rw[hl]at g;cases g;trivial)
       (fun _ hk q o f g=>by
        rw[a0]at g;split at g
        .rename_i h1;subst h1;cases g;rcases k1 with h|⟨b,cap,c,g1,g2,g3,g4,g5,g6,g7⟩
         .exact .inl h
         exact .inr ⟨b,cap,c,g1,g2,g3,g4,g5,g6,fun i l hi hl=>by
          have:=g7 i l hi hl
          obtain rfl:l=0:=by omega
          exact⟨this.1.toV ▸ .v _,this.2⟩⟩
        rename_i h1;obtain rfl:q=j:=f.resolve_right fun h=>h1 h.symm;rw[Nd rfl]at g;cases g;rcases f1 with h|⟨b,cap,c,g1,g2,g3,g4,g5,g6,g7⟩
        .exact .inl h
        exact .inr ⟨b,cap,c,g1,g2,g3,g4,g5,g6,fun i l hi hl=>by
         have:=g7 i l hi hl
         obtain rfl:l=0:=by omega
         exact⟨this.1.toV ▸ .v _,this.2⟩⟩)
      have hd' : A1 R' (nid d 0)=none:=by rw[a0,Nf (Aw2 hnl),Nf (Aw2 hnj)];exact hd
      have hj' : A1 R' j=some (.vec e 1 n (fun i=>[.v (cj.getD i undef)]) false):=by rw[a0,Nf (Aw2 hne),Nd rfl]
      have hl' : A1 R' l=some (.vec e 1 1 (fun i=>[.v (cl.getD i undef)]) false):=by rw[a0,Nd rfl]
      have hop:=Ls (P:=P) (o:=o) (d:=d) (out:=⟨[(n+1)*Bf P e<=140737488355328/\n+1<=140737488355328],.vec (nid d 0),ins (nid d 0) (.vec e 1 (n+1) (BP n (fun i=>[.v (cj.getD i undef)]) fun i=>[.v (cl.getD i undef)]) false) (ins j .dead R')⟩) h2
       (c:=⟨.builtin .append,args,types⟩) (fun s1 x1 e3 m3 b3 hx1=>by rw[a6]at hx1;cases hx1;simp only[hsv,hxv,Gd,hd',hj']) rfl g
       (by rw[g];simp only[aop,a6,htypes,ht,ht2,hk2,hm,hz,hsv,hxv,hd',elems,Mn,hj',hl',Nh,and_self,hzl,hby]) a5
      obtain⟨nx,v,w',rho1,p1,p2,p3,p4,p5⟩:=hop;have u:∀q,Lv (A1 st.regs) q->Lv (A1 R') q:=fun q f=>by rw[hR'];exact Bw (Bw f)
      have hrj:rho1 jr=.agg rv:=(p4.live jr (u jr l1)).2.trans l2;have hx:∃Rz:B5,Rz=ins (nid d 0) (.fam e (n+1) jr (some (n,y))) (ins l .dead (ins j .dead st.regs)):=⟨_,rfl⟩;obtain⟨Rz,hRz⟩:=hx;have hgz:∀q,A1 Rz q=if nid d 0=q then some (.fam e (n+1) jr (some (n,y)))else if l=q then some .dead else if j=q then some .dead else A1 st.regs q:=fun q=>by rw[hRz,A3,A3,A3]
      obtain⟨Ry,hRy⟩:∃Ry:B5,Ry=ins (nid d 0) (.vec e 1 (n+1) (BP n (fun i=>[.v (cj.getD i undef)]) fun i=>[.v (cl.getD i undef)]) false) (ins j .dead R'):=⟨_,rfl⟩;have hgy:∀q,A1 Ry q=if nid d 0=q then some (.vec e 1 (n+1) (BP n (fun i=>[.v (cj.getD i undef)]) fun i=>[.v (cl.getD i undef)]) false)else if j=q then some .dead else if l=q then some (.vec e 1 1 (fun i=>[.v (cl.getD i undef)]) false)else A1 st.regs q:=fun q=>by
       rw[hRy,A3,A3,a0];by_cases h1:nid d 0=q
       .rw[Nd h1,Nd h1]
       rw[Nf h1,Nf h1];by_cases h2:j=q
       .rw[Nd h2,Nd h2]
       rw[Nf h2,Nf h2,Nf h2]
      simp only[<- hRy]at p3 p4 p5;simp only[<- hRz];have hlz:∀q,Lv (A1 Ry) q->Lv (A1 Rz) q:=fun q f=>by
       unfold Lv at f⊢;rw[hgz];rw[hgy]at f;by_cases h1:nid d 0=q
       .rw[Nd h1];rfl
       rw[Nf h1]at f⊢;by_cases h2:l=q
       .rw[Nd h2];rfl
       rw[Nf h2];by_cases h3:j=q
       .rw[Nd h3];rfl
       rw[Nf h3,Nf h2]at f;rw[Nf h3];exact f
      have hlz' : ∀q,Lv (A1 Rz) q->Lv (A1 Ry) q:=fun q f=>by
       unfold Lv at f⊢;rw[hgy];rw[hgz]at f;by_cases h1:nid d 0=q
       .rw[Nd h1];rfl
       rw[Nf h1]at f⊢;by_cases h3:j=q
       .rw[Nd h3];rfl
       rw[Nf h3];by_cases h2:l=q
       .rw[Nd h2];rfl
       rw[Nf h2,Nf h3]at f;rw[Nf h2];exact f
      obtain⟨q2,q3⟩:=p3.re (fun q=>q=nid d 0 \/ q=l) (R':=Rz) (rho':=rho1)
       (fun q f=>by
        show A1 Rz q=A1 Ry q;have a1:¬nid d 0=q:=fun h=>f (.inl h.symm);have a2:¬l=q:=fun h=>f (.inr h.symm);rw[hgz,hgy,Nf a1,Nf a1,Nf a2];by_cases a3:j=q
        .rw[Nd a3,Nd a3]
        rw[Nf a3,Nf a3,Nf a2]) (fun q f=>⟨hlz q f,rfl⟩)
       (fun q f a4=>Ng (hlz' q a4) f)
       (fun q r b f=>by rw[hgz];rcases f with rfl|rfl<;>simp[hnl])
       (fun q o b f g hb=>by
        rw[hgz]at g;split at g
        .rename_i h1;subst h1;cases g;exact⟨_,_,.inl rfl,(hgy (nid d 0)).trans (Nd rfl),hb⟩
        rename_i h1;obtain rfl:q=l:=f.resolve_left fun h=>h1 h.symm;rw[Nd rfl]at g;cases g;cases hb)
       (fun q q' o o' b f a4 g ho' hb hb'=>by
        have key:∀q o,(q=nid d 0 \/ q=l)->A1 Rz q=some o->D2 (rho1 q) o b->q=nid d 0:=by
         intro q o f g hb;rcases f with h1|h1
         .exact h1
         rw[h1,hgz,Nf hnl,Nd rfl]at g;have g:=As9 g;subst g;exact Ng hb (by simp[D2,N0])
        rw[key q o f g hb,key q' o' a4 ho' hb'])
       (fun q o f g off=>by
        replace g:A1 Ry q=some o:=g;rw[hgy]at g;rcases f with h1|h1
        .rw[Nd h1.symm]at g;have g:=As9 g;subst g;trivial
        rw[h1,Nf hnl,Nf hne,Nd rfl]at g;have g:=As9 g;subst g;trivial)
       (fun hpi hk q o f g=>by
        rw[hgz]at g;split at g
        .rename_i h1;subst h1;cases g;refine⟨rv,hlz jr (p4.live jr (u jr l1)).1,hrj,?_⟩;have hh:=p3.hp.holds (nid d 0) _ (by show A1 Ry _=_;rw[hgy,Nd rfl]);rcases hh with⟨_,h0⟩ | ⟨b,cap,c,g1,g2,g3,g4,g5,g6,g7⟩
         .omega
         have hc:∀i,i<n+1->c.getD i undef=(if i<n then cj.getD i undef else cl.getD (i-n) undef)/\(c.getD i undef).oneCell' = true:=by
          intro i hi
          have:=g7 i 0 hi (by omega)
          rw[Av4,Ax1]at this;refine⟨?_,this.2⟩;have h5:=this.1;unfold BP at h5;split at h5
          .rename_i h6;rw[Nd h6];exact h5.toV
          rename_i h6;rw[Nf h6];exact h5.toV
         refine .inr ⟨b,cap,c,g1,g2,g3,by omega,g5,fun i hi=>⟨(hc i hi).2,fun hx=>?_⟩,?_⟩
         .have hin:i<n:=by
           have:i≠n:=fun h=>hx (by rw[h];rfl)
           omega
          rw[(hc i hi).1,Nd hin];exact f3 i hin (by simp)
         show RepA w' _ _ rho1 (c.getD n undef) y;rw[(hc n (by omega)).1,Nf (by omega),Nat.sub_self];exact k3.keeps ((Dd h3).trans (p4.keeps.trans hk)) fun q f=>⟨hlz q (p4.live q (u q f)).1,(p4.live q (u q f)).2⟩
        rename_i h1;obtain rfl:q=l:=f.resolve_left fun h=>h1 h.symm;rw[Nd rfl]at g;cases g;trivial)
      refine⟨nx,v,w',rho1,p1,p2,q2,⟨(Dd h3).trans (p4.keeps.trans (Dd q3)),fun q f=>⟨hlz q (p4.live q (u q f)).1,(p4.live q (u q f)).2⟩⟩,?_⟩;exact p5.keeps (Dd q3) fun q f=>⟨hlz q f,rfl⟩
     cases hif
    cases he
   cases he
  cases he
 cases he
theorem Mx (h:Sat C st a w rho){t:TypeId}{n:Nat}{parts:Array (Nat×Operand)}(s:o.op=.buildSlice t n parts)(he:aop P st.env st.regs d o.op=some out)(hc:C7 out.cond):OpOk P C o st a w rho out:=by
 cases u:Ge st.regs n (parts.toList.map fun q=>(q.1,aev st.env q.2))with
 |none=>exact Fh h u s he hc
 |some p=>
  obtain⟨jz,j⟩:=p;have hJ:∃x e1 k m f r g,parts.toList=[(0,x)]/\aev st.env x=.vec j/\n=1/\A1 st.regs j=some (.vec e1 k m f false)/\A1 st.regs jz=some (.rows r g):=by
   cases hp:parts.toList with
   |nil=>rw[hp]at u;simp[Ge]at u
   |cons p1 ps=>
    obtain⟨i,x⟩:=p1;rw[hp]at u;cases ps with
    |cons p2 ps=>simp[Ge]at u
    |nil=>
     simp only[At4,AB5]at u;unfold Ge at u;split at u
     .rename_i hx;rename_i j1;simp only[Ax8,Ar6,and_true]at hx;obtain⟨rfl,hx⟩:=hx;split at u
      .rename_i h1 h2;split at u
       .rename_i h3;split at u
        .rename_i h4;simp only[Aq2,Ar6]at u;obtain⟨rfl,rfl⟩:=u;exact⟨x,_,_,_,_,_,_,rfl,hx,h4,h1,h3⟩
        cases u
       cases u
      cases u
     cases u
  obtain⟨x,e1,k,m,f,r,g,a0,hx,rfl,hj,hjz⟩:=hJ;rw[s]at he;simp only[aop,u]at he;split at he
  .rename_i e hk hd;split at he
   .rename_i z hsz hz;split at he
    .rename_i hzl;cases he;obtain⟨rv,l2,_⟩:=h.hp.holds jz _ hjz;have hv:=h.aev x;rw[hx]at hv;obtain⟨b0,nn,cap,hV⟩:∃b0 nn cap,a.eval x=.slice b0 nn cap:=by
      generalize a.eval x=V at hv;cases hv with
      |vec j base nn cap hl hr=>exact⟨_,_,_,rfl⟩
     cases x with
     |const c=>cases hx
     |func q=>cases hx
     |global q=>cases hx
     |tmp t0=>
     obtain⟨env',henv⟩:∃env' : Env,env' = ins t0 (.p (.v (.slice b0 nn cap))) st.env:=⟨_,rfl⟩;have h2:Sat C ⟨env',st.regs⟩ a w rho:=⟨h.toSatE,fun q=>by
      show RepA _ _ _ _ _ (get env' q);rw[henv,Ja];split
      .rename_i h1;subst h1;rw[show a.tmps.getD t0 undef=.slice b0 nn cap from hV];exact .p _ _ (.v _)
      exact h.env q,h.pin,h.marks⟩
     have hx' : aev env' (.tmp t0)=.p (.v (.slice b0 nn cap)):=by show get env' t0=_;rw[henv,Ja,Nd rfl]
     obtain⟨Ry,hRy⟩:∃Ry:B5,Ry=ins (nid d 0) (.vec e 1 1 (G7 z [(0,[.v (.slice b0 nn cap)])]) false) st.regs:=⟨_,rfl⟩;have hop:=Fh (P:=P) (o:=o) (d:=d) (st:=⟨env',st.regs⟩) (out:=⟨[CY 1 1 [0] [.v (.slice b0 nn cap)]=true],.vec (nid d 0),Ry⟩) h2
      (by rw[a0];simp only[At4,AB5,hx'];rfl) s
      (by
       rw[s];have h3:Ge st.regs 1 ([(0,Operand.tmp t0)].map fun q=>(q.1,aev env' q.2))=none:=by simp only[At4,AB5,hx'];rfl
       have h4:Cx st.regs ([(0,Operand.tmp t0)].map fun (q:Nat×Operand)=>aev env' q.2)=some ([.v (.slice b0 nn cap)],st.regs):=by simp only[At4,AB5,hx'];rfl
       simp only[aop,a0,h3,hk,hd,h4,hsz,hz];rw[Nd ⟨⟨by omega,by omega⟩,hzl⟩,hRy];rfl)
      (show CY 1 1 [0] [.v (.slice b0 nn cap)]=true from rfl)
     obtain⟨nx,v,w',rho1,p1,p2,p3,p4,p5⟩:=hop;have a1:∀q,A1 Ry q=if nid d 0=q then some (.vec e 1 1 (G7 z [(0,[.v (.slice b0 nn cap)])]) false)else A1 st.regs q:=fun q=>by rw[hRy,A3]
     obtain⟨Rz,hRz⟩:∃Rz:B5,Rz=ins (nid d 0) (.fam e 1 jz (some (0,.vec j))) st.regs:=⟨_,rfl⟩;have a2:∀q,A1 Rz q=if nid d 0=q then some (.fam e 1 jz (some (0,.vec j)))else A1 st.regs q:=fun q=>by rw[hRz,A3]
     simp only[<- hRz];have y:∀q,Lv (A1 Ry) q↔Lv (A1 Rz) q:=fun q=>by
      unfold Lv;rw[a1,a2];split
      .exact⟨fun _=>rfl,fun _=>rfl⟩
      exact Az9
     have hrz:rho1 jz=.agg rv:=(p4.live jz (Ji hjz)).2.trans l2;obtain⟨q2,q3⟩:=p3.re (fun q=>q=nid d 0) (R':=Rz) (rho':=rho1)
      (fun q l=>by show A1 Rz q=A1 Ry q;rw[a2,a1,Nf (fun h=>l h.symm),Nf (fun h=>l h.symm)]) (fun q l=>⟨(y q).1 l,rfl⟩)
      (fun q l hq'=>Ng ((y q).2 hq') l)
      (fun q r b l=>by rw[a2,l,Nd rfl];simp)
      (fun q o b l s hb=>by subst l;rw[a2,Nd rfl]at s;have s:=As9 s;subst s;exact⟨_,_,rfl,(a1 (nid d 0)).trans (Nd rfl),hb⟩)
      (fun q q' o o' b l hq' _ _ _ _=>l.trans hq'.symm)
      (fun q o l s off=>by replace s:A1 Ry q=some o:=s;rw[a1,Nd l.symm]at s;have s:=As9 s;subst s;trivial)
      (fun hpi hk q o l s=>by
       subst l;rw[a2,Nd rfl]at s;have s:=As9 s;subst s;refine⟨rv,(y jz).1 (p4.live jz (Ji hjz)).1,hrz,?_⟩;have hh:=p3.hp.holds (nid d 0) _ (by show A1 Ry _=_;rw[a1,Nd rfl]);rcases hh with⟨_,h0⟩ | ⟨b,cap',c,g1,g2,g3,g4,g5,g6,g7⟩
       .omega
       have h0:=g7 0 0 (by omega) (by omega);refine .inr ⟨b,cap',c,g1,g2,g3,by omega,g5,fun i hi=>?_,?_⟩
       .obtain rfl:i=0:=by omega
        exact⟨h0.2,fun hx=>Ng rfl hx⟩
       show RepA w' _ _ rho1 (c.getD 0 undef) (.vec j);have h1:c.getD 0 undef=.slice b0 nn cap:=RepP.toV h0.1;rw[h1,<- hV];exact hv.keeps (p4.keeps.trans hk) fun q l=>⟨(y q).1 (p4.live q l).1,(p4.live q l).2⟩)
     refine⟨nx,v,w',rho1,p1,p2,⟨q2.toSatE,fun q=>?_,q2.pin,q2.marks⟩,⟨p4.keeps.trans (Dd q3),fun q l=>⟨(y q).1 (p4.live q l).1,(p4.live q l).2⟩⟩,?_⟩
     .exact (h.env q).keeps (p4.keeps.trans (Dd q3)) fun q l=>⟨(y q).1 (p4.live q l).1,(p4.live q l).2⟩
     exact p5.keeps (Dd q3) fun q l=>⟨(y q).1 l,rfl⟩
    cases he
   cases he
  cases he
end
end Go.AM
namespace Go.AM
section
variable {P:Program}{C:Ctx}{st:St}{a:Act}{w:World}{rho:Nat->Value}{o:Oper}{out:Out}{d:Nat}
theorem US (h:Sat C st a w rho)(g:aop P st.env st.regs d o.op=some out)(hc:C7 out.cond):OpOk P C o st a w rho out:=by
 cases j:o.op with
 |move x=>rw[j]at g;simp only[aop,Aq2]at g;subst g;exact UF h (.inl j) rfl rfl
 |assign x=>rw[j]at g;simp only[aop,Aq2]at g;subst g;exact UF h (.inr j) rfl rfl
 |pick c x y=>exact ZN h j g
 |alloc t=>exact WZ h j g
 |box t x=>exact Aj2 h j g
 |build t ps=>exact Xh h j g
 |buildSlice t n ps=>exact Mx h j g hc
 |load t x=>exact ZO h j g hc
 |store t x y=>exact Xa h j g hc
 |nilCheck x=>exact PQ h j g
 |binOp op t x y yt=>exact Xg h j g hc
 |unOp op t x=>exact ZP h j g
 |convert s t x=>exact SR h j g hc
 |makeInterface t x=>exact Iv h j g
 |makeFunc f x y=>
  cases f with
  |func f=>exact PS h j g
  |_=>rw[j]at g;simp[aop]at g
 |makeMap t r=>
  cases r with
  |none=>exact SP h j g
  |some r=>rw[j]at g;simp[aop]at g
 |makeSlice t l c=>exact NV h j g hc
 |slice t x lo hi mx=>
  cases mx with
  |none=>exact Xe h j g hc
  |some r=>rw[j]at g;simp[aop]at g
 |fieldAddr t x f=>exact NO h j g
 |field t x f=>exact Xb h j g hc
 |indexAddr t x i=>exact NR h j g hc
 |index t x i=>exact Xd h j g hc
 |lookup t m k ok=>exact UP h j g hc
 |mapUpdate t m k x=>exact Oa h j g hc
 |mapEntry t m k=>exact PY h j g hc
 |entryStore t m s x=>exact Mw h j g hc
 |extract x i=>exact SO h j g
 |call c=>
  obtain⟨callee,args,types⟩:=c;cases callee with
  |builtin b=>
   cases b with
   |len=>exact Aj3 (c:=⟨.builtin .len,args,types⟩) h rfl j g
   |append=>exact UR (c:=⟨.builtin .append,args,types⟩) h rfl j g hc
   |min=>exact NP (c:=⟨.builtin .min,args,types⟩) h (.inl rfl) j g
   |max=>exact NP (c:=⟨.builtin .max,args,types⟩) h (.inr rfl) j g
   |_=>rw[j]at g;simp[aop]at g
  |_=>rw[j]at g;simp[aop]at g
 |_=>rw[j]at g;simp[aop]at g
end
structure Rel (C:Ctx) (w:World) (O:Nat->Prop) (V:Nat->Nat->Prop):Prop where
 ext:Ext C.w0 w
 size:C.w0.heap.size<=w.heap.size
 same:∀b,b<C.w0.heap.size->¬C.E0 b->w.heap[b]? = C.w0.heap[b]?
 keep:Keeps C.w0 C.Pi0 w (fun b o=>C.X b o \/ V b o)
 own:∀b,O b->C.E0 b \/ C.w0.heap.size<=b
 out:∀b off,O b->¬C.X b off
 lt:∀b,O b->b<w.heap.size
 bnd:∀b off,C.X b off->b<w.heap.size
 vo:∀b o,V b o->O b
def Aj4 (P:Program)(yv:Value)(vs:Array Value)(w:World)(R:Bool->World->Prop):Prop:= ∃l fn tmps assign body,yv=.func (.yield l) #[] #[]/\(Instr.yield l vs).run P w=.ok (.round l fn tmps assign body) w /\ RoundIn Fence.wide 0 P l fn tmps assign body w fun e w'=>∃b:Bool,e=.returned (.bool b)/\R b w'
def Rw (s:String):List Value:=if s == "math/bits.deBruijn64tab" then Lib.deBruijn64tab.map fun n=>.int .u8 (n:Nat)else []
def TabOk (P:Program)(w:World)(Pi:Nat->Nat->Prop):Prop:=∀(g:Nat) (s:Global) (j:Nat) (v:Value),P.globals[g]? = some s->(Rw s.name)[j]? = some v->w.cell? ⟨g,j,none⟩=some v/\¬Pi g j
theorem TabOk.keeps {P:Program}{w w' : World}{Pi Pi' : Nat->Nat->Prop}(h:TabOk P w Pi)(hk:Keeps w Pi w' Pi'):TabOk P w' Pi':=fun g s j v hs a=>hk g j v (h g s j v hs a).2 (h g s j v hs a).1
structure Prot (P:Program) where
 G:Ctx->Prop
 tab:∀C,G C->TabOk P C.w0 C.Pi0
 call:∀(C:Ctx) (w:World) (O:Nat->Prop) (V:Nat->Nat->Prop) (ys:List PV) (rest:List (List PV)) (vs:Array Value),G C->Rel C w O V->C.Y (ys::rest) true->vs.size=ys.length ->
  (∀i,i<ys.length->RepP w (fun b o=>C.X b o \/ V b o) (vs.getD i undef) (ys.getD i default)) ->
  Aj4 P C.yv vs w fun b w'=>∃C',G C' /\ C'.yv=C.yv/\C'.rho0=C.rho0/\C'.Y (if b then rest else []) b/\C'.w0=w' /\ C'.E0=O/\(C'.Pi0=fun b o=>C'.X b o \/ V b o)/\Rel C' w' O V /\
   (∀b,O b->w'.heap[b]? = w.heap[b]?)/\Keeps w (fun b o=>C.X b o \/ V b o) w' (fun b o=>C'.X b o \/ V b o)/\w.heap.size<=w'.heap.size/\Ext w w'
def Prot.triv (P:Program)(C:Ctx)(a:∀r b,¬C.Y r b)(c:TabOk P C.w0 C.Pi0):Prot P:=
 ⟨fun C'=>C' = C,fun C' h=>h ▸ c,fun C' w O V ys rest vs d hR f=>by subst d;exact Ng f (a _ _)⟩
def PZ (l:List Deferred)(b:Nat):Prop:=({ target:=.collected b,args:=#[] }:Deferred)∈l
def PvR (R:B5)(rho:Nat->Value)(b off:Nat):Prop:=∃j o,A1 R j=some o/\D2 (rho j) o b/\Gb o off
def PF (R:B5)(rho:Nat->Value)(l:List Deferred)(b:Nat):Prop:=Own (A1 R) rho b \/ PZ l b
def CallF (P:Program)(f:FuncId)(vs:Array Value)(w:World)(R:Ending->World->Prop):Prop:=
 ∃nx w1,(callFunc f vs).run P w=.ok nx w1/\match nx with
  |.enter f' as=>CallsIn Fence.wide 0 P f' as w1 R
  |.value v=>R (.returned v) w1
  |.row row as=>RowsIn Fence.wide 0 P row as w1 fun v w'=>R (.returned v) w'
  |_=>False
theorem CallF.mono {P:Program}{f:FuncId}{vs:Array Value}{w:World}{R R' : Ending->World->Prop}(h:CallF P f vs w R)(b:∀e w',R e w' -> R' e w'):CallF P f vs w R':=by
 obtain⟨nx,w1,h1,a⟩:=h;refine⟨nx,w1,h1,?_⟩;cases nx with
 |enter f' as=>exact a.mono b
 |value v=>exact b _ _ a
 |row row as=>exact RowsIn.mono a fun v w'=>b _ _
 |_=>exact a
def Xi (w:World)(Pi:Nat->Nat->Prop)(live:Nat->Prop)(rho:Nat->Value)(e:Ending):IU->Prop
 |.ret a=>∃v,e=.returned v/\RepA w Pi live rho v a
 |.panic x=>∃v,e=.panicked [{ v,recovered:=false }]/\RepP w Pi v x
def SemF (P:Program)(f:FuncId)(args:List AV)(objs:List Obj)(Q:IU->List Obj->List Bool->Prop):Prop:= ∀(𝒢 : Prot P) (C:Ctx) (w:World) (vs:Array Value) (rho:Nat->Value),𝒢.G C->Sat C ⟨argEnv args,objRegs objs⟩ ⟨vs,[]⟩ w rho->vs.size=args.length -> CallF P f vs w fun e w'=>∃C' r objs' ks rho', 𝒢.G C' /\ Q r objs' ks/\SatE C' (objRegs objs') w' rho' /\ Xi w' (Prv C'.X (A1 (objRegs objs')) rho') (Lv (A1 (objRegs objs'))) rho' e r/\∀i:Nat,ks[i]? = some true->i<objs'.length/\rho' i=rho i
def semUp (st:St)(K:St->Prop):Prop:=∀C a w rho,Sat C st a w rho->∃st' rho',K st' /\ (∀b off,Prv C.X (A1 st'.regs) rho' b off->Prv C.X (A1 st.regs) rho b off)/\Sat C st' a w rho'
def BR (P:Program):U6:=⟨SemF P,semUp⟩
end Go.AM
namespace Go.AM
section
variable {w w' : World}{Pi Pi' : Nat->Nat->Prop}{live live' : Nat->Prop}{rho rho' : Nat->Value}
theorem J0:∀{ids:List Nat}{j p:Nat},idx ids j=some p->ids[p]? = some j
 |[],j,p,h=>by simp[idx]at h
 |i::r,j,p,h=>by
  simp only[idx]at h;split at h
  .rename_i e;cases h;simp[e]
  split at h
  .rename_i n hn;cases h;simpa using J0 hn
  cases h
theorem AF {ids:List Nat}:∀{l l' : List AV},Bi ids l=some l' -> l.length=l'.length/\∀i,i<l.length->NC ids (l.getD i .top)=some (l'.getD i .top)
 |[],l',h=>by simp only[Bi,Aq2]at h;subst h;exact⟨rfl,fun i b=>Ng b (by simp)⟩
 |a::r,l',h=>by
  simp only[Bi]at h;split at h
  .rename_i a' r' ha c;cases h;obtain⟨h1,d⟩:=AF c;refine⟨by simp[h1],fun i b=>?_⟩;cases i with
   |zero=>simpa using ha
   |succ i=>simpa using d i (by simpa using b)
  cases h
theorem Lx {ids:List Nat}:∀{l:List AV},unL ids l=l.map (unA ids)
 |[]=>rfl
 |a::r=>by simp only[unL,At4,Lx]
theorem RepA.ren {ids:List Nat}(hk:Keeps w Pi w' Pi')(g:∀p j,ids[p]? = some j->live j->live' p/\rho' p=rho j){v:Value}{a:AV}(h:RepA w Pi live rho v a):∀{a' : AV},NC ids a=some a' -> RepA w' Pi' live' rho' v a':=by
 induction h with
 |p v x h=>intro a' c;simp only[NC,Aq2]at c;subst c;exact .p _ _ (h.nP.keeps hk)
 |reg j off b hl h=>
  intro a' c;simp only[NC]at c;split at c
  .rename_i p hp;cases c;obtain⟨h1,d⟩:=g p j (J0 hp) hl;exact .reg p off b h1 (d.trans h)
  cases c
 |vec j base n cap hl h=>
  intro a' c;simp only[NC]at c;split at c
  .rename_i p hp;cases c;obtain⟨h1,d⟩:=g p j (J0 hp) hl;exact .vec p base n cap h1 (d.trans h)
  cases c
 |vecp j m base n cap hl h hm=>
  intro a' c;simp only[NC]at c;split at c
  .rename_i p hp;cases c;obtain⟨h1,d⟩:=g p j (J0 hp) hl;exact .vecp p m base n cap h1 (d.trans h) hm
  cases c
 |elt j k i off b n cap hl h=>
  intro a' c;simp only[NC]at c;split at c
  .rename_i p hp;cases c;obtain⟨h1,d⟩:=g p j (J0 hp) hl;exact .elt p k i off b n cap h1 (d.trans h)
  cases c
 |mref j r hl h=>
  intro a' c;simp only[NC]at c;split at c
  .rename_i p hp;cases c;obtain⟨h1,d⟩:=g p j (J0 hp) hl;exact .mref p r h1 (d.trans h)
  cases c
 |clo f x y a b hx hy ha hb iha ihb=>
  intro a' c;simp only[NC]at c;split at c
  .rename_i a2 b2 h1 d;cases c;obtain⟨l1,g1⟩:=AF h1;obtain⟨l2,g2⟩:=AF d;exact .clo f x y a2 b2 (hx.trans l1) (hy.trans l2) (fun i o=>iha i (by omega) (g1 i (by omega))) fun i o=>ihb i (by omega) (g2 i (by omega))
  cases c
 |tup x a hx ha ih=>
  intro a' c;simp only[NC]at c;split at c
  .rename_i a2 h1;cases c;obtain⟨l1,g1⟩:=AF h1;exact .tup x a2 (hx.trans l1) fun i o=>ih i (by omega) (g1 i (by omega))
  cases c
 |agr x a hx h1' ha ih=>
  intro a' c;simp only[NC]at c;split at c
  .rename_i a2 h1;cases c;obtain⟨l1,g1⟩:=AF h1;exact .agr x a2 (hx.trans l1) (fun i o=>h1' i (by omega)) fun i o=>ih i (by omega) (g1 i (by omega))
  cases c
 |yf j l hl h=>
  intro a' c;simp only[NC]at c;split at c
  .rename_i p hp;cases c;obtain⟨h1,d⟩:=g p j (J0 hp) hl;exact .yf p l h1 (d.trans h)
  cases c
 |top v=>intro a' c;simp only[NC,Aq2]at c;subst c;exact .top _
theorem RepA.un {ids:List Nat}(hk:Keeps w Pi w' Pi')(o:∀p,live p->live' (ids.getD p 0)/\rho' (ids.getD p 0)=rho p){v:Value}{a:AV}(h:RepA w Pi live rho v a):RepA w' Pi' live' rho' v (unA ids a):=by
 induction h with
 |p v x h=>exact .p _ _ (h.keeps hk)
 |reg j off b hl h=>obtain⟨h1,d⟩:=o j hl;exact .reg _ off b h1 (d.trans h)
 |vec j base n cap hl h=>obtain⟨h1,d⟩:=o j hl;exact .vec _ base n cap h1 (d.trans h)
 |vecp j m base n cap hl h hm=>obtain⟨h1,d⟩:=o j hl;exact .vecp _ m base n cap h1 (d.trans h) hm
 |elt j k i off b n cap hl h=>obtain⟨h1,d⟩:=o j hl;exact .elt _ k i off b n cap h1 (d.trans h)
 |mref j r hl h=>obtain⟨h1,d⟩:=o j hl;exact .mref _ r h1 (d.trans h)
 |clo f x y a b hx hy ha hb iha ihb=>
  simp only[unA,Lx];refine .clo f x y _ _ (by simpa using hx) (by simpa using hy) (fun i g=>?_) fun i g=>?_
  .have c : i<a.length:=by simpa using g
   have:=iha i c
   simpa[Aq1,Aq8,Aq4 c]using this
  have c : i<b.length:=by simpa using g
  have:=ihb i c
  simpa[Aq1,Aq8,Aq4 c]using this
 |tup x a hx ha ih=>
  simp only[unA,Lx];refine .tup x _ (by simpa using hx) fun i g=>?_;have c : i<a.length:=by simpa using g
  have:=ih i c
  simpa[Aq1,Aq8,Aq4 c]using this
 |agr x a hx h1' ha ih=>
  simp only[unA,Lx];refine .agr x _ (by simpa using hx) (fun i g=>h1' i (by simpa using g)) fun i g=>?_;have c : i<a.length:=by simpa using g
  have:=ih i c
  simpa[Aq1,Aq8,Aq4 c]using this
 |yf j l hl h=>obtain⟨h1,d⟩:=o j hl;exact .yf _ l h1 (d.trans h)
 |top v=>exact .top v
theorem HoldsO.ren {ids:List Nat}(hk:Keeps w Pi w' Pi')(u:∀p j,ids[p]? = some j->live j->live' p/\rho' p=rho j){h:Value}{o o' : Obj}(hb:∀b,D2 h o b->w'.heap[b]? = w.heap[b]?)(a:Mp ids o=some o')(q:HoldsO w Pi live rho h o):HoldsO w' Pi' live' rho' h o':=by
 cases o with
 |cells cs=>
  simp only[Mp]at a;split at a
  .rename_i cs' s;cases a;obtain⟨l1,g1⟩:=AF s;obtain⟨b,c,T,rfl,h1,l,d⟩:=q;exact⟨b,c,T,rfl,(hb b rfl).trans h1,l.trans l1,fun i m=>⟨(d i (by omega)).1.ren hk u (g1 i (by omega)),(d i (by omega)).2⟩⟩
  cases a
 |vec e k n f vw=>
  simp only[Mp,Aq2]at a;subst a;rcases q with hn|⟨b,cap,c,rfl,h1,l,d,v,y,z⟩
  .exact .inl hn
  exact .inr ⟨b,cap,c,rfl,(hb b rfl).trans h1,l,d,v,y,fun i j m t=>⟨(z i j m t).1.keeps hk,(z i j m t).2⟩⟩
 |map es=>simp only[Mp,Aq2]at a;subst a;obtain⟨b,ents,clock,rfl,h1,l,d,h9⟩:=q;exact⟨b,ents,clock,rfl,(hb b rfl).trans h1,l,fun i m=>⟨(d i m).1.keeps hk,(d i m).2.keeps hk⟩,h9⟩
 |arr n f=>simp only[Mp,Aq2]at a;subst a;obtain⟨b,c,T,rfl,h1,l,d⟩:=q;exact⟨b,c,T,rfl,(hb b rfl).trans h1,l,fun i m=>⟨(d i m).1.keeps hk,(d i m).2⟩⟩
 |ghost cs=>
  simp only[Mp]at a;split at a
  .rename_i cs' s;cases a;obtain⟨l1,g1⟩:=AF s;obtain⟨vs,rfl,h1,l⟩:=q;exact⟨vs,rfl,h1.trans l1,fun i m=>(l i (by omega)).ren hk u (g1 i (by omega))⟩
  cases a
 |yld r b=>simp only[Mp,Aq2]at a;subst a;exact q
 |dead=>simp only[Mp,Aq2]at a;subst a;trivial
 |fam e n jr x=>
  simp only[Mp]at a;split at a
  .rename_i jr' t;cases a;obtain⟨rv,g1,g2,hv⟩:=q;obtain⟨g3,g4⟩:=u _ _ (J0 t) g1;refine⟨rv,g3,g4.trans g2,?_⟩;rcases hv with hv|⟨b,cap,c,rfl,h1,l,d,v,y,z⟩
   .exact .inl hv
   exact .inr ⟨b,cap,c,rfl,(hb b rfl).trans h1,l,d,v,y,trivial⟩
  cases a
 |rows n g=>simp only[Mp,Aq2]at a;subst a;exact EI hk hb q
theorem T0 {ids:List Nat}{h:Value}{o o' : Obj}(a:Mp ids o=some o'):D2 h o' = D2 h o:=by
 cases o<;>simp only[Mp]at a
 case fam=>split at a<;>cases a;rfl
 case cells=>split at a<;>cases a;rfl
 case ghost=>split at a<;>cases a;rfl
 all_goals (cases a;rfl)
theorem Gp {ids:List Nat}{o o' : Obj}(a:Mp ids o=some o')(off:Nat):Gb o' off↔Gb o off:=by
 cases o<;>simp only[Mp]at a
 case fam=>split at a<;>cases a;exact Az9
 case cells=>split at a<;>cases a;exact Az9
 case ghost=>split at a<;>cases a;exact Az9
 all_goals (cases a;exact Az9)
theorem HoldsO.un {ids:List Nat}(hk:Keeps w Pi w' Pi')(t:∀p,live p->live' (ids.getD p 0)/\rho' (ids.getD p 0)=rho p){h:Value}{o:Obj}(hb:∀b,D2 h o b->w'.heap[b]? = w.heap[b]?)(s:HoldsO w Pi live rho h o):HoldsO w' Pi' live' rho' h (unO ids o):=by
 cases o with
 |cells cs=>
  obtain⟨b,c,T,rfl,h1,l,a⟩:=s;simp only[unO,Lx];refine⟨b,c,T,rfl,(hb b rfl).trans h1,by simpa using l,fun i m=>?_⟩;have d : i<cs.length:=by simpa using m
  refine⟨?_,(a i d).2⟩
  have:=(a i d).1.un hk t
  simpa[Aq1,Aq8,Aq4 d]using this
 |vec e k n f vw=>
  rcases s with hn|⟨b,cap,c,rfl,h1,l,a,u,v,y⟩
  .exact .inl hn
  exact .inr ⟨b,cap,c,rfl,(hb b rfl).trans h1,l,a,u,v,fun i j m hj=>⟨(y i j m hj).1.keeps hk,(y i j m hj).2⟩⟩
 |map es=>obtain⟨b,ents,clock,rfl,h1,l,a,h9⟩:=s;exact⟨b,ents,clock,rfl,(hb b rfl).trans h1,l,fun i m=>⟨(a i m).1.keeps hk,(a i m).2.keeps hk⟩,h9⟩
 |arr n f=>obtain⟨b,c,T,rfl,h1,l,a⟩:=s;exact⟨b,c,T,rfl,(hb b rfl).trans h1,l,fun i m=>⟨(a i m).1.keeps hk,(a i m).2⟩⟩
 |ghost cs=>
  obtain⟨vs,rfl,h1,l⟩:=s;simp only[unO,Lx];refine⟨vs,rfl,by simpa using h1,fun i m=>?_⟩;have d : i<cs.length:=by simpa using m
  have:=(l i d).un hk t
  simpa[Aq1,Aq8,Aq4 d]using this
 |yld r b=>exact s
 |dead=>trivial
 |fam e n jr x=>
  obtain⟨rv,g1,g2,z⟩:=s;obtain⟨g3,g4⟩:=t _ g1;refine⟨rv,g3,g4.trans g2,?_⟩;rcases z with z|⟨b,cap,c,rfl,h1,l,a,u,v,y⟩
  .exact .inl z
  cases x with
  |none=>exact .inr ⟨b,cap,c,rfl,(hb b rfl).trans h1,l,a,u,v,trivial⟩
  |some q=>exact .inr ⟨b,cap,c,rfl,(hb b rfl).trans h1,l,a,u,v,y.un hk t⟩
 |rows n g=>exact EI hk hb s
theorem My {ids:List Nat}{h:Value}{o:Obj}:D2 h (unO ids o)=D2 h o:=by cases o<;>rfl
theorem UT {ids:List Nat}{o:Obj}(off:Nat):Gb (unO ids o) off↔Gb o off:=by cases o<;>exact Az9
theorem B9 (objs:List Obj)(j:Nat):A1 (objRegs objs) j=objs[j]?:=by
 have a:∀(objs:List Obj) (n:Nat) (acc:B5),A1 (objRegs.go n objs acc) j=if n<=j/\j<n+objs.length then objs[j-n]? else A1 acc j:=by
  intro objs
  induction objs with
  |nil=>intro n acc;simp[objRegs.go];intro h1 b;omega
  |cons o r ih=>
   intro n acc;simp only[objRegs.go,ih,A1,As6];by_cases h:n=j
   .subst h;rw[Nf (by omega),Nd rfl,Nd ⟨by omega,by omega⟩];simp
   by_cases h1:n+1<=j/\j<n+1+r.length
   .rw[Nd h1,Nd ⟨by omega,by omega⟩];obtain⟨i,rfl⟩:∃i,j=n+1+i:=⟨j-(n+1),by omega⟩;rw[show n+1+i-(n+1)=i by omega,show n+1+i-n=i+1 by omega];simp
   rw[Nf h1,Nf h,Nf (by omega)]
 unfold objRegs;rw[a];by_cases h:j<objs.length
 .rw[Nd ⟨by omega,by omega⟩];simp
 rw[Nf (by omega),Au2 (by omega)];rfl
theorem T1 (args:List AV)(j:Nat):get (argEnv args) j=args.getD j .top:=by
 have a:∀(objs:List AV) (n:Nat) (acc:Env),get (argEnv.go n objs acc) j=if n<=j/\j<n+objs.length then objs.getD (j-n) .top else get acc j:=by
  intro objs
  induction objs with
  |nil=>intro n acc;simp[argEnv.go];intro h1 b;omega
  |cons o r ih=>
   intro n acc;simp only[argEnv.go,ih,get,As6];by_cases h:n=j
   .subst h;rw[Nf (by omega),Nd rfl,Nd ⟨by omega,by omega⟩];simp
   by_cases h1:n+1<=j/\j<n+1+r.length
   .rw[Nd h1,Nd ⟨by omega,by omega⟩];obtain⟨i,rfl⟩:∃i,j=n+1+i:=⟨j-(n+1),by omega⟩;rw[show n+1+i-(n+1)=i by omega,show n+1+i-n=i+1 by omega];simp
   rw[Nf h1,Nf h,Nf (by omega)]
 unfold argEnv;rw[a];by_cases h:j<args.length
 .rw[Nd ⟨by omega,by omega⟩];simp
 rw[Nf (by omega)];simp[get,Aq1,Au2 (show args.length<=j by omega)]
theorem T2 {ids:List Nat}{regs:B5}:∀{l:List Nat}{objs:List Obj},I5 ids regs l=some objs->objs.length=l.length/\∀(p j:Nat),l[p]? = some j->∃o o',A1 regs j=some o/\Mp ids o=some o' /\ objs[p]? = some o'
 |[],objs,h=>by simp only[I5,Aq2]at h;subst h;exact⟨rfl,fun p j hp=>by simp at hp⟩
 |j::l,objs,h=>by
  simp only[I5]at h;split at h
  .rename_i o a;split at h
   .rename_i o' l' h1 b;cases h;obtain⟨c,d⟩:=T2 b;refine⟨by simp[c],fun p i hp=>?_⟩;cases p with
    |zero=>simp only[Aw3,Aq2]at hp;subst hp;exact⟨o,o',a,h1,by simp⟩
    |succ p=>simpa using d p i (by simpa using hp)
   cases h
  cases h
theorem At:∀{l:List Nat},F3 l=true->l.Nodup
 |[],_=>Ay9
 |a::r,h=>by simp only[F3,Aq7,At3,Au1,decide_eq_false_iff_not]at h;exact Aw0.2 ⟨h.1,At h.2⟩
theorem CC:∀{l:List Nat}(h:l.Nodup) {p q j:Nat}(hp:l[p]? = some j) (b:l[q]? = some j),p=q
 |[],h,p,q,j,hp,b=>by simp at hp
 |a::l,h,p,q,j,hp,b=>by
  obtain⟨h1,c⟩:=Aw0.1 h;cases p with
  |zero=>
   cases q with
   |zero=>rfl
   |succ q=>simp only[Aw3,Aq2]at hp;simp only[AC7]at b;subst hp;exact Ng (As4 b) h1
  |succ p=>
   cases q with
   |zero=>simp only[Aw3,Aq2]at b;simp only[AC7]at hp;subst b;exact Ng (As4 hp) h1
   |succ q=>exact congrArg (· + 1) (CC (j:=j) c (by simpa using hp) (by simpa using b))
theorem Ly:∀{l:List Obj},CA l=true->∀(p:Nat) (r:List (List PV)) (b:Bool),l[p]? ≠ some (.yld r b)
 |[],_,p,r,b=>by simp
 |o::l,h,p,r,b=>by
  cases p with
  |zero=>intro a;simp only[Aw3,Aq2]at a;subst a;simp[CA]at h
  |succ p=>simp only[AC7];exact Ly (by cases o<;>simp[CA]at h<;>exact h) p r b
end
end Go.AM
namespace Go.AM
def Ag6 (C:Ctx)(R:B5)(rho:Nat->Value)(ids:List Nat)(b off:Nat):Prop:= C.X b off \/ ∃j o,j ∉ ids/\A1 R j=some o/\D2 (rho j) o b/\Gb o off
def Ctx.callee (C:Ctx)(R:B5)(w:World)(rho:Nat->Value)(ids:List Nat):Ctx where
 X:=Ag6 C R rho ids
 w0:=w
 E0:=fun b=>∃j o,j∈ids/\A1 R j=some o/\D2 (rho j) o b
 Pi0:=Prv C.X (A1 R) rho
 rho0:=fun p=>rho (ids.getD p 0)
 Y:=fun _ _=>False
 yv:=C.yv
section
variable {P:Program}{C:Ctx}{st:St}{a:Act}{w:World}{rho:Nat->Value}
theorem AZ {ids:List Nat}{p j:Nat}(h:ids[p]? = some j):ids.getD p 0=j:=by simp[Aq1,h]
theorem Lz {R:B5}{ids:List Nat}{objs:List Obj}(g:I5 ids R ids=some objs)(b off:Nat) :Prv (Ag6 C R rho ids) (A1 (objRegs objs)) (fun p=>rho (ids.getD p 0)) b off↔Prv C.X (A1 R) rho b off:=by
 obtain⟨hl,m⟩:=T2 g;constructor
 .rintro ((i|⟨j,o,_,d,hb,hp⟩)|⟨p,o',hp,hb,l⟩)
  .exact .inl i
  .exact .inr ⟨j,o,d,hb,hp⟩
  rw[B9]at hp;have a:p<ids.length:=by rw[<- hl];exact (Ar4.1 hp).1
  obtain⟨o,o2,h1,c,f⟩:=m p _ (Aq4 a);rw[hp]at f;cases f;simp only[AZ (Aq4 a),T0 c]at hb;exact .inr ⟨_,o,h1,hb,(Gp c off).1 l⟩
 rintro (i|⟨j,o,d,hb,hp⟩)
 .exact .inl (.inl i)
 by_cases hm:j∈ids
 .obtain⟨p,a,rfl⟩:=Ay6.1 hm;obtain⟨o1,o2,h1,c,f⟩:=m p _ (Aq4 a);rw[d]at h1;cases h1;refine .inr ⟨p,o2,by rw[B9];exact f,?_,(Gp c off).2 hp⟩;simp only[AZ (Aq4 a),T0 c];exact hb
 exact .inl (.inr ⟨j,o,hm,d,hb,hp⟩)
theorem Ea (h:Sat C st a w rho){ids:List Nat}{objs:List Obj}{as args:List AV}{vs:Array Value}(hd:F3 ids=true)(s:I5 ids st.regs ids=some objs)(hny:CA objs=true)(u:True)
 (hr:Bi ids as=some args) (hvs:vs.size=as.length) (hv:∀i,i<as.length->RS C st w rho (vs.getD i undef) (as.getD i .top)) :
 Sat (C.callee st.regs w rho ids) ⟨argEnv args,objRegs objs⟩ ⟨vs,[]⟩ w (fun p=>rho (ids.getD p 0)):=by
 obtain⟨hl,hg⟩:=T2 s;have x:=At hd;have hpi:=Lz (C:=C) (rho:=rho) s;have hk:Keeps w (Prv C.X (A1 st.regs) rho) w (Prv (Ag6 C st.regs rho ids) (A1 (objRegs objs)) (fun p=>rho (ids.getD p 0))):=
  fun b o v hp hc=>⟨hc,fun hp'=>hp ((hpi b o).1 hp')⟩
 have c:∀p o',A1 (objRegs objs) p=some o' -> ∃j o,ids[p]? = some j/\A1 st.regs j=some o/\Mp ids o=some o' /\ rho (ids.getD p 0)=rho j:=by
  intro p o' hp;rw[B9]at hp;have m:p<ids.length:=by rw[<- hl];exact (Ar4.1 hp).1
  obtain⟨o,o2,h1,f,g⟩:=hg p _ (Aq4 m);rw[hp]at g;cases g;exact⟨_,o,Aq4 m,h1,f,by rw[AZ (Aq4 m)]⟩
 have l:∀p j,ids[p]? = some j->Lv (A1 st.regs) j->Lv (A1 (objRegs objs)) p/\rho (ids.getD p 0)=rho j:=by intro p j hp _;obtain⟨o,o2,h1,f,g⟩:=hg p j hp;exact⟨by simp[Lv,B9,g],by rw[AZ hp]⟩
 refine⟨⟨⟨?_,?_,?_,?_⟩,Ext.refl _,Aq9 _,fun b _ _=>rfl,hk,?_,?_⟩,?_,fun j _ _=>rfl,Ay9,fun d hd=>by simp at hd⟩
 .intro p o' hp;obtain⟨j,o,h1,f,g,n⟩:=c p o' hp;show HoldsO w _ _ _ (rho (ids.getD p 0)) o';rw[n];exact (h.hp.holds j o f).ren hk l (fun b _=>rfl) g
 .intro p q op oq b hp hq y z;obtain⟨j,o,h1,f,g,n⟩:=c p op hp;obtain⟨j',o',h1',h2',h3',h4'⟩:=c q oq hq;simp only[n,h4',T0 g,T0 h3']at y z
  have:=h.hp.sep j j' o o' b f h2' y z
  subst this;exact CC x h1 h1'
 .intro p o' b off hp hb hX;obtain⟨j,o,h1,f,g,n⟩:=c p o' hp;simp only[n,T0 g]at hb;rcases hX with hX|⟨j',o2,hj',h5,h6,_⟩
  .exact h.hp.out j o b off f hb hX
  have:=h.hp.sep j j' o o2 b f h5 hb h6
  subst this;exact hj' (As4 h1)
 .rintro b off (hX|⟨j,o,_,hj,hb,_⟩)
  .exact h.hp.bound b off hX
  exact (h.hp.holds j o hj).lt hb
 .rintro b ⟨p,o',hp,hb⟩;obtain⟨j,o,h1,f,g,n⟩:=c p o' hp;simp only[n,T0 g]at hb;exact .inl ⟨j,o,As4 h1,f,hb⟩
 .intro p r b hp;rw[B9]at hp;exact Ng hp (Ly hny p r b)
 intro t;show RepA w _ _ _ (vs.getD t undef) (get (argEnv args) t);rw[T1];obtain⟨h1,f⟩:=AF hr;by_cases ht:t<as.length
 .exact (hv t ht).ren hk l (f t ht)
 rw[Aq1,Au2 (by omega)];exact .top _
theorem Rx (all:List Nat)(j:Nat):∀(ids:List Nat) (objs:List Obj) (regs:B5),ids.Nodup->ids.length=objs.length ->
 A1 (PI all ids objs regs) j=match idx ids j with
  |some p=>(objs[p]?).map (unO all)
  |none=>A1 regs j
 |[],objs,regs,_,hl=>by
  cases objs with
  |nil=>rfl
  |cons=>simp at hl
 |i::ids,[],regs,_,hl=>by simp at hl
 |i::ids,o::objs,regs,hn,hl=>by
  obtain⟨h1,a⟩:=Aw0.1 hn;simp only[PI];rw[Rx all j ids objs _ a (by simpa using hl)];simp only[idx];by_cases e:i=j
  .subst e
   have:idx ids i=none:=by
    cases hx:idx ids i with
    |none=>rfl
    |some p=>exact Ng (As4 (J0 hx)) h1
   simp[this,A3]
  simp only[e,Ni];cases hx:idx ids j with
  |none=>simp[A3,e]
  |some p=>simp
theorem CD (j:Nat):∀(ids:List Nat) (ks:List Bool) (regs:B5),ids.Nodup ->
 A1 (K7 ids ks regs) j=match idx ids j with
  |some p=>if ks[p]? = some true then A1 regs j else some .dead
  |none=>A1 regs j
 |[],ks,regs,_=>by cases ks<;>rfl
 |i::ids,[],regs,hn=>by
  obtain⟨h1,b⟩:=Aw0.1 hn;simp only[K7];rw[CD j ids [] _ b];simp only[idx];by_cases e:i=j
  .subst e
   have:idx ids i=none:=by
    cases hx:idx ids i with
    |none=>rfl
    |some p=>exact Ng (As4 (J0 hx)) h1
   simp[this,A3]
  simp only[e,Ni];cases hx:idx ids j with
  |none=>simp[A3,e]
  |some p=>simp
 |i::ids,k::ks,regs,hn=>by
  obtain⟨h1,b⟩:=Aw0.1 hn;simp only[K7];have a:idx ids i=none:=by
   cases hx:idx ids i with
   |none=>rfl
   |some p=>exact Ng (As4 (J0 hx)) h1
  by_cases hk:k=true
  .rw[Nd hk,CD j ids ks _ b];simp only[idx];by_cases e:i=j
   .subst e;simp[a,hk]
   simp only[e,Ni];cases hx:idx ids j with
   |none=>rfl
   |some p=>simp
  rw[Nf hk,CD j ids ks _ b];simp only[idx];by_cases e:i=j
  .subst e;simp[a,hk,A3]
  simp only[e,Ni];cases hx:idx ids j with
  |none=>simp[A3,e]
  |some p=>simp[A3,e]
theorem Mz {ids:List Nat}{j:Nat}(h:j∈ids):∃p,idx ids j=some p:=by
 induction ids with
 |nil=>simp at h
 |cons i r ih=>
  simp only[idx];by_cases e:i=j
  .exact⟨0,by simp[e]⟩
  rcases At6.1 h with h' | h'
  .exact Ng h'.symm e
  obtain⟨p,hp⟩:=ih h';exact⟨p+1,by simp[e,hp]⟩
theorem YY {ids:List Nat}(hn:ids.Nodup){p j:Nat}(h:ids[p]? = some j):idx ids j=some p:=by obtain⟨q,a⟩:=Mz (As4 h);rw[a,CC hn (J0 a) h]
theorem Jj {n p:Nat}(h:p<n):(List.range n)[p]? = some p:=by simp[h]
theorem Hh {d:Nat}{ids:List Nat}{ks:List Bool}{n p j:Nat}(h:(I9 d ids ks n)[p]? = some j):p<n/\((ids[p]? = some j/\ks[p]? = some true) \/ (j=nid d p/\∀i,ids[p]? = some i->ks[p]? ≠ some true)):=by
 unfold I9 at h;rw[Aq8,As8]at h;obtain⟨q,b,c⟩:=h;have a:p<n:=by simpa using (Ar4.1 b).1
 rw[Jj a]at b;cases b;refine⟨a,?_⟩;split at c
 .rename_i j' h1 g;subst c;exact .inl ⟨h1,g⟩
 rename_i f;subst c;exact .inr ⟨rfl,fun i l hk=>f i l hk⟩
theorem SU {d:Nat}{ids:List Nat}{ks:List Bool}{n:Nat}:(I9 d ids ks n).length=n:=by simp[I9]
theorem FJ {regs:B5}{ids:List Nat}{ks:List Bool}{d n p:Nat}(a:AY regs ids ks d n=true)(hp:p<n)(b:∀i,ids[p]? = some i->ks[p]? ≠ some true):A1 regs (nid d p)=none:=by
 unfold AY at a;rw[Ar7]at a
 have:=a p (by simp[hp])
 split at this
 .rename_i i h1 c;exact Ng c (b i h1)
 simpa using this
theorem HQ:∀{l:List Nat},(∀p q j:Nat,l[p]? = some j->l[q]? = some j->p=q)->l.Nodup
 |[],_=>Ay9
 |a::l,h=>by
  refine Aw0.2 ⟨fun hm=>?_,HQ fun p q j hp b=>?_⟩
  .obtain⟨p,hp⟩:=Ax3.1 hm
   have:=h 0 (p+1) a (by simp) (by simpa using hp)
   omega
  have:=h (p+1) (q+1) j (by simpa using hp) (by simpa using b)
  omega
theorem Ob {regs:B5}{ids:List Nat}{ks:List Bool}{d n:Nat}{objs:List Obj}(g:I5 ids regs ids=some objs)(r:ids.Nodup)(l:AY regs ids ks d n=true):(I9 d ids ks n).Nodup:=by
 refine HQ fun p q j hp s=>?_;obtain⟨h1,a⟩:=Hh hp;obtain⟨t,b⟩:=Hh s;obtain⟨_,m⟩:=T2 g;rcases a with⟨a,u⟩ | ⟨c,a⟩<;>rcases b with⟨b,v⟩ | ⟨f,b⟩
 .exact CC r a b
 .obtain⟨o,_,i,_⟩:=m p _ a
  have:=FJ l t b
  rw[<- f,i]at this;cases this
 .obtain⟨o,_,i,_⟩:=m q _ b
  have:=FJ l h1 a
  rw[<- c,i]at this;cases this
 have:nid d p=nid d q:=c.symm.trans f
 unfold nid at this;omega
def RA (new:List Nat)(rho rho' : Nat->Value)(j:Nat):Value:=match idx new j with
 |some p=>rho' p
 |none=>rho j
theorem LA (h:Sat C st a w rho){ids:List Nat}{objs objs' : List Obj}{ks:List Bool}{d:Nat}{w' : World}{rho' : Nat->Value}(hd:F3 ids=true)(hob:I5 ids st.regs ids=some objs)
 (hE:SatE (C.callee st.regs w rho ids) (objRegs objs') w' rho') (hks:∀i:Nat,ks[i]? = some true->i<objs'.length/\rho' i=rho (ids.getD i 0)) (hf:AY st.regs ids ks d objs'.length=true) :
 let new:=I9 d ids ks objs'.length
 let R':=PI new new objs' (K7 ids ks st.regs)
 Sat C { st with regs:=R' } a w' (RA new rho rho')/\Kp C st.regs R' w w' rho (RA new rho rho') /\
  Keeps w' (Prv (Ag6 C st.regs rho ids) (A1 (objRegs objs')) rho') w' (Prv C.X (A1 R') (RA new rho rho')) /\
  ∀p,Lv (A1 (objRegs objs')) p->Lv (A1 R') (new.getD p 0)/\RA new rho rho' (new.getD p 0)=rho' p:=by
 intro new R';have hdup:=At hd;obtain⟨hl,hg⟩:=T2 hob;have hnd:new.Nodup:=Ob hob hdup hf;have hnl:new.length=objs'.length:=SU;have hR:∀j,A1 R' j=match idx new j with
  |some p=>(objs'[p]?).map (unO new)
  |none=>A1 (K7 ids ks st.regs) j:=fun j=>Rx new j new objs' _ hnd hnl
 have hD:∀j,A1 (K7 ids ks st.regs) j=match idx ids j with
  |some p=>if ks[p]? = some true then A1 st.regs j else some .dead
  |none=>A1 st.regs j:=fun j=>CD j ids ks _ hdup
 have z:∀j p,idx new j=some p->p<objs'.length/\((ids[p]? = some j/\rho' p=rho j/\Lv (A1 st.regs) j) \/ (A1 st.regs j=none/\1000<=j)):=by
  intro j p hp;obtain⟨h1,f⟩:=Hh (J0 hp);refine⟨h1,?_⟩;rcases f with⟨f,x⟩ | ⟨rfl,f⟩
  .obtain⟨o,_,ho,_⟩:=hg p j f;exact .inl ⟨f,by rw[(hks p x).2,AZ f],by simp[Lv,ho]⟩
  exact .inr ⟨FJ hf h1 f,Bg d p⟩
 have l:∀j,idx new j=none->j∈ids->A1 R' j=some .dead:=by
  intro j c hm;rw[hR j,c];obtain⟨p,hp⟩:=Mz hm;simp only[hD j,hp];by_cases hk:ks[p]? = some true
  .exfalso;have hlt:=(hks p hk).1
   have:new[p]? = some j:=by show (I9 d ids ks objs'.length)[p]? = some j;unfold I9;rw[Aq8,Jj hlt];simp[J0 hp,hk]
   rw[YY hnd this]at c;cases c
  simp[hk]
 have g:∀j,idx new j=none->j ∉ ids->A1 R' j=A1 st.regs j:=by
  intro j c hm;rw[hR j,c]
  have:idx ids j=none:=by
   cases hx:idx ids j with
   |none=>rfl
   |some p=>exact Ng (As4 (J0 hx)) hm
  simp only[hD j,this]
 have s:∀j p,idx new j=some p->∃o',objs'[p]? = some o' /\ A1 R' j=some (unO new o')/\RA new rho rho' j=rho' p:=by intro j p hp;obtain⟨h1,_⟩:=z j p hp;refine⟨objs'[p],Aq4 h1,?_,by simp[RA,hp]⟩;rw[hR j,hp];simp[Aq4 h1]
 have hrn:∀j,idx new j=none->RA new rho rho' j=rho j:=fun j c=>by simp[RA,c]
 have a0:∀j,Lv (A1 st.regs) j->Lv (A1 R') j/\RA new rho rho' j=rho j:=by
  intro j c;cases hx:idx new j with
  |some p=>
   obtain⟨o',_,f,x⟩:=s j p hx;refine⟨by simp[Lv,f],?_⟩;rcases (z j p hx).2 with⟨_,y,_⟩ | ⟨y,_⟩
   .rw[x,y]
   simp[Lv,y]at c
  |none=>
   refine⟨?_,hrn j hx⟩;by_cases hm:j∈ids
   .simp[Lv,l j hx hm]
   simpa[Lv,g j hx hm]using c
 have hback:∀p,p<objs'.length->idx new (new.getD p 0)=some p:=by
  intro p hp
  have:new[p]? = some (new.getD p 0):=by rw[Aq1,Aq4 (by omega)];rfl
  exact YY hnd this
 have hpi:∀b off,Prv C.X (A1 R') (RA new rho rho') b off->Prv (Ag6 C st.regs rho ids) (A1 (objRegs objs')) rho' b off:=by
  rintro b off (hX|⟨j,o,c,hb,hp⟩)
  .exact .inl (.inl hX)
  cases hx:idx new j with
  |some p=>obtain⟨o',h1,f,x⟩:=s j p hx;rw[f]at c;cases c;rw[x,My]at hb;exact .inr ⟨p,o',by rw[B9];exact h1,hb,(UT off).1 hp⟩
  |none=>
   by_cases hm:j∈ids
   .rw[l j hx hm]at c;cases c;simp[D2,N0]at hb
   rw[g j hx hm]at c;rw[hrn j hx]at hb;exact .inl (.inr ⟨j,o,hm,c,hb,hp⟩)
 have hk2:Keeps w' (Prv (Ag6 C st.regs rho ids) (A1 (objRegs objs')) rho') w' (Prv C.X (A1 R') (RA new rho rho')):=fun b o v hp hc=>⟨hc,fun u=>hp (hpi b o u)⟩;have hlb:∀p,Lv (A1 (objRegs objs')) p->Lv (A1 R') (new.getD p 0)/\RA new rho rho' (new.getD p 0)=rho' p:=by
  intro p hp;have hlt:p<objs'.length:=by simp only[Lv,B9]at hp;exact (Ar4.1 (Option.eq_some_of_isSome hp)).1
  obtain⟨o',_,f,x⟩:=s _ p (hback p hlt);exact⟨by rw[Lv,f];rfl,x⟩
 have hyld:∀(p:Nat) r b,objs'[p]? ≠ some (.yld r b):=by intro p r b hp;exact (hE.yld p r b (by rw[B9];exact hp)).1
 obtain⟨g1,g2⟩:=h.step (R':=R') (rho':=RA new rho rho') (w':=w') (fun j=>j∈ids \/ ∃p,idx new j=some p)
  (fun j c=>by
   have h1:j ∉ ids:=fun e=>c (.inl e);have f:idx new j=none:=by
    cases hx:idx new j with
    |none=>rfl
    |some p=>exact Ng (.inr ⟨p,hx⟩) c
   exact g j f h1)
  a0 hE.size
  (fun j c hj'=>by
   cases hx:idx new j with
   |some p=>
    rcases (z j p hx).2 with⟨_,_,y⟩ | ⟨_,y⟩
    .exact Ng y c
    exact y
   |none=>
    by_cases hm:j∈ids
    .obtain⟨p,hp⟩:=Mz hm;obtain⟨o,_,ho,_⟩:=hg p j (J0 hp);exact Ng (by simp[Lv,ho]) c
    rw[Lv,g j hx hm]at hj';exact Ng hj' c)
  (fun j r b m c=>by
   cases hx:idx new j with
   |some p=>
    obtain⟨o',h1,f,x⟩:=s j p hx;rw[f]at c
    have:o' = .yld r b:=by cases o'<;>simp[unO]at c⊢;exact c
    subst this;exact hyld p r b h1
   |none=>
    rcases m with hm|⟨p,hp⟩
    .rw[l j hx hm]at c;cases c
    rw[hx]at hp;cases hp)
  (fun b hb hno=>hE.same b hb (by rintro⟨j,o,hm,c,n⟩;exact hno j o (.inl hm) c n))
  (fun j o b m c n=>by
   cases hx:idx new j with
   |some p=>
    obtain⟨o',h1,f,x⟩:=s j p hx;rw[f]at c;cases c;rw[x,My]at n;rcases hE.own b ⟨p,o',by rw[B9];exact h1,n⟩with⟨i,oi,hm,hi,t⟩ | hge
    .exact .inl ⟨i,oi,.inl hm,hi,t⟩
    exact .inr hge
   |none=>
    rcases m with hm|⟨p,hp⟩
    .rw[l j hx hm]at c;cases c;simp[D2,N0]at n
    rw[hx]at hp;cases hp)
  (fun i j oi oj b hDi m hi c t hbj=>by
   have key:∀i oi,(i∈ids \/ ∃p,idx new i=some p)->A1 R' i=some oi->D2 (RA new rho rho' i) oi b->∃p o',idx new i=some p/\A1 (objRegs objs') p=some o' /\ D2 (rho' p) o' b:=by
    intro i oi hDi hi t;cases hx:idx new i with
    |some p=>obtain⟨o',h1,f,x⟩:=s i p hx;rw[f]at hi;cases hi;rw[x,My]at t;exact⟨p,o',rfl,by rw[B9];exact h1,t⟩
    |none=>
     rcases hDi with hm|⟨p,hp⟩
     .rw[l i hx hm]at hi;cases hi;simp[D2,N0]at t
     rw[hx]at hp;cases hp
   obtain⟨p,o1,h1,f,x⟩:=key i oi hDi hi t;obtain⟨q,o2,y,h5,h6⟩:=key j oj m c hbj
   have:=hE.hp.sep p q o1 o2 b f h5 x h6
   subst this;have e1:=J0 h1;have e2:=J0 y;rw[e1]at e2;cases e2;rfl)
  (fun i oi b off v hDi hi t hnp hc=>by
   obtain⟨h1,f⟩:=hE.keep b off v hnp hc;refine⟨h1,fun j o m c n hp=>f ?_⟩;cases hx:idx new j with
   |some p=>obtain⟨o',y,h5,h6⟩:=s j p hx;rw[h5]at c;cases c;rw[h6,My]at n;exact .inr ⟨p,o',by rw[B9];exact y,n,(UT off).1 hp⟩
   |none=>
    rcases m with hm|⟨p,u⟩
    .rw[l j hx hm]at c;cases c;simp[D2,N0]at n
    rw[hx]at u;cases u)
  (fun hk j o m c=>by
   cases hx:idx new j with
   |some p=>obtain⟨o',y,h5,h6⟩:=s j p hx;rw[h5]at c;cases c;rw[h6];exact (hE.hp.holds p o' (by rw[B9];exact y)).un hk2 hlb (fun b _=>rfl)
   |none=>
    rcases m with hm|⟨p,u⟩
    .rw[l j hx hm]at c;cases c;trivial
    rw[hx]at u;cases u) hE.ext
 exact⟨g1,⟨g2,a0⟩,hk2,hlb⟩
end
end Go.AM
namespace Go.AM
section
variable {P:Program}{C:Ctx}{st t:St}{a:Act}{w:World}{rho:Nat->Value}
theorem semUp.refl {st:St}{K:St->Prop}(h:K st):semUp st K:=fun C a w rho hs=>⟨st,rho,h,fun _ _ h=>h,hs⟩
theorem semUp.trans {st:St}{K:St->Prop}(h:semUp st fun t=>semUp t K):semUp st K:=fun C a w rho hs=>
 let ⟨st',rho',h1,hp,h2⟩:=h C a w rho hs
 let ⟨st2,rho2,h3,hp',h4⟩:=h1 C a w rho' h2
 ⟨st2,rho2,h3,fun b o hx=>hp b o (hp' b o hx),h4⟩
theorem semUp.mono {st:St}{K K' : St->Prop}(hk:∀t,K t->K' t)(h:semUp st K):semUp st K':=fun C a w rho hs=>
 let ⟨st',rho',h1,h2⟩:=h C a w rho hs
 ⟨st',rho',hk _ h1,h2⟩
theorem Sat.slot (h:Sat C st a w rho){t:Nat}{x:AV}(hx:RS C st w rho (a.tmps.getD t undef) x):Sat C ⟨ins t x st.env,st.regs⟩ a w rho:=by
 refine⟨h.toSatE,fun i=>?_,h.pin,h.marks⟩;show RepA w _ _ rho _ (get (ins t x st.env) i);rw[Ja];split
 .rename_i e;subst e;exact hx
 exact h.env i
theorem semUp.bool {st:St}{t:Nat}{b:Bool}{K:St->Prop}(c:get st.env t=.p (.bb b))(h:K ⟨ins t (.p (.v (.bool b))) st.env,st.regs⟩):semUp st K:=fun C a w rho hs=>by
 refine⟨_,rho,h,fun _ _ h=>h,hs.slot ?_⟩
 have:=hs.env t
 rw[c]at this;rw[this.toP.toBool];exact .p _ _ (.v _)
theorem semUp.pq {st:St}{t:Nat}{x y:PV}{K:St->Prop}(b:get st.env t=.p x)(c:leQ x y)(h:K ⟨ins t (.p y) st.env,st.regs⟩):semUp st K:=fun C a w rho hs=>by
 refine⟨_,rho,h,fun _ _ h=>h,hs.slot ?_⟩
 have:=hs.env t
 rw[b]at this;exact .p _ _ (this.toP.leQ c)
theorem semUp.nil {st:St}{t k n:Nat}{f:Nat->List PV}{K:St->Prop}(g:get st.env t=.p (.sl false k n f))
 (h1:n=0->K ⟨ins t (.p (.v (.slice none 0 0))) st.env,st.regs⟩) (i:K ⟨ins t (.p (.sl true k n f)) st.env,st.regs⟩):semUp st K:=fun C a w rho hs=>by
 have:=hs.env t
 rw[g]at this
 have:=this.toP
 generalize d:a.tmps.getD t undef=v at this;cases this with
 |slnil=>exact⟨_,rho,h1 rfl,fun _ _ h=>h,hs.slot (by rw[d];exact .p _ _ (.v _))⟩
 |sl _ b off cap _ _ _ c hn hk hc h sp hsp=>exact⟨_,rho,i,fun _ _ h=>h,hs.slot (by rw[d];exact .p _ _ (.sl true b off cap k n f c hn hk hc h sp hsp))⟩
theorem RB (n:Nat)(f:Nat->PV){i:Nat}(a:i<n):(WT n f).getD i .top=.p (f i):=by simp[WT,Aq1,a]
theorem MA (n:Nat)(f:Nat->PV):(WT n f).length=n:=by simp[WT]
theorem semUp.swap {st:St}{j:Nat}{o o' : Obj}{K:St->Prop}(m:A1 st.regs j=some o)(hb:∀v,D2 v o' = D2 v o)(hp:∀off,Gb o' off↔Gb o off)(hy:∀r b,o' ≠ .yld r b)
 (hh:∀{w:World}{Pi:Nat->Nat->Prop}{live:Nat->Prop}{rho:Nat->Value}{v:Value},HoldsO w Pi live rho v o->HoldsO w Pi live rho v o') (hK:K ⟨st.env,ins j o' st.regs⟩):semUp st K:=fun C a w rho hs=>by
 have d:∀i,A1 (ins j o' st.regs) i=if j=i then some o' else A1 st.regs i:=fun i=>A3 _ _ _ _
 have q:∀i,Lv (A1 (ins j o' st.regs)) i↔Lv (A1 st.regs) i:=fun i=>by
  unfold Lv;rw[d];split
  .rename_i e;subst e;rw[m];simp
  rfl
 have s:∀b off,Prv C.X (A1 (ins j o' st.regs)) rho b off↔Prv C.X (A1 st.regs) rho b off:=fun b off=>by
  unfold Prv;refine or_congr Az9 ⟨?_,?_⟩
  .rintro⟨i,oi,h1,l,n⟩;rw[d]at h1;split at h1
   .rename_i e;subst e;cases h1;exact⟨j,o,m,by rw[<- hb];exact l,(hp off).1 n⟩
   exact⟨i,oi,h1,l,n⟩
  rintro⟨i,oi,h1,l,n⟩;by_cases e:j=i
  .subst e;rw[m]at h1;cases h1;exact⟨j,o',by rw[d,Nd rfl],by rw[hb];exact l,(hp off).2 n⟩
  exact⟨i,oi,by rw[d,Nf e];exact h1,l,n⟩
 have hk:Keeps w (Prv C.X (A1 st.regs) rho) w (Prv C.X (A1 (ins j o' st.regs)) rho):=fun b off v h1 l=>⟨l,fun h=>h1 ((s b off).1 h)⟩;have hl:∀i,Lv (A1 st.regs) i->Lv (A1 (ins j o' st.regs)) i/\rho i=rho i:=fun i c=>⟨(q i).2 c,rfl⟩;refine⟨_,rho,hK,fun b off h=>(s b off).1 h,⟨⟨⟨fun i oi f=>?_,fun i i' oi oi' b c x g u=>?_,fun i oi b off f g=>?_,hs.hp.bound⟩,hs.ext,hs.size,hs.same,hs.keep.trans hk,fun b y=>?_,fun i r b f=>?_⟩,fun t=>(hs.env t).keeps hk hl,fun i c z=>hs.pin i c ((q i).1 z),hs.marks⟩⟩
 .have c:A1 (ins j o' st.regs) i=some oi:=f;clear f;rw[d]at c;split at c
  .rename_i e;subst e;cases c;exact hh ((hs.hp.holds j o m).keeps hk hl fun _ _=>rfl)
  exact (hs.hp.holds i oi c).keeps hk hl fun _ _=>rfl
 .have own:∀{i:Nat}{oi:Obj}{b:Nat},A1 (ins j o' st.regs) i=some oi->D2 (rho i) oi b->∃o2,A1 st.regs i=some o2/\D2 (rho i) o2 b:=by
   intro i oi b c g;rw[d]at c;split at c
   .rename_i e;subst e;cases c;exact⟨o,m,by rw[<- hb];exact g⟩
   exact⟨oi,c,g⟩
  obtain⟨o2,h1,l⟩:=own c g;obtain⟨o3,n,h4⟩:=own x u;exact hs.hp.sep i i' o2 o3 b h1 n l h4
 .have c:A1 (ins j o' st.regs) i=some oi:=f;clear f;rw[d]at c;split at c
  .rename_i e;subst e;cases c;exact hs.hp.out j o b off m (by rw[<- hb];exact g)
  exact hs.hp.out i oi b off c g
 .obtain⟨i,oi,f,g⟩:=y;have c:A1 (ins j o' st.regs) i=some oi:=f;clear f;rw[d]at c;split at c
  .rename_i e;subst e;cases c;exact hs.own b ⟨j,o,m,by rw[<- hb];exact g⟩
  exact hs.own b ⟨i,oi,c,g⟩
 have c:A1 (ins j o' st.regs) i=some (.yld r b):=f;clear f;rw[d]at c;split at c
 .cases c;exact Ng rfl (hy r b)
 exact hs.yld i r b c
theorem semUp.toArr {st:St}{j n:Nat}{f:Nat->PV}{K:St->Prop}(l:A1 st.regs j=some (.cells (WT n f)))(m:K ⟨st.env,ins j (.arr n f) st.regs⟩):semUp st K:=
 semUp.swap (o':=.arr n f) l (fun _=>rfl) (fun _=>Az9) (fun _ _ h=>by cases h) (fun o=>by obtain⟨b,c,T,h1,q,g,a⟩:=o;rw[MA]at g a;exact⟨b,c,T,h1,q,g,fun i d=>⟨by have:=(a i d).1;rw[RB n f d]at this;exact this.toP,(a i d).2⟩⟩) m
theorem semUp.ofArr {st:St}{j n:Nat}{f:Nat->PV}{K:St->Prop}(g:A1 st.regs j=some (.arr n f))(l:K ⟨st.env,ins j (.cells (WT n f)) st.regs⟩):semUp st K:=
 semUp.swap (o':=.cells (WT n f)) g (fun _=>rfl) (fun _=>Az9) (fun _ _ h=>by cases h) (fun m=>by obtain⟨b,c,T,h1,o,q,d⟩:=m;exact⟨b,c,T,h1,o,by rw[MA];exact q,fun i a=>by rw[MA]at a;rw[RB n f a];exact⟨.p _ _ (d i a).1,(d i a).2⟩⟩) l
theorem semUp.vecq {st:St}{j n k:Nat}{e:TypeId}{f g:Nat->List PV}{vw:Bool}{K:St->Prop}(r:A1 st.regs j=some (.vec e k n f vw))(m:∀i,i<n->leC (f i) (g i))(s:K ⟨st.env,ins j (.vec e k n g vw) st.regs⟩):semUp st K:=
 semUp.swap (o':=.vec e k n g vw) r (fun _=>rfl) (fun _=>by cases vw<;>exact Az9) (fun _ _ h=>by cases h) (fun t=>by
  rcases t with⟨h1,l⟩ | ⟨b,cap,c,h1,l,u,v,w,x,o⟩
  .exact .inl ⟨h1,l⟩
  exact .inr ⟨b,cap,c,h1,l,u,v,w,fun i a=>by rw[<- (m i a).1];exact x i a,fun i q a d=>⟨(o i q a d).1.leQ ((m i a).2 q),(o i q a d).2⟩⟩) s
theorem Xj (j:Nat)(ps:List PV)(env:Env)(t:Nat):get (WJ j ps env) t=frzA j ps (get env t):=by
 induction env with
 |nil=>rfl
 |cons p r ih=>
  obtain⟨i,a⟩:=p;simp only[WJ,get];split
  .rfl
  exact ih
theorem semUp.frz {st:St}{j:Nat}{ps:List PV}{K:St->Prop}(z:A1 st.regs j=some (.cells (ps.map .p)))(hK:K ⟨WJ j ps st.env,ins j .dead st.regs⟩):semUp st K:=fun C a w rho hs=>by
 have d:∀i,A1 (ins j .dead st.regs) i=if j=i then some .dead else A1 st.regs i:=fun i=>A3 _ _ _ _
 obtain⟨h1,hk⟩:=hs.step (D:=(· = j)) (R':=ins j .dead st.regs) (rho':=rho) (w':=w)
  (fun i f=>by rw[d,Nf (fun e=>f e.symm)])
  (fun i f=>⟨by
   unfold Lv at f⊢;rw[d];split
   .rfl
   exact f,rfl⟩) (Aq9 _)
  (fun i f hl=>by
   unfold Lv at f hl;rw[d]at hl;split at hl
   .rename_i e;subst e;rw[z]at f;exact Ng rfl f
   exact Ng hl f)
  (fun i r b f=>by subst f;rw[d,Nd rfl];simp)
  (fun _ _ _=>rfl)
  (fun i o b f l hb=>by subst f;rw[d,Nd rfl]at l;cases l;cases hb)
  (fun i i' oi oj b f g _ _ _ _=>f.trans g.symm)
  (fun i oi b off v f l hb hp hc=>⟨hc,fun i' o g s m=>by subst g;rw[d,Nd rfl]at s;cases s;cases m⟩)
  (fun _ i o f l=>by subst f;rw[d,Nd rfl]at l;cases l;trivial)
 have u:∀b off,Prv C.X (A1 (ins j .dead st.regs)) rho b off->Prv C.X (A1 st.regs) rho b off:=by
  rintro b off (hX|⟨i,o,f,hb,hp⟩)
  .exact .inl hX
  rw[d]at f;split at f
  .cases f;cases hb
  exact .inr ⟨i,o,f,hb,hp⟩
 refine⟨_,rho,hK,u,⟨h1.toSatE,fun t=>?_,h1.pin,h1.marks⟩⟩;show RepA w _ _ rho (a.tmps.getD t undef) (get (WJ j ps st.env) t);rw[Xj];have y:=h1.env t;have y:RepA w (Prv C.X (A1 (ins j .dead st.regs)) rho) (Lv (A1 (ins j .dead st.regs))) rho (a.tmps.getD t undef) (get st.env t):=y;have l:=hs.env t;generalize get st.env t=x at y l⊢;cases x with
 |reg i o=>
  simp only[frzA];split
  .rename_i e;subst e;generalize a.tmps.getD t undef=v at l⊢;cases l with
   |reg _ _ b hl hr=>
    obtain⟨b',c,T,e1,e2,e3,e4⟩:=hs.hp.holds i _ z;rw[hr]at e1;cases e1;have hsz:c.size=ps.length:=by simpa using e3
    refine .p _ _ (.ptr b o (ps.drop o) (fun q=>c.getD (o+q) undef) (fun q hq=>?_) fun q hq=>?_)
    .have n:o+q<ps.length:=by simp only[As5]at hq;omega
     refine⟨C8 e2 (by omega),?_,(e4 (o+q) (by simpa using n)).2⟩;rintro (hX|⟨i',o',g,m,hp'⟩)
     .exact hs.hp.out i _ b _ z (by simp[D2,N0,hr]) hX
     rw[d]at g;split at g
     .cases g;cases m
     rename_i hne;exact hne (hs.hp.sep i i' _ o' b z g (by simp[D2,N0,hr]) m)
    have n:o+q<ps.length:=by simp only[As5]at hq;omega
    have h4:=(e4 (o+q) (by simpa using n)).1;have e5:(ps.map AV.p).getD (o+q) .top=.p (ps.getD (o+q) default):=by simp[Aq1,n]
    rw[e5]at h4;have e6:(ps.drop o).getD q default=ps.getD (o+q) default:=by simp[Aq1,Aw5]
    rw[e6];exact h4.toP.keeps hk
  exact y
 |_=>exact y
theorem Sat.congr {s t:St}(h:Sat C s a w rho)(h1:∀x,get s.env x=get t.env x)(b:∀j,A1 s.regs j=A1 t.regs j):Sat C t a w rho:=by have e1:get s.env=get t.env:=funext h1;have e2:A1 s.regs=A1 t.regs:=funext b;obtain⟨⟨g1,g0,g2,g3,g4,g5,g6⟩,g7,g8,g9⟩:=h;rw[e2]at g1 g4 g5 g6 g7 g8;rw[e1]at g7;exact⟨⟨g1,g0,g2,g3,g4,g5,g6⟩,g7,g8,g9⟩
theorem semUp.eqv {s t:St}{K:St->Prop}(h1:∀x,get s.env x=get t.env x)(c:∀j,A1 s.regs j=A1 t.regs j)(h:K t):semUp s K:=fun C a w rho hs=>
 ⟨t,rho,h,fun b o hp=>by rw[funext c];exact hp,hs.congr h1 c⟩
theorem semUp.less {s t:St}{K:St->Prop}(h1:∀x,Mq (get t.env x) (get s.env x))(d:∀j,A1 s.regs j=A1 t.regs j)(h:K t):semUp s K:=fun C a w rho hs=>by
 have c:Sat C ⟨s.env,t.regs⟩ a w rho:=hs.congr (fun _=>rfl) d;refine⟨t,rho,h,fun b o hp=>by rw[funext d];exact hp,c.toSatE,fun x=>?_,c.pin,c.marks⟩
 have:=c.env x
 rcases h1 x with e|e|⟨y,e1,e2⟩
 .rw[e];exact .top _
 .rw[e];exact this
 rw[e1];rw[show get (St.mk s.env t.regs).env x=_ from e2]at this;exact .p _ _ (this.toP.leP (.inr (.inr (.inr (.inl ⟨y,rfl,rfl⟩)))))
theorem YZ {ids:List (Nat×Nat)}{j i:Nat}(h:lk ids j=some i):(j,i)∈ids:=by
 induction ids with
 |nil=>simp[lk]at h
 |cons p r ih=>
  obtain⟨x,y⟩:=p;simp only[lk]at h;split at h
  .rename_i e;cases h;subst e;simp
  exact At1 _ (ih h)
theorem Aj5 {ids:List (Nat×Nat)}(hn:F3 (ids.map (·.2))=true){j j' i:Nat}(h:lk ids j=some i)(h' : lk ids j' = some i):j=j':=by
 have b:=At hn;obtain⟨p,hp⟩:=Ax3.1 (YZ h);obtain⟨q,a⟩:=Ax3.1 (YZ h')
 have:p=q:=CC (j:=i) b (by rw[Aq8,hp];rfl) (by rw[Aq8,a];rfl)
 subst this;rw[hp]at a;cases a;rfl
theorem Aj6 {ids:List (Nat×Nat)}(hp:SM ids=true){j i:Nat}(h:lk ids j=some i)(a:j<1000):i=j:=by
 induction ids with
 |nil=>simp[lk]at h
 |cons p r ih=>
  obtain⟨x,y⟩:=p;simp only[SM,Aq7,At0,beq_iff_eq,decide_eq_true_eq]at hp;simp only[lk]at h;split at h
  .rename_i e;cases h;omega
  exact ih hp.2 h
theorem MB {regs:B5}{j:Nat}{o:Obj}(h:A1 regs j=some o):(j,o)∈regs:=by
 induction regs with
 |nil=>simp[A1]at h
 |cons p r ih=>
  obtain⟨x,y⟩:=p;simp only[A1]at h;split at h
  .rename_i e;cases h;subst e;simp
  exact At1 _ (ih h)
theorem Xk {regs:B5}{j:Nat}(h:j∈regs.map (·.1)):(A1 regs j).isSome=true:=by
 induction regs with
 |nil=>simp at h
 |cons p r ih=>
  obtain⟨x,y⟩:=p;simp only[A1];split
  .rfl
  rename_i e;simp only[At4,At6]at h;rcases h with h|h
  .exact Ng h.symm e
  exact ih h
theorem CE {regs:B5}{ids:List (Nat×Nat)}:∀{r:B5},NI regs ids r->∀{j:Nat}{p:Obj},A1 r j=some p ->
 (∃i o,lk ids j=some i/\A1 regs i=some o/\leO regs ids o p) \/ (lk ids j=none/\∃e k f vw,p=.vec e k 0 f vw)
 |[],_,j,p,h=>by simp[A1]at h
 |(x,y)::r,hl,j,p,h=>by
  simp only[A1]at h;split at h
  .rename_i e;cases h;subst e;exact hl.1
  exact CE hl.2 h
theorem Oc {regs:B5}{ids:List (Nat×Nat)}{env:Env}:∀{r:Env},IX regs ids env r->∀(t:Nat),(∃b,(t,b)∈r/\get r t=b/\leA regs ids (get env t) b/\∀i∈Gg (get env t) b,i∈WR env r) \/ get r t=.top
 |[],_,t=>.inr rfl
 |(x,y)::r,hl,t=>by
  simp only[get];split
  .rename_i e;subst e;exact .inl ⟨y,by simp,rfl,hl.1,fun i a=>by simp only[WR];exact At2 _ a⟩
  rcases Oc hl.2 t with⟨b,h1,c,d,f⟩ | h
  .exact .inl ⟨b,At1 _ h1,c,d,fun i a=>by simp only[WR];exact Ar9 _ (f i a)⟩
  exact .inr h
theorem LB {ids:List (Nat×Nat)}{js:List Nat}:∀{r:B5},HN ids js r=true->∀{j e k n f i},(j,Obj.vec e k n f false)∈r->lk ids j=some i->i ∉ js
 |[],_,j,e,k,n,f,i,h,_=>by simp at h
 |p::r,hs,j,e,k,n,f,i,h,hi=>by
  rcases At6.1 h with h|h
  .subst h;simp only[HN,hi,Aq7,At3,Au1,decide_eq_false_iff_not]at hs;exact hs.1
  refine LB (r:=r) ?_ h hi;obtain⟨x,o⟩:=p;cases o with
  |vec _ _ _ _ b=>cases b<;>simp only[HN,Aq7]at hs<;>first|exact hs.2|exact hs
  |_=>exact hs
theorem FK {regs:B5}{ids:List (Nat×Nat)}:∀{l m:List AV},leL regs ids l m->l.length=m.length/\∀i,i<l.length->leA regs ids (l.getD i .top) (m.getD i .top)/\∀x∈Gg (l.getD i .top) (m.getD i .top),x∈IY l m
 |l,[],h=>by unfold leL at h;subst h;exact⟨rfl,fun i a=>Ng a (by simp)⟩
 |l,y::m,h=>by
  unfold leL at h;obtain⟨x,r,rfl,h1,c⟩:=h;obtain⟨d,f⟩:=FK c;refine⟨by simp[d],fun i a=>?_⟩;cases i with
  |zero=>exact⟨by simpa using h1,fun z b=>by unfold IY;exact At2 _ (by simpa using b)⟩
  |succ i=>obtain⟨g,j⟩:=f i (by simpa using a);exact⟨by simpa using g,fun z b=>by unfold IY;exact Ar9 _ (j z (by simpa using b))⟩
theorem FL {js:List Nat}:∀{m:List AV},inL js m=true->∀i,i<m.length->inA js (m.getD i .top)=true
 |[],_,i,hi=>Ng hi (by simp)
 |y::m,h,i,hi=>by
  unfold inL at h;rw[Aq7]at h;cases i with
  |zero=>simpa using h.1
  |succ i=>simpa using FL h.2 i (by simpa using hi)
section
variable {Pi Pi' : Nat->Nat->Prop}{live live' : Nat->Prop}{rho' : Nat->Value}{regs:B5}{ids:List (Nat×Nat)}{js:List Nat}
theorem RepA.viewP (hk:Keeps w Pi w Pi'){seenP:Nat->Prop}
 (o:∀i,seenP i->∀e k n f vw base n' cap,A1 regs i=some (.vec e k n f vw)->rho i=.slice base n' cap->n' = n/\∀m,m<=n->RepP w Pi' (.slice base m cap) (.sl false k m f))
 {v:Value}{a:AV}(h:RepA w Pi live rho v a) {x y:PV}(hx:AM.viewP regs a=some x) (hs:∀i∈Gg a (.p y),seenP i):RepP w Pi' v x:=by
 cases h with
 |p _ z hz=>simp only[AM.viewP,Aq2]at hx;subst hx;exact hz.keeps hk
 |vec j base n' cap hl hr=>
  simp only[AM.viewP]at hx;split at hx
  .rename_i e k n f vw c;cases hx;obtain⟨rfl,d⟩:=o j (hs j (by simp[Gg])) _ _ _ _ _ _ _ _ c hr;exact d _ (Aq9 _)
  cases hx
 |vecp j m base n' cap hl hr hm=>
  simp only[AM.viewP]at hx;split at hx
  .rename_i e k n f vw c;cases hx;obtain⟨rfl,d⟩:=o j (hs j (by simp[Gg])) _ _ _ _ _ _ _ _ c hr;rw[Ax7 hm];exact d _ hm
  cases hx
 |clo f x' y' l r hx' hy' hl hr=>
  have gen:(match NB l,NB r with
   |some a,some b=>some (PV.fn f a b)
   |_,_=>none)=some x->RepP w Pi' (.func (.func f) x' y') x:=by
   intro g;split at g
   .rename_i a' b' ha hb;cases g;exact (RepA.clo_fn ha hb (.clo f x' y' l r hx' hy' hl hr)).keeps hk
   cases g
  cases l with
  |cons _ _=>exact gen hx
  |nil=>
   cases r with
   |cons _ _=>exact gen hx
   |nil=>simp only[AM.viewP,Aq2]at hx;subst hx;have e1:x' = #[]:=AB3.1 (by simpa using hx');have e2:y' = #[]:=AB3.1 (by simpa using hy');subst e1;subst e2;exact .v _
 |_=>simp[AM.viewP]at hx
theorem RepA.le (hk:Keeps w Pi w Pi')(t:∀j i,lk ids j=some i->rho' j=rho i)(hnil:∀j,lk ids j=none->rho' j=.slice none 0 0)(s:∀j,js.contains j=true->live' j){seenP:Nat->Prop}
 (u:∀i,seenP i->∀e k n f vw base n' cap,A1 regs i=some (.vec e k n f vw)->rho i=.slice base n' cap->n' = n/\∀m,m<=n->RepP w Pi' (.slice base m cap) (.sl false k m f))
 {v:Value}{a:AV}(h:RepA w Pi live rho v a):∀{b:AV},leA regs ids a b->inA js b=true->(∀i∈Gg a b,seenP i)->RepA w Pi' live' rho' v b:=by
 induction h with
 |p v x h=>
  intro b' hle c hs;cases b' with
  |top=>exact .top _
  |p y'=>unfold leA at hle;obtain⟨x',d,g⟩:=hle;exact .p _ _ (((RepA.p (live:=live) v x h).viewP hk u d hs).leP g)
  |vec j'=>
   unfold leA at hle;rcases hle with⟨i',_,o⟩ | ⟨hn,o⟩
   .cases o
   cases o;rw[h.toV];exact .vec j' none 0 0 (s j' (by unfold inA at c;exact c)) (hnil j' hn)
  |_=>simp[leA]at hle
 |reg j off b hl h=>
  intro b' hle c hs;cases b' with
  |top=>exact .top _
  |p y'=>unfold leA at hle;obtain⟨x',d,g⟩:=hle;exact .p _ _ (((RepA.reg j off b hl h).viewP hk u d hs).leP g)
  |reg j' off'=>unfold leA at hle;obtain⟨i',q,o⟩:=hle;cases o;exact .reg j' off b (s j' (by unfold inA at c;exact c)) ((t _ _ q).trans h)
  |_=>simp[leA]at hle
 |vec j base n cap hl h=>
  intro b' hle c hs;cases b' with
  |top=>exact .top _
  |p y'=>unfold leA at hle;obtain⟨x',d,g⟩:=hle;exact .p _ _ (((RepA.vec j base n cap hl h).viewP hk u d hs).leP g)
  |vec j'=>
   unfold leA at hle;rcases hle with⟨i',q,o⟩ | ⟨hn,o⟩
   .cases o;exact .vec j' base n cap (s j' (by unfold inA at c;exact c)) ((t _ _ q).trans h)
   cases o
  |_=>simp[leA]at hle
 |vecp j m base n cap hl h hm=>
  intro b' hle c hs;cases b' with
  |top=>exact .top _
  |p y'=>unfold leA at hle;obtain⟨x',d,g⟩:=hle;exact .p _ _ (((RepA.vecp j m base n cap hl h hm).viewP hk u d hs).leP g)
  |vecp j' m'=>unfold leA at hle;obtain⟨i',q,o⟩:=hle;cases o;exact .vecp j' m base n cap (s j' (by unfold inA at c;exact c)) ((t _ _ q).trans h) hm
  |_=>simp[leA]at hle
 |elt j k i off b n cap hl h=>
  intro b' hle c hs;cases b' with
  |top=>exact .top _
  |p y'=>unfold leA at hle;obtain⟨x',d,g⟩:=hle;exact .p _ _ (((RepA.elt j k i off b n cap hl h).viewP hk u d hs).leP g)
  |elt j' k' i2 off'=>unfold leA at hle;obtain⟨i',q,o⟩:=hle;cases o;exact .elt j' k i off b n cap (s j' (by unfold inA at c;exact c)) ((t _ _ q).trans h)
  |_=>simp[leA]at hle
 |mref j r hl h=>
  intro b' hle c hs;cases b' with
  |top=>exact .top _
  |p y'=>unfold leA at hle;obtain⟨x',d,g⟩:=hle;exact .p _ _ (((RepA.mref j r hl h).viewP hk u d hs).leP g)
  |mref j'=>unfold leA at hle;obtain⟨i',q,o⟩:=hle;cases o;exact .mref j' r (s j' (by unfold inA at c;exact c)) ((t _ _ q).trans h)
  |_=>simp[leA]at hle
 |clo f x y a b hx hy ha hb iha ihb=>
  intro b' hle c hs;cases b' with
  |top=>exact .top _
  |p y'=>unfold leA at hle;obtain⟨x',d,g⟩:=hle;exact .p _ _ (((RepA.clo f x y a b hx hy ha hb).viewP hk u d hs).leP g)
  |clo f' x2 y2=>
   unfold leA at hle;obtain⟨x3,y3,o,h1,h2⟩:=hle;cases o;unfold inA at c;rw[Aq7]at c;obtain⟨l1,g1⟩:=FK h1;obtain⟨l2,g2⟩:=FK h2;exact .clo f x y x2 y2 (hx.trans l1) (hy.trans l2)
    (fun i hi=>iha i (by omega) (g1 i (by omega)).1 (FL c.1 i hi) fun z hz=>hs z (by unfold Gg;exact At2 _ ((g1 i (by omega)).2 z hz)))
    fun i hi=>ihb i (by omega) (g2 i (by omega)).1 (FL c.2 i hi) fun z hz=>hs z (by unfold Gg;exact Ar9 _ ((g2 i (by omega)).2 z hz))
  |_=>simp[leA]at hle
 |tup x a hx ha ih=>
  intro b' hle c hs;cases b' with
  |top=>exact .top _
  |p y'=>unfold leA at hle;obtain⟨x',d,g⟩:=hle;exact .p _ _ (((RepA.tup x a hx ha).viewP hk u d hs).leP g)
  |tup l2=>unfold leA at hle;obtain⟨l3,o,h1'⟩:=hle;cases o;unfold inA at c;obtain⟨l1,g1⟩:=FK h1';exact .tup x l2 (hx.trans l1) fun i hi=>ih i (by omega) (g1 i (by omega)).1 (FL c i hi) fun z hz=>hs z (by unfold Gg;exact (g1 i (by omega)).2 z hz)
  |_=>simp[leA]at hle
 |agr x a hx h1 ha ih=>
  intro b' hle c hs;cases b' with
  |top=>exact .top _
  |p y'=>unfold leA at hle;obtain⟨x',d,g⟩:=hle;exact .p _ _ (((RepA.agr x a hx h1 ha).viewP hk u d hs).leP g)
  |agr l2=>unfold leA at hle;obtain⟨l3,o,h1'⟩:=hle;cases o;unfold inA at c;obtain⟨l1,g1⟩:=FK h1';exact .agr x l2 (hx.trans l1) (fun i hi=>h1 i (by omega)) fun i hi=>ih i (by omega) (g1 i (by omega)).1 (FL c i hi) fun z hz=>hs z (by unfold Gg;exact (g1 i (by omega)).2 z hz)
  |_=>simp[leA]at hle
 |yf j l hl h=>
  intro b' hle c hs;cases b' with
  |top=>exact .top _
  |p y'=>unfold leA at hle;obtain⟨x',d,g⟩:=hle;exact .p _ _ (((RepA.yf j l hl h).viewP hk u d hs).leP g)
  |yf j'=>unfold leA at hle;obtain⟨i',q,o⟩:=hle;cases o;exact .yf j' l (s j' (by unfold inA at c;exact c)) ((t _ _ q).trans h)
  |_=>simp[leA]at hle
 |top v=>
  intro b' hle c hs;cases b' with
  |top=>exact .top _
  |p y'=>unfold leA at hle;obtain⟨x',d,g⟩:=hle;exact .p _ _ (((RepA.top (live:=live) v).viewP hk u d hs).leP g)
  |_=>simp[leA]at hle
end
def Ug (ids:List (Nat×Nat))(rho:Nat->Value)(j:Nat):Value:=match lk ids j with
 |some i=>rho i
 |none=>.slice none 0 0
theorem ZU {regs:B5}{ids:List (Nat×Nat)}{o p:Obj}(h:leO regs ids o p){v:Value}{b:Nat}(hb:D2 v p b):D2 v o b/\∀off,Gb p off->Gb o off:=by
 cases p with
 |cells cs=>obtain⟨cs',rfl,_⟩:=h;exact⟨hb,fun _ h=>h⟩
 |vec e k n f vw=>
  obtain⟨g,vw',rfl,h1,c⟩:=h;refine⟨hb,fun off hp=>?_⟩;cases vw'
  .trivial
  rw[c rfl]at hp;exact hp
 |map es=>subst h;exact⟨hb,fun _ h=>h⟩
 |arr n f=>obtain⟨g,rfl,_⟩:=h;exact⟨hb,fun _ h=>h⟩
 |fam e n jr x=>obtain⟨_,_,rfl,_⟩:=h;exact⟨hb,fun _ h=>h⟩
 |rows n g=>obtain⟨g',rfl,h1⟩:=h;obtain⟨rv,d,i,a,hb⟩:=hb;exact⟨⟨rv,d,i,a,by rw[h1 i a];exact hb⟩,fun _ _=>trivial⟩
 |_=>simp[D2,N0]at hb
theorem Sat.le (h:Sat C st a w rho){ids:List (Nat×Nat)}(hle:Le ids st t):Sat C t a w (Ug ids rho)/\∀b off,Prv C.X (A1 t.regs) (Ug ids rho) b off->Prv C.X (A1 st.regs) rho b off:=by
 obtain⟨⟨hwf,hnd,hpin,hpn,hseen⟩,hE,hR⟩:=hle;have hlk:∀j i,lk ids j=some i->Ug ids rho j=rho i:=fun j i u=>by simp[Ug,u]
 have hnil:∀j,lk ids j=none->Ug ids rho j=.slice none 0 0:=fun j u=>by simp[Ug,u]
 simp only[wf,Aq7,Ar7]at hwf;obtain⟨⟨⟨_,_⟩,hwe⟩,hwr⟩:=hwf;have hjs:∀j,(t.regs.map (·.1)).contains j=true->Lv (A1 t.regs) j:=fun j u=>Xk (by simpa using u);have hown:∀j p b,A1 t.regs j=some p->D2 (Ug ids rho j) p b->∃i o,lk ids j=some i/\A1 st.regs i=some o/\D2 (rho i) o b/\leO st.regs ids o p/\∀off,Gb p off->Gb o off:=by
  intro j p b u hb;rcases CE hR u with⟨i,o,h1,h2,d⟩ | ⟨h1,e,k,f,vw,rfl⟩
  .rw[hlk j i h1]at hb;obtain⟨h4,h5⟩:=ZU d hb;exact⟨i,o,h1,h2,h4,d,h5⟩
  rw[hnil j h1]at hb;simp[D2,N0]at hb
 have hpi:∀b off,Prv C.X (A1 t.regs) (Ug ids rho) b off->Prv C.X (A1 st.regs) rho b off:=by
  rintro b off (hX|⟨j,p,u,hb,hp⟩)
  .exact .inl hX
  obtain⟨i,o,_,h2,d,_,h5⟩:=hown j p b u hb;exact .inr ⟨i,o,h2,d,h5 off hp⟩
 have hk:Keeps w (Prv C.X (A1 st.regs) rho) w (Prv C.X (A1 t.regs) (Ug ids rho)):=fun b o v hp hc=>⟨hc,fun hp'=>hp (hpi b o hp')⟩;have hv:∀i,i∈WR st.env t.env++Gh ids st.regs t.regs->∀e k n f vw base n' cap,A1 st.regs i=some (.vec e k n f vw)->rho i=.slice base n' cap->n' = n/\∀m,m<=n->RepP w (Prv C.X (A1 t.regs) (Ug ids rho)) (.slice base m cap) (.sl false k m f):=by
  intro i hi e k n f vw base n' cap hri hrho;have hh:=h.hp.holds i _ hri;rw[hrho]at hh;rcases hh with⟨he,rfl⟩ | ⟨b,cap',c,he,h1,h2,d,h4,h5,h6⟩
  .cases he;refine⟨rfl,fun m hm=>?_⟩;obtain rfl:m=0:=by omega
   exact .slnil k f
  cases he;refine⟨rfl,fun m hm=>?_⟩;refine .sl false b 0 cap k m f (fun i j=>c.getD (i*k+j) undef) (by omega) (fun i hi=>h5 i (by omega)) (fun x y hx hy=>?_) (fun x y hx hy=>((h6 x y (by omega) hy).1).keeps hk) none (fun _=>rfl);have hlt:=F9 (show x<n by omega) hy;have hle' : n*k<=c.size:=by rw[d];exact As3 k h2
  rw[At5];refine⟨C8 h1 (by omega),?_,(h6 x y (by omega) hy).2⟩;rintro (hX|⟨j,p,u,hb,hp⟩)
  .exact h.hp.out i _ b _ hri (by simp[D2,N0,hrho]) hX
  obtain⟨i',o,h7,h8,h9,h10,h11⟩:=hown j p b u hb
  have:=h.hp.sep i' i o _ b h8 hri h9 (by simp[D2,N0,hrho])
  subst this;rw[hri]at h8;cases h8;cases p with
  |vec e2 k2 n2 f2 vw2=>
   obtain⟨g,vw',he,h12,h13⟩:=h10;cases he;cases vw2
   .exact LB hseen (MB u) h7 hi
   simp only[Gb]at hp;omega
  |cells cs=>obtain⟨cs',he,_⟩:=h10;cases he
  |map es=>cases h10
  |arr n f=>obtain⟨g,he,_⟩:=h10;cases he
  |ghost cs=>obtain⟨cs',he,_⟩:=h10;cases he
  |yld r b=>cases h10
  |fam e n jr x=>obtain⟨_,_,he,_⟩:=h10;cases he
  |rows n g=>obtain⟨_,he,_⟩:=h10;cases he
  |dead=>simp[D2,N0]at hb
 have hA:∀{v:Value}{x:AV},RS C st w rho v x->∀{y:AV},leA st.regs ids x y->inA (t.regs.map (·.1)) y=true->(∀i∈Gg x y,i∈WR st.env t.env++Gh ids st.regs t.regs)->RepA w (Prv C.X (A1 t.regs) (Ug ids rho)) (Lv (A1 t.regs)) (Ug ids rho) v y:=
  fun hx y hle hin hs=>hx.le (live':=Lv (A1 t.regs)) hk hlk hnil hjs hv hle hin hs
 have hseenR:∀{r:B5}{j i:Nat}{cs cs' : List AV},(∀(q:Nat) (p:Obj),(q,p)∈r->(q,p)∈t.regs)->lk ids j=some i->((j,Obj.cells cs)∈r/\A1 st.regs i=some (.cells cs') \/ (j,Obj.ghost cs)∈r/\A1 st.regs i=some (.ghost cs'))->∀x∈IY cs' cs,x∈Gh ids st.regs r:=by
  intro r
  induction r with
  |nil=>intro j i cs cs' _ _ h;simp at h
  |cons p r ih=>
   intro j i cs cs' hsub hi hm x hx;obtain⟨q,p⟩:=p;have hrec:((j,Obj.cells cs)∈r/\A1 st.regs i=some (.cells cs') \/ (j,Obj.ghost cs)∈r/\A1 st.regs i=some (.ghost cs'))->x∈Gh ids st.regs r:=fun hm'=>ih (fun q p hqp=>hsub q p (At1 _ hqp)) hi hm' x hx;rcases hm with⟨hm,hr⟩ | ⟨hm,hr⟩
   .rcases At6.1 hm with he|hm
    .cases he;simp only[Gh,hi,hr];exact At2 _ hx
    have:=hrec (.inl ⟨hm,hr⟩)
    cases p<;>simp only[Gh]<;>first|exact Ar9 _ this|exact this
   rcases At6.1 hm with he|hm
   .cases he;simp only[Gh,hi,hr];exact At2 _ hx
   have:=hrec (.inr ⟨hm,hr⟩)
   cases p<;>simp only[Gh]<;>first|exact Ar9 _ this|exact this
 refine⟨⟨⟨⟨?_,?_,?_,fun b off hX=>h.hp.bound b off hX⟩,h.ext,h.size,h.same,h.keep.trans hk,?_,?_⟩,?_,?_,h.marks⟩,hpi⟩
 .intro j p u;rcases CE hR u with⟨i,o,h1,h2,d⟩ | ⟨h1,e,k,f,vw,rfl⟩
  .rw[hlk j i h1];have hh:=h.hp.holds i o h2;have hmem:=MB u;have hin:=hwr _ hmem;cases p with
   |cells cs=>obtain⟨cs',rfl,hl⟩:=d;obtain⟨l1,g1⟩:=FK hl;obtain⟨b,c,T,hb,h4,h5,h6⟩:=hh;refine⟨b,c,T,hb,h4,h5.trans l1,fun q s=>⟨?_,(h6 q (by omega)).2⟩⟩;refine hA (h6 q (by omega)).1 (g1 q (by omega)).1 (FL hin q s) fun z hz=>Ar9 _ ?_;exact hseenR (fun _ _ h=>h) h1 (.inl ⟨hmem,h2⟩) z ((g1 q (by omega)).2 z hz)
   |vec e k n f vw=>
    obtain⟨g,vw',rfl,h4,h5⟩:=d;rcases hh with hn|⟨b,cap,c,hb,h6,h7,h8,h9,h10,h11⟩
    .exact .inl hn
    exact .inr ⟨b,cap,c,hb,h6,h7,h8,h9,fun q s=>by rw[<- h4 q s];exact h10 q s,fun q r s hr=>by rw[<- h4 q s];exact⟨(h11 q r s hr).1.keeps hk,(h11 q r s hr).2⟩⟩
   |map es=>have d:o=.map es:=d;subst d;obtain⟨b,ents,clock,hb,h4,h5,h6,h9⟩:=hh;exact⟨b,ents,clock,hb,h4,h5,fun q s=>⟨(h6 q s).1.keeps hk,(h6 q s).2.keeps hk⟩,h9⟩
   |arr n f=>obtain⟨g,rfl,h7⟩:=d;obtain⟨b,c,T,hb,h4,h5,h6⟩:=hh;exact⟨b,c,T,hb,h4,h5,fun q s=>by rw[<- h7 q s];exact⟨(h6 q s).1.keeps hk,(h6 q s).2⟩⟩
   |ghost cs=>obtain⟨cs',rfl,hl⟩:=d;obtain⟨l1,g1⟩:=FK hl;obtain⟨vs,hb,h5,h6⟩:=hh;refine⟨vs,hb,h5.trans l1,fun q s=>?_⟩;refine hA (h6 q (by omega)) (g1 q (by omega)).1 (FL hin q s) fun z hz=>Ar9 _ ?_;exact hseenR (fun _ _ h=>h) h1 (.inr ⟨hmem,h2⟩) z ((g1 q (by omega)).2 z hz)
   |yld r b=>have d:o=.yld r b:=d;subst d;exact hh
   |fam e n jr x=>
    obtain⟨jr',x',rfl,h4,h5⟩:=d;obtain⟨rv,g1,g2,hv2⟩:=hh;simp only[inO,Aq7]at hin;refine⟨rv,hjs jr hin.1,(hlk _ _ h4).trans g2,?_⟩;rcases hv2 with hv2|⟨b,cap,c,hb,k1,k2,k3,k4,k5,k6⟩
    .exact .inl hv2
    refine .inr ⟨b,cap,c,hb,k1,k2,k3,k4,?_,?_⟩
    .intro q s;refine⟨(k5 q s).1,fun hx=>(k5 q s).2 ?_⟩;cases x with
     |none=>subst h5;exact hx
     |some y=>obtain⟨a',rfl,_⟩:=h5;exact hx
    cases x with
    |none=>trivial
    |some q=>obtain⟨i,a⟩:=q;obtain⟨a',rfl,h6,h7⟩:=h5;refine hA k6 h7 hin.2 fun z hz=>?_;cases a<;>cases a'<;>first|(simp[nov]at h6;done)|(unfold Gg at hz;simp at hz)
   |rows n g=>obtain⟨g',rfl,h4⟩:=d;obtain⟨rv,hb,k1,k2⟩:=hh;refine⟨rv,hb,fun q s=>by rw[<- h4 q s];exact (k1 q s).keeps' hk fun _ _=>rfl,fun q l b s hl h8 h9=>?_⟩;rw[<- h4 q s]at h8;rw[<- h4 l hl]at h9;exact k2 q l b s hl h8 h9
   |dead=>trivial
  rw[hnil j h1];exact .inl ⟨rfl,rfl⟩
 .intro i j oi oj b hi u hbi hbj;obtain⟨i',o1,h1,h2,d,_⟩:=hown i oi b hi hbi;obtain⟨j',o2,h4,h5,h6,_⟩:=hown j oj b u hbj
  have:=h.hp.sep i' j' o1 o2 b h2 h5 d h6
  subst this;exact Aj5 hnd h1 h4
 .intro j p b off u hb;obtain⟨i,o,_,h2,d,_⟩:=hown j p b u hb;exact h.hp.out i o b off h2 d
 .rintro b ⟨j,p,u,hb⟩;obtain⟨i,o,_,h2,d,_⟩:=hown j p b u hb;exact h.own b ⟨i,o,h2,d⟩
 .intro j r b u;rcases CE hR u with⟨i,o,h1,h2,d⟩ | ⟨h1,e,k,f,vw,he⟩
  .have d:o=.yld r b:=d;subst d;rw[hlk j i h1];exact h.yld i r b h2
  cases he
 .intro x;rcases Oc hE x with⟨b,h1,h2,d,h4⟩ | h1
  .rw[h2];exact hA (h.env x) d (hwe _ h1) fun z hz=>At2 _ (h4 z hz)
  rw[h1];exact .top _
 intro j u hl;obtain⟨p,hp⟩:=As1.1 hl;rcases CE hR hp with⟨i,o,h1,h2,d⟩ | ⟨h1,_⟩
 .have:=Aj6 hpin h1 u
  subst this;rw[hlk _ _ h1];exact h.pin _ u (by simp[Lv,h2])
 exfalso
 have:∀{r:B5},Ln ids r=true->(j,p)∈r->False:=by
  intro r
  induction r with
  |nil=>intro _ hm;simp at hm
  |cons q r ih=>
   intro s hm;obtain⟨x,y⟩:=q;simp only[Ln,Aq7,At0,decide_eq_true_eq]at s;rcases At6.1 hm with he|hm
   .cases he;rcases s.1 with h5|h5
    .rw[h1]at h5;cases h5
    omega
   exact ih s.2 hm
 exact this hpn (MB hp)
theorem semUp.le {ids:List (Nat×Nat)}{K:St->Prop}(hle:Le ids st t)(b:K t):semUp st K:=fun C a w rho hs=>⟨t,_,b,(hs.le hle).2,(hs.le hle).1⟩
end
end Go.AM
