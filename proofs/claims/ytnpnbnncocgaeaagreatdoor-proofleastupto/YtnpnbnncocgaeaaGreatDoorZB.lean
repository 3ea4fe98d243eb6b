/- Part 2. -/
import Derived.Test.YtnpnbnncocgaeaaGreatDoorZA
import Derived.Laws.BytesString
import Derived.Laws.StructEq
import Derived.ChangeKeysEq
set_option linter.defProp false
set_option linter.unusedSimpArgs false
set_option linter.unusedVariables false
set_option linter.unusedSectionVars false
namespace Go.AM
def BT6:=@Bool.false_eq_true
def BU3:=@Go.Result.andThen_ok
def BU5:=@Bool.not_eq_true'
def BU6:=@Option.isSome_iff_exists
def BV4:=@Go.Sem.run_bind
def BV6:=@List.map_congr_left
def BV8:=@List.append_nil
def BW9:=@List.mem_range
def BX4:=@Go.Sem.run_pure
def BY3:=@Classical.byContradiction
def BY4:=@Array.getElem?_modify
def BY9:=@Function.comp_def
def BZ3:=@List.getElem?_append_left
def BZ7:=@Option.some.inj
def BZ9:=@List.drop_eq_nil_of_le
def Cb5:=@Option.getD_none
def Cb9:=@List.all_cons
def Cc0:=@List.drop_eq_getElem_cons
def Cc2:=@List.mem_iff_getElem
def Cd0:=@List.map_map
def Cd2:=@Bool.not_true
def Cd3:=@Option.bind_eq_some_iff
def Cd4:=@Array.getElem?_push
def Cd8:=@List.range'_succ
def Ce5:=@Bool.true_and
def Ce7:=@Array.getElem_modify
def Ce8:=@List.drop_drop
def Cf1:=@List.take_succ_cons
def Cf5:=@List.length_nil
def Cf6:=@Option.map_none
def Cg8:=@Array.toList_setIfInBounds
def Ci8:=@List.getElem?_set_self
def Cj3:=@Array.mem_of_getElem?
def Ck1:=@Array.foldl_toList
def Ck7:=@Int.toNat_le
section
variable {P:Program}{C:Ctx}{st:St}{a:Act}{w:World}{rho:Nat->Value}{o:Oper}{out:Out}{d:Nat}
def YM (h:Sat C st a w rho){t:TypeId}{x ix:Operand}(ho:o.op=.indexAddr t x ix)(he:aop P st.env st.Qg d o.op=some out)(hc:E5 out.cond):OpOk P C o st a w rho out:=by
 rw[ho]at he;simp only[aop]at he;split at he
 .rename_i i hi;split at he
  .rename_i c y hy;cases he;obtain⟨ik,r⟩:=CU (h.aev ix) hi;have hx:=h.aev x;unfold Hk at hy;split at hy
   .
    rename_i n e j oo hk l;split at hy
    .rename_i m hm;cases hy;rw[l]at hx;generalize g:a.eval x=v at hx;cases hx with
     |reg j off b hl hr=>refine OpOk.pure h (v:=.pointer (some ⟨b,oo+i.toNat*m,none⟩)) ?_ (.reg j _ b hl hr);have h1:(0<=i/\i<(n:Int)):=hc;simp[execOp,ho,Instr.indexAt,r,asIntOf,BO w (MP hk),g,Instr.sureAddr,h1,Lg w hm,BZ0]
    cases hy
   .rename_i n e cs hk l;split at hy
    .rename_i m hm;cases hy;rw[l]at hx;have hx:=hx.toP;generalize g:a.eval x=v at hx;cases hx with
     |ptr b off cs c hcell hrep=>
      refine OpOk.pure h (v:=.pointer (some ⟨b,off+i.toNat*m,none⟩)) ?_ (.p _ _ (.ptr b _ _ (λj=>c (i.toNat*m+j)) (λj q=>?_) λj q=>?_))
      .have h1:(0<=i/\i<(n:Int)):=hc;simp[execOp,ho,Instr.indexAt,r,asIntOf,BO w (MP hk),g,Instr.sureAddr,h1,Lg w hm,BZ0]
      .simp only[BV5]at q
       have:=hcell (i.toNat*m+j) (by omega)
       rwa [<- Cf3]at this
      simp only[BV5]at q
      have:=hrep (i.toNat*m+j) (by omega)
      simpa[BT0,Cb8]using this
    cases hy
   .rename_i e nn k n f hk l;split at hy
    .rename_i hm;cases hy;rw[l]at hx;have hx:=hx.toP;have h1:(0<=i/\i<(n:Int)):=hc;generalize g:a.eval x=v at hx;cases hx with
     |slnil=>omega
     |sl _ b off cap _ _ _ c hn hlen hcell hrep sp hsp=>
      have u:i.toNat<n:=by omega
      obtain rfl:=hsp (by omega);refine OpOk.pure h (v:=.pointer (some ⟨b,off+i.toNat*k,none⟩)) ?_ (.p _ _ (.ptr b _ _ (λj=>c i.toNat j) (λj q=>?_) λj q=>?_))
      .simp[execOp,ho,Instr.indexAt,r,asIntOf,BO w (P6 hk),g,h1,Lg w hm,BZ0]
      .rw[hlen _ u]at q;exact hcell _ _ u q
      rw[hlen _ u]at q;exact hrep _ _ u q
    cases hy
   .rename_i e j hk l;split at hy
    .rename_i e' k n f vw q;split at hy
     .rename_i hm;cases hy;rw[l]at hx;have h1:(0<=i/\i<(n:Int)):=hc;generalize g:a.eval x=v at hx;cases hx with
      |vec j base nn cap hl hr=>
       have z:=h.hp.holds j _ q;rw[hr]at z;rcases z with⟨_,rfl⟩ | ⟨b,cap',c,s,_⟩
       .omega
       cases s;refine OpOk.pure h (v:=.pointer (some ⟨b,i.toNat*k+0,none⟩)) ?_ (.elt j k _ _ b _ cap hl hr);simp[execOp,ho,Instr.indexAt,r,asIntOf,BO w (P6 hk),g,h1,Lg w hm,BZ0]
     cases hy
    .rename_i e' n jr x0 q;split at hy
     .rename_i hm;cases hy;rw[l]at hx;have h1:(0<=i/\i<(n:Int)):=hc;generalize g:a.eval x=v at hx;cases hx with
      |vec j base nn cap hl hr=>
       obtain⟨rv,_,_,z⟩:=h.hp.holds j _ q;rw[hr]at z;rcases z with⟨_,rfl⟩ | ⟨b,cap',c,s,_⟩
       .omega
       cases s;refine OpOk.pure h (v:=.pointer (some ⟨b,i.toNat*1+0,none⟩)) ?_ (.elt j 1 _ _ b _ cap hl hr);simp[execOp,ho,Instr.indexAt,r,asIntOf,BO w (P6 hk),g,h1,Lg w hm,BZ0]
     cases hy
    cases hy
   .rename_i e j m0 hk l;split at hy
    .rename_i e' k n f vw q;split at hy
     .rename_i hm;cases hy;rw[l]at hx;have h1:(0<=i/\i<(m0:Int)/\m0<=n):=hc;generalize g:a.eval x=v at hx;cases hx with
      |vecp j _ base nn cap hl hr hmn=>
       have z:=h.hp.holds j _ q;rw[hr]at z;rcases z with⟨_,rfl⟩ | ⟨b,cap',c,s,_⟩
       .omega
       cases s;refine OpOk.pure h (v:=.pointer (some ⟨b,i.toNat*k+0,none⟩)) ?_ (.elt j k _ _ b _ cap hl hr);simp[execOp,ho,Instr.indexAt,r,asIntOf,BO w (P6 hk),g,h1.1,h1.2.1,Lg w hm,BZ0]
     cases hy
    cases hy
   cases hy
  cases he
 cases he
def QW:∀{cs:List PV}{ss:List (List UInt8)},Aw8 cs=some ss->ss.length=cs.length/\∀i,i<cs.length->cs.getD i default=.str (ss.getD i [])
 |[],ss,h=>by cases h;grind
 |x::r,ss,h=>by
  unfold Aw8 at h;split at h
  .grind
  .rename_i s r' a;cases a;split at h
   .rename_i l hl;cases h;obtain⟨h1,b⟩:=QW hl
    grind
   grind
  grind
def Bg4 (h:Sat C st a w rho){t:TypeId}{x ix:Operand}(q:o.op=.index t x ix)(r:aop P st.env st.Qg d o.op=some out)(hc:E5 out.cond):OpOk P C o st a w rho out:=by
 rw[q]at r;simp only[aop]at r
 repeat' split at r<;>try contradiction
 rename_i i hi _ c y hy;cases r;obtain⟨ik,g⟩:=CU (h.aev ix) hi;have hx:=h.aev x;unfold Bs0 at hy;split at hy
 .rename_i l hk b;cases hy;rw[b]at hx;have h1:(0<=i/\i<(l.length:Int)):=hc;refine OpOk.pure h (v:=.int .u8 ((l.getD i.toNat 0).toNat:Nat)) ?_ (.p _ _ (.v _));have f:i.toNat<l.length:=by omega
  simp[execOp,q,Instr.index,g,asIntOf,BO w (Lf hk),hx.toP.toStr,h1.1,bget,f,BT0]
 .rename_i n e cs hk b;split at hy
  .rename_i ss hke z;split at hy
   .rename_i hn;cases hy;rw[b]at hx;have hx:=hx.toP;have h1:(0<=i/\i<(n:Int)):=hc;obtain⟨hl,hg⟩:=QW z;generalize j:a.eval x=v at hx;cases hx with
    |agg vs cs hs _ hrep=>
     have f:i.toNat<cs.length:=by omega
     have s:=hrep i.toNat f;rw[hg i.toNat f]at s;have hp:(part e vs (i.toNat*1)).run P w=.ok (vs.getD i.toNat undef) w:=by simp_all[part,I2,Ai1,BT3]
     refine OpOk.pure h (v:=vs.getD i.toNat undef) ?_ (.p _ _ s);simp only[execOp,q,Instr.index,g,asIntOf,BV4,BO w (MP hk),j,BU3,BX4,Fg h1,Lg w hn.2,hp]
   grind
  split at hy
  .rename_i m hm;split at hy
   .rename_i c' y' a0;cases hy;rw[b]at hx;have hx:=hx.toP;obtain⟨a1,a2⟩:=(QN _ _).1 hc;generalize j:a.eval x=v at hx;cases hx with
    |agg vs cs hs h1 hrep=>obtain⟨u,hu,s⟩:=UL (rho:=rho) (live:=Lv (A2 st.Qg)) hs h1 hrep a0 a1;exact OpOk.pure h (by simp[execOp,q,Instr.index,g,asIntOf,BO w (MP hk),j,a2,Lg w hm,hu]) s
   grind
  grind
 grind
def Eh {x:Value}{k:IntKind}{i:Int}(hx:x=.int k i){y:Nat}(h:0<=i/\i<=y)(code:BoundsCode):(Instr.sliceBound x y code).run P w=.ok i.toNat w:=by
 simp_all[Instr.sliceBound,asIntOf]
def Au (v:Option Value)(i:Option Int):Prop:=(v=none/\i=none) \/ ∃k n,v=some (.int k n)/\i=some n
def FM {isS:Bool}{len cap:Nat}{lo a:Option Value}{l h:Option Int}(hl:Au lo l)(b:Au a h)(hc:0<=l.getD 0/\l.getD 0<=h.getD len/\h.getD len<=cap) :(Instr.sliceBounds isS len cap lo a none).run P w=.ok ((l.getD 0).toNat,(h.getD len).toNat,cap) w:=by
 have c:0<=h.getD len:=by omega
 rcases hl with⟨rfl,rfl⟩ | ⟨k,n,rfl,rfl⟩<;>rcases b with⟨rfl,rfl⟩ | ⟨k',n',rfl,rfl⟩<;>simp only[Cb5,BT9]at hc c⊢
 .simp[Instr.sliceBounds]
 .simp[Instr.sliceBounds,Eh (P:=P) (w:=w) (k:=k') (i:=n') rfl (show 0<=n' /\ n' <= (cap:Int) by omega)]
 .simp[Instr.sliceBounds,Eh (P:=P) (w:=w) (k:=k) (i:=n) rfl (show 0<=n/\n<=(len:Int) by omega)]
 simp[Instr.sliceBounds,Eh (P:=P) (w:=w) (k:=k') (i:=n') rfl (show 0<=n' /\ n' <= (cap:Int) by omega),Eh (P:=P) (w:=w) (k:=k) (i:=n) rfl (show 0<=n/\n<=(n'.toNat:Int) by omega)]
def X2 {t e:TypeId}{k:Nat}(ht:tk P t=some (.slice e))(hm:tsz P e=some k){base:Option Addr}{len cap:Nat}{lo a:Option Value}{l h:Option Int}(hl:Au lo l)(b:Au a h)
 (hc:0<=l.getD 0/\l.getD 0<=h.getD len/\h.getD len<=cap) :
 (Instr.sliceAt t (.slice base len cap) lo a none).run P w=.ok (.slice (if cap=(l.getD 0).toNat then base else base.map (·.add ((l.getD 0).toNat*k))) ((h.getD len).toNat-(l.getD 0).toNat) (cap-(l.getD 0).toNat)) w:=by
 have hb:=FM (P:=P) (w:=w) (isS:=true) hl b hc;simp[Instr.sliceAt,BO w (P6 ht),Instr.slice,hb,Lg w hm]
def Wq {t:TypeId}(ht:tk P t=some .str){s:List UInt8}{lo a:Option Value}{l h:Option Int}(hl:Au lo l)(b:Au a h)(hc:0<=l.getD 0/\l.getD 0<=h.getD s.length/\h.getD s.length<=s.length) :(Instr.sliceAt t (.string ⟨s.toArray⟩) lo a none).run P w=.ok (.string ⟨((s.take (h.getD s.length).toNat).drop (l.getD 0).toNat).toArray⟩) w:=by
 have hb:=FM (P:=P) (w:=w) (isS:=false) hl b hc
 simp_all[Instr.sliceAt,BO,Lf,Instr.slice,Tz,Bg3]
def MQ {t e:TypeId}{n:Nat}(ht:tk P t=some (.arr n e))(hm:tsz P e=some 1){b o:Nat}{lo a:Option Value}{h:Option Int}(hl:Au lo none)(c:Au a h)
 (hc:0<=h.getD n/\h.getD n<=n):(Instr.sliceAt t (.pointer (some ⟨b,o,none⟩)) lo a none).run P w=.ok (.slice (some ⟨b,o,none⟩) (h.getD n).toNat n) w:=by
 have hb:=FM (P:=P) (w:=w) (isS:=false) hl c (len:=n) (cap:=n) (by grind);simp[Instr.sliceAt,BO w (MP ht),Instr.sureAddr,hb,Lg w hm,Addr.add]
def AR0 {Pi:Nat->Nat->Prop}{b off cap k n l h' : Nat}{sp:Option Nat}{nn:Bool}{f:Nat->List PV}(a:Sb w Pi (.slice (some ⟨b,off,sp⟩) n cap) (.sl nn k n f))(d:l<=h')(q:h' <= n) :Sb w Pi (.slice (if cap=l then some ⟨b,off,sp⟩else some ((⟨b,off,sp⟩:Addr).add (l*k))) (h' - l) (cap-l)) (.sl nn k (h' - l) (λi=>f (l+i))):=by
 cases a with
 |sl _ _ _ _ _ _ _ c hn hlen hcell hrep _ hsp=>
  have e:∃off' sp',(if cap=l then some (⟨b,off,sp⟩:Addr)else some ((⟨b,off,sp⟩:Addr).add (l*k)))=some ⟨b,off',sp'⟩/\(h' - l≠0->off' = off+l*k/\sp' = none):=by
   split
   .exact⟨off,sp,rfl,λh=>by omega⟩
   by_cases r:l*k=0
   .exact⟨off,sp,by grind[Addr.add],by grind⟩
   exact⟨off+l*k,none,by grind[Addr.add],by grind⟩
  obtain⟨off',sp',g,m⟩:=e;rw[g];refine .sl nn b off' (cap-l) k (h' - l) _ (λi j=>c (l+i) j) (by omega) (by grind) (λi j s o=>?_) (by grind) sp' (by grind)
  have:=hcell (l+i) j (by omega) o
  rw[(m (by omega)).1,show off+l*k+i*k+j=off+(l+i)*k+j by rw[Cf0];omega];omega
theorem Oh {Pi:Nat->Nat->Prop}{base:Option Addr}{len cap k n l h' : Nat}{nn:Bool}{f:Nat->List PV}(d:Sb w Pi (.slice base len cap) (.sl nn k n f))(a:l<=h')(g:h' <= n) :Sb w Pi (.slice (if cap=l then base else base.map (·.add (l*k))) (h' - l) (cap-l)) (.sl nn k (h' - l) (λi=>f (l+i))):=by
 cases d with
 |slnil=>
  obtain rfl:h' = 0:=by omega
  obtain rfl:l=0:=by omega
  simpa using Sb.slnil (w:=w) (Pi:=Pi) k _
 |sl _ b off cap _ _ _ c hn hlen hcell hrep sp hsp=>exact AR0 (.sl nn b off cap k _ f c hn hlen hcell hrep sp hsp) a g
def CV (h:Sat C st a w rho){x:Option Operand}{i:Option (Option Int)}(b:x.map (λo=>asInt (aev st.env o))=i):(i=none->Au (x.map a.eval) none)/\∀n,i=some (some n)->Au (x.map a.eval) (some n):=by
 subst b;cases x with
 |none=>exact⟨λ_=>.inl ⟨rfl,rfl⟩,by grind⟩
 |some o=>refine⟨λh=>by grind,λn hn=>?_⟩;simp at hn;obtain⟨k,hk⟩:=CU (h.aev o) hn;exact .inr (by grind)
def YN (h:Sat C st a w rho){t:TypeId}{v:Value}{x:AV}(o:RS C st w rho v x){lo z:Option Value}{l hh:Option Int}(hl:Au lo l)(d:Au z hh){c:List Prop}{y:AV}{R' : C8}
 (g:Hl P st.Qg t x l hh=some (c,y,R')) (hc:E5 c):∃u,(Instr.sliceAt t v lo z none).run P w=.ok u w/\Sat C { st with Qg:=R' } a w rho/\Kp C st.Qg R' w w rho rho/\Ud w (Prv C.X (A2 R') rho) (Lv (A2 R')) rho u y:=by
 unfold Hl at g;split at g
 .
  rename_i s hk;have o:=o.toP.toStr;subst o;have fin:∀(l' h' : Option Int),Au lo l' -> Au z h' -> (0<=l'.getD 0/\l'.getD 0<=h'.getD s.length/\h'.getD s.length<=s.length)->y=.p (.str ((s.take (h'.getD s.length).toNat).drop (l'.getD 0).toNat))->R' = st.Qg ->
   ∃u,(Instr.sliceAt t (.string ⟨s.toArray⟩) lo z none).run P w=.ok u w/\Sat C { st with Qg:=R' } a w rho/\Kp C st.Qg R' w w rho rho/\Ud w (Prv C.X (A2 R') rho) (Lv (A2 R')) rho u y:=by
   rintro l' h' h1 h2 h3 rfl rfl;exact⟨_,Wq hk h1 h2 h3,h,Kp.refl _ _ _ _,.p _ _ (.str _)⟩
  split at g<;>cases g
  .exact fin _ _ hl d (by grind) (by simp) rfl
  .exact fin _ _ hl d (by grind[E5]) (by simp) rfl
  .exact fin _ _ hl d (by grind[E5]) (by simp) rfl
  exact fin _ _ hl d (by grind[E5]) (by simp) rfl
 .
  rename_i e nn k n f hk;split at g
  .rename_i hm;have o:=o.toP;obtain⟨base,len,cap,rfl,hlen,q⟩:∃base len cap,v=.slice base len cap/\len=n/\n<=cap:=by cases o<;>grind
   subst hlen;have fin:∀(l' h' : Option Int),Au lo l' -> Au z h' -> (0<=l'.getD 0/\l'.getD 0<=h'.getD len/\h'.getD len<=len)->y=.p (.sl nn k ((h'.getD len).toNat-(l'.getD 0).toNat) (λi=>f ((l'.getD 0).toNat+i)))->R' = st.Qg ->
    ∃u,(Instr.sliceAt t (.slice base len cap) lo z none).run P w=.ok u w/\Sat C { st with Qg:=R' } a w rho/\Kp C st.Qg R' w w rho rho/\Ud w (Prv C.X (A2 R') rho) (Lv (A2 R')) rho u y:=by
    rintro l' h' h1 h2 h3 rfl rfl;refine⟨_,X2 hk hm h1 h2 (by omega),h,Kp.refl _ _ _ _,.p _ _ ?_⟩
    grind[Oh]
   split at g<;>cases g
   .exact fin _ _ hl d (by grind) (by simp) rfl
   .exact fin _ _ hl d (by grind[E5]) (by simp) rfl
   .exact fin _ _ hl d (by grind[E5]) (by simp) rfl
   exact fin _ _ hl d (by grind[E5]) (by simp) rfl
  grind
 .
  rename_i e hk;split at g
  .rename_i k hm;cases g;have h1:l.getD 0=0/\hh.getD 0=0:=hc;have o:=o.toP.toV;subst o;have hz:hh.getD ((0:Nat):Int)=0:=by grind
   refine⟨_,X2 hk hm hl d (len:=0) (cap:=0) (by omega),h,Kp.refl _ _ _ _,.p _ _ ?_⟩;rw[hz,h1.1];simpa using Sb.v (w:=w) (Pi:=PiS C st rho) (.slice none 0 0)
  grind
 .
  rename_i m e cs hk;split at g
  .rename_i b;split at g
   .rename_i hm;obtain⟨hm,rfl⟩:=hm;cases g;have hc:0<=b/\b<=(cs.length:Int):=hc;cases o.toP with
    |ptr bb off _ c hcc hh=>
     refine⟨_,MQ hk hm hl d hc,h,Kp.refl _ _ _ _,.p _ _ (.sl true bb off cs.length 1 b.toNat _ (λi _=>c i) (by omega) (λ_ _=>rfl) (λi j z hj=>?_) (λi j z hj=>?_) none λ_=>rfl)⟩
     all_goals grind
   grind
  .split at g
   .rename_i hm;obtain⟨hm,rfl⟩:=hm;cases g;cases o.toP with
    |ptr bb off _ c hcc hh=>
     refine⟨_,MQ hk hm hl d (by simp),h,Kp.refl _ _ _ _,.p _ _ (.sl true bb off cs.length 1 cs.length _ (λi _=>c i) (BT8 _) (λ_ _=>rfl) (λi j z hj=>?_) (λi j z hj=>?_) none λ_=>rfl)⟩
     all_goals grind
   grind
  grind
 .
  rename_i e j hk;split at g
  .rename_i e' k n f vw hj;split at g
   .rename_i hm;obtain⟨hm,rfl⟩:=hm;cases o with
    |vec j base len cap hlv hr=>
    have q:len<=cap/\len=n:=by
     have hh:=h.hp.holds j _ hj;rw[hr]at hh;rcases hh with⟨hn,rfl⟩ | ⟨b,cap',c,hb',_,hncap,_⟩
     all_goals grind
    obtain⟨q,rfl⟩:=q;obtain⟨hv1,hv2,hv3⟩:=h.viewed hj;have hsl:=hv1.sl (j:=j) (m:=len) (e:=e') (k:=k) (n:=len) (f:=f) (by simp[A4]) hr (BT8 _);have r:(if cap=((none:Option Int).getD 0).toNat then base else base.map (·.add (((none:Option Int).getD 0).toNat*k)))=base:=by
     simp_all[Addr.add]
    split at g<;>cases g
    .refine⟨_,X2 hk hm hl d (len:=len) (cap:=cap) (by grind),h,Kp.refl _ _ _ _,?_⟩;rw[r];simpa using Ud.vec (w:=w) (Pi:=PiS C st rho) j base len cap hlv hr
    .refine⟨_,X2 hk hm hl d (len:=len) (cap:=cap) (by grind[E5]),h,Kp.refl _ _ _ _,?_⟩;rw[r];simp only[E5]at hc
     have:=Ud.vecp (w:=w) (Pi:=PiS C st rho) j _ base len cap hlv hr (Ck7.2 hc.2)
     grind
    .refine⟨_,X2 hk hm hl d (len:=len) (cap:=cap) (by grind[E5]),hv1,⟨hv2,hv3⟩,.p _ _ ?_⟩;simp only[E5]at hc
     have:=Oh hsl (l:=Int.toNat _) (h':=len) (Ck7.2 hc.2) (BT8 _)
     grind
    refine⟨_,X2 hk hm hl d (len:=len) (cap:=cap) (by grind[E5]),hv1,⟨hv2,hv3⟩,.p _ _ ?_⟩
    grind[E5,Oh,Int.toNat,Int.toNat_le_toNat,Int.toNat_le]
   grind
  grind
 grind
def Bg5 (h:Sat C st a w rho){t:TypeId}{x:Operand}{lo j:Option Operand}(n:o.op=.slice t x lo j none)(b:aop P st.env st.Qg d o.op=some out)(hc:E5 out.cond):OpOk P C o st a w rho out:=by
 rw[n]at b;simp only[aop]at b;have fin:∀(l g:Option Int),Au (lo.map a.eval) l->Au (j.map a.eval) g->∀c y R',Hl P st.Qg t (aev st.env x) l g=some (c,y,R')->out=⟨c,y,R'⟩->OpOk P C o st a w rho out:=by rintro l g hl i c y R' hs rfl;obtain⟨u,r,h1,f,q⟩:=YN h (h.aev x) hl i hs hc;exact⟨_,u,w,rho,by simp_all[execOp],.inl rfl,h1,f,q⟩
 split at b
 .rename_i h1 f;split at b
  .rename_i hs;cases b;exact fin none none ((CV h h1).1 rfl) ((CV h f).1 rfl) _ _ _ hs rfl
  grind
 .rename_i l h1 f;split at b
  .rename_i hs;cases b;exact fin (some l) none ((CV h h1).2 l rfl) ((CV h f).1 rfl) _ _ _ hs rfl
  grind
 .rename_i l h1 f;split at b
  .rename_i hs;cases b;exact fin none (some l) ((CV h h1).1 rfl) ((CV h f).2 l rfl) _ _ _ hs rfl
  grind
 .rename_i l m h1 f;split at b
  .rename_i hs;cases b;exact fin (some l) (some m) ((CV h h1).2 l rfl) ((CV h f).2 m rfl) _ _ _ hs rfl
  grind
 grind
end
section
variable {P:Program}{C:Ctx}{st:St}{a:Act}{w:World}{rho:Nat->Value}{o:Oper}{out:Out}{d:Nat}
def KB {Pi:Nat->Nat->Prop}{v:Value}{x:PV}{b:Bool}(h:Sb w Pi v x)(a:Yw x=some b):v=.bool b:=by
 unfold Yw at a;split at a<;>cases a
 .exact h.toBool
 exact h.toV
def Oi {Pi:Nat->Nat->Prop}{t:TypeId}{k:TK}(hk:tk P t=some k){v u:Value}{x y:PV}(d:Sb w Pi v x)(f:Sb w Pi u y){r:Bool}(c:Ai8 k x y=some r)(D:Nat) :(Op.equalIn (D+1) t v u).run P w=.ok r w:=by
 unfold Ai8 at c;split at c
 .rename_i k' k1 a k2 b;split at c
  .rename_i g;subst g;cases c;rw[d.toInt,f.toInt];exact run_equalIn_int w D t k1 k' a b (YH hk)
  cases c
 .split at c
  .rename_i a b ha hb;cases c;rw[KB d ha,KB f hb];exact run_equalIn_bool w D t a b (Bx5 hk)
  cases c
 .cases c;rw[d.toStr,f.toStr,run_equalIn_string w D t _ _ (Lf hk)];simp
 cases c
def YO {n:Nat}{t:TypeId}{k:TK}{ks:List TK}(hk:tk P t=some k)(h:lay P n t=some ks)(hs:∀fs,k ≠ .struct fs):ks=[k]/\Ai1 k=false:=by
 cases n with
 |zero=>simp[lay]at h
 |succ n=>obtain⟨dd,a,rfl⟩:=Dg hk;simp only[lay,a]at h;cases dd<;>simp at h<;>first|exact⟨h.symm,rfl⟩ | exact Hc rfl (hs _)
def Ew:∀{k1 k2:List TK}{a b:List PV}{r:Bool},Ax (k1++k2) a b=some r->∃r1 r2,Ax k1 (a.take k1.length) (b.take k1.length)=some r1/\Ax k2 (a.drop k1.length) (b.drop k1.length)=some r2/\r=(r1&&r2)/\a.length=k1.length+k2.length/\b.length=k1.length+k2.length
 |[],k2,a,b,r,h=>by
  have hl:∀{k:List TK}{a b:List PV}{r:Bool},Ax k a b=some r->a.length=k.length/\b.length=k.length:=by
   intro k
   induction k with
   |nil=>intro a b r h;cases a<;>cases b<;>simp[Ax]at h⊢
   |cons k ks ih=>
    intro a b r h;cases a with
    |nil=>simp[Ax]at h
    |cons x a=>
     cases b with
     |nil=>simp[Ax]at h
     |cons y b=>
      cases ks with
      |nil=>cases a<;>cases b<;>simp[Ax]at h⊢
      |cons k' ks=>
       simp only[Ax]at h;split at h
       .rename_i p q hp d
        have:=ih d
        simp only[BW3]at this⊢;omega
       cases h
  have:=hl h
  exact⟨true,r,by simp[Ax],by simpa using h,by simp,by simpa using this.1,by simpa using this.2⟩
 |k::k1,k2,a,b,r,h=>by
  cases a with
  |nil=>simp[Ax]at h
  |cons x a=>
   cases b with
   |nil=>simp[Ax]at h
   |cons y b=>
    cases c:k1++k2 with
    |nil=>
     obtain⟨rfl,rfl⟩:=List.append_eq_nil_iff.1 c;simp only[BV8]at h;cases a with
     |cons _ _=>cases b<;>simp[Ax]at h
     |nil=>
      cases b with
      |cons _ _=>simp[Ax]at h
      |nil=>exact⟨r,true,by simpa using h,by simp[Ax],by simp,rfl,rfl⟩
    |cons k' ks'=>
     have h' : ∃p q,Ai8 k x y=some p/\Ax (k1++k2) a b=some q/\r=(p&&q):=by
      rw[BU1,c]at h;simp only[Ax]at h;split at h
      .rename_i p q hp d;cases h;exact⟨p,q,hp,by rw[c];exact d,rfl⟩
      cases h
     obtain⟨p,q,hp,d,rfl⟩:=h';obtain⟨r1,r2,h1,f,rfl,g,i⟩:=Ew (k1:=k1) d;refine⟨p&&r1,r2,?_,by simpa using f,by simp[Bool.and_assoc],by simp;omega,by simp;omega⟩;cases k1 with
     |nil=>simp only[Ax,Cf5,List.take_zero,BT2]at h1;subst h1;simp[Ax,hp]
     |cons k'' k1=>simp only[BW3,Cf1];simp only[BW3]at h1;simp[Ax,hp,h1]
def Fj {l:List PV}{off:Nat}(d:PV)(h:off<l.length):(l.drop off).take 1=[l.getD off d]:=by rw[Cc0 h,Cf1,List.take_zero,BT0,BT4 h];rfl
structure RowP (w:World) (Pi:Nat->Nat->Prop) (vs:Array Value) (cs:List PV):Prop where
 size:vs.size=cs.length
 rep:∀i,i<cs.length->Sb w Pi (vs.getD i undef) (cs.getD i default)
def RowP.extract {Pi:Nat->Nat->Prop}{vs:Array Value}{cs:List PV}(h:RowP w Pi vs cs){off n:Nat}(hle:off+n<=cs.length):RowP w Pi (vs.extract off (off+n)) ((cs.drop off).take n):=by
 have hs:=h.size;refine⟨by simp;omega,λi a=>?_⟩;simp only[Cb3,BV5]at a
 have:=h.rep (off+i) (by omega)
 simpa[BT3,Ce1,show i<min (off+n) vs.size-off by omega,show off+i<vs.size by omega,show off+i<cs.length by omega,BT0,Cb7,show i<n by omega,Cb8]using this
def By1 {Pi:Nat->Nat->Prop}:∀(n:Nat) (t:TypeId) (ks:List TK),lay P n t=some ks->AP6 P n t=true->∀(vs us:Array Value) (as bs:List PV) (off D:Nat) (r:Bool),n<=D ->
 RowP w Pi vs as->RowP w Pi us bs->off+ks.length<=as.length->off+ks.length<=bs.length->Ax ks ((as.drop off).take ks.length) ((bs.drop off).take ks.length)=some r ->
 ∃x y,(part t vs off).run P w=.ok x w/\(part t us off).run P w=.ok y w/\(Op.equalIn D t x y).run P w=.ok r w:=by
 intro n
 induction n with
 |zero=>intro t ks h;simp[lay]at h
 |succ n ih=>
  intro t ks hl hh vs us as bs off D r hD hv j ha hb hc;obtain⟨D,rfl⟩:∃D',D=D' + 1:=⟨D-1,by omega⟩;cases hk:tk P t with
  |none=>
   have:P.underlying t=none:=by unfold tk at hk;cases j:P.underlying t<;>simp[j]at hk⊢
   simp[lay,this]at hl
  |some k=>
   by_cases hs:∀fs,k ≠ .struct fs
   .obtain⟨rfl,m⟩:=YO hk hl hs;simp only[Ca4]at ha hb hc;have ea:(as.drop off).take 1=[as.getD off default]:=by exact Fj _ (by omega)
    have eb:(bs.drop off).take 1=[bs.getD off default]:=by exact Fj _ (by omega)
    rw[ea,eb]at hc;simp only[Ax]at hc;have hvs:=hv.size;have hus:=j.size;refine⟨vs.getD off undef,us.getD off undef,?_,?_,Oi hk (hv.rep off (by omega)) (j.rep off (by omega)) hc D⟩
    .simp[part,I2 w hk,m,BT3,show off<vs.size by omega]
    simp[part,I2 w hk,m,BT3,show off<us.size by omega]
   obtain⟨fs,rfl⟩:∃fs,k=.struct fs:=BY3 λhn=>hs λfs e=>hn ⟨fs,e⟩;obtain⟨fa,b,_⟩:=Hm hk;simp only[lay,b]at hl;simp only[AP6,b,BT5,BU5]at hh
   repeat' split at hl<;>try contradiction
   rename_i l hlf q;cases hl;refine⟨.agg (vs.extract off (off+ks.length)),.agg (us.extract off (off+ks.length)),?_,?_,?_⟩
   .simp[part,I2 w hk,Ai1,Lg w q]
   .simp[part,I2 w hk,Ai1,Lg w q]
   have s:P.fieldsOf t=fa:=by simp[Program.fieldsOf,b]
   rw[run_equalIn_struct w D t _ _ (by rw[s];exact b) hh.1,s];have c:=hv.extract ha;have d:=j.extract hb;generalize hvs' : vs.extract off (off+ks.length)=vs' at c;generalize hus' : us.extract off (off+ks.length)=us' at d;generalize u : (as.drop off).take ks.length=as' at c hc;generalize v : (bs.drop off).take ks.length=bs' at d hc;have hal:as'.length=0+ks.length:=by rw[<- u];simp;omega
   have hbl:bs'.length=0+ks.length:=by rw[<- v];simp;omega
   have hin:∀(fl:List Field) (o:Nat) (l:List TK) (r:Bool),Bw3 (lay P n) fl o=some l->(fl.all λf=>decide (f.name ≠ "_")&&AP6 P n f.type)=true->as'.length=o+l.length->bs'.length=o+l.length ->
    Ax l (as'.drop o) (bs'.drop o)=some r->(Op.eqFields D vs' us' fl).run P w=.ok r w:=by
    intro fl
    induction fl with
    |nil=>intro o l r h1 _ h2 h3 z;simp only[Bw3,BT2]at h1;subst h1;have e1:as'.drop o=[]:=BZ9 (by simp at h2;omega);have e2:bs'.drop o=[]:=BZ9 (by simp at h3;omega);rw[e1,e2]at z;simp only[Ax,BT2]at z;subst z;simp[Op.eqFields]
    |cons f fl ihf=>
     intro o l r h1 h2 h3 z h5;simp only[Bw3]at h1;split at h1
     .cases h1
     rename_i a;have a:f.offset=o:=BY3 a;split at h1
     .rename_i ka hka;split at h1
      .rename_i kb hkb;cases h1;simp only[Cb9,BT5,decide_eq_true_eq]at h2;obtain⟨⟨g,hhv⟩,i⟩:=h2;obtain⟨r1,r2,hr1,hr2,rfl,_,_⟩:=Ew h5;simp only[BW7]at h3 z;obtain⟨x,y,hx,hy,he⟩:=ih f.type ka hka hhv vs' us' as' bs' o D r1 (by omega) c d (by omega) (by omega) hr1;have a0:=ihf (o+ka.length) kb r2 hkb (by simpa using i) (by omega) (by omega) (by simpa[Ce8,Nat.add_comm]using hr2);simp only[Op.eqFields,Fg g,BV4,a,hx,hy,he,BU3];cases r1
       .simp
       simp[a0]
      cases h1
     cases h1
   exact hin fa.toList 0 ks r hlf hh.2 hal hbl (by simpa using hc)
def MR {Pi:Nat->Nat->Prop}{e:TypeId}{k:TK}(hk:tk P e=some k)(hb:Br6 k=true){vs us:Array Value}{as bs:List PV}(f:RowP w Pi vs as)(g:RowP w Pi us bs)(D:Nat) :∀(m j:Nat) (r:Bool),as.length=j+m->bs.length=j+m->Ax (List.replicate m k) (as.drop j) (bs.drop j)=some r->(Op.eqItems (D+1) e 1 vs us (List.range' j m)).run P w=.ok r w
 |0,j,r,ha,hbl,h=>by rw[BZ9 (by omega),BZ9 (by omega)]at h;simp only[List.replicate,Ax,BT2]at h;subst h;simp[Op.eqItems]
 |m+1,j,r,ha,hbl,h=>by
  have b:Ai1 k=false:=by cases k<;>first|rfl|cases hb
  rw[List.replicate_succ]at h;obtain⟨r1,r2,a,c,rfl,_,_⟩:=Ew (k1:=[k]) (k2:=List.replicate m k) h;simp only[Ca4]at a c;rw[Fj default (by omega),Fj default (by omega)]at a;simp only[Ax]at a;have i:=f.size;have l:=g.size;have hx:(part e vs (j*1)).run P w=.ok (vs.getD j undef) w:=by simp[part,I2 w hk,b,BT3,show j<vs.size by omega]
  have hy:(part e us (j*1)).run P w=.ok (us.getD j undef) w:=by simp[part,I2 w hk,b,BT3,show j<us.size by omega]
  have n:=Oi hk (f.rep j (by omega)) (g.rep j (by omega)) a D;have d:=MR hk hb f g D m (j+1) r2 (by omega) (by omega) (by simpa[Ce8,Nat.add_comm]using c);simp only[Cd8,Op.eqItems,BV4,hx,hy,n,BU3];cases r1
  .simp
  simp[d]
def Jj {Pi:Nat->Nat->Prop}{t:TypeId}{v u:Value}{x y:PV}(g:Sb w Pi v x)(j:Sb w Pi u y){r:Bool}(a:Yy P t x y=some r) :(Op.equal t v u).run P w=.ok r w/\∃xs ys,v=.agg xs/\u=.agg ys:=by
 unfold Yy at a
 repeat' split at a<;>try contradiction
 rename_i n e ht _ _ _ k xs ys hk hc;have b:=MP ht;cases g with
 |agg vs _ hs1 _ hr1=>
 cases j with
 |agg us _ hs2 _ hr2=>
 refine⟨?_,_,_,rfl,rfl⟩;obtain⟨i,f,c⟩:=BV0.1 (show (P.info? e).map (·.size)=some 1 from hc.2);have d:P.cellsOf e=1:=by simp[Program.cellsOf,f,c]
 have hl:xs.length=n/\ys.length=n:=by
  have:=Ew (k1:=List.replicate n k) (k2:=[]) (by simpa using a)
  obtain⟨_,_,_,_,_,h1,l⟩:=this;exact⟨by simpa using h1,by simpa using l⟩
 show (Op.equalIn (9999+1) t (.agg vs) (.agg us)).run P w=_;rw[run_equalIn_array w 9999 vs us b f,d,List.range_eq_range'];exact MR hk hc.1 ⟨hs1,hr1⟩ ⟨hs2,hr2⟩ 9998 n 0 r (by omega) (by omega) (by simpa using a)
def Oj {Pi:Nat->Nat->Prop}{t:TypeId}{v u:Value}{x y:PV}(f:Sb w Pi v x)(g:Sb w Pi u y){r:Bool}(b:KP P t x y=some r)(hc:E5 (Ky P t)) :(Op.equal t v u).run P w=.ok r w/\(∀xs ys,v=.agg xs->u=.agg ys->P.eqGuardType P.depth t=false):=by
 unfold KP at b;unfold Ky at hc;split at b
 .rename_i fs hk;simp only[hk,E5,QK,BT5,BU5]at hc;split at b
  .rename_i ks xs ys c;refine⟨?_,λ_ _ _ _=>hc.2⟩;cases f with
   |agg vs _ hs1 _ hr1=>
   cases g with
   |agg us _ hs2 _ hr2=>
   obtain⟨fa,i,_⟩:=Hm hk;have hl:=c;simp only[lay,i]at hl
   repeat' split at hl<;>try contradiction
   rename_i l m d;cases hl;have a:xs.length=ks.length/\ys.length=ks.length:=by
    have:=Ew (k1:=ks) (k2:=[]) (by simpa using b)
    obtain⟨_,_,_,_,_,h1,j⟩:=this;exact⟨by simpa using h1,by simpa using j⟩
   obtain⟨x,y,hx,hy,o⟩:=By1 (P:=P) (w:=w) 10 t ks c hc.1 vs us xs ys 0 10000 r (by omega) ⟨hs1,hr1⟩ ⟨hs2,hr2⟩ (by omega) (by omega) (by simp[<- a.1];rw[a.1,<- a.2];simpa using b);have e1:(part t vs 0).run P w=.ok (.agg vs) w:=by
    have:vs.extract 0 ks.length=vs:=by rw[<- a.1,<- hs1];simp
    simp[part,I2 w hk,Ai1,Lg w d,this]
   have e2:(part t us 0).run P w=.ok (.agg us) w:=by
    have:us.extract 0 ks.length=us:=by rw[<- a.2,<- hs2];simp
    simp[part,I2 w hk,Ai1,Lg w d,this]
   rw[e1]at hx;rw[e2]at hy;cases hx;cases hy;exact o
  cases b
 .rename_i n e hk;simp only[hk,E5,BU5]at hc;exact⟨(Jj f g b).1,λ_ _ _ _=>hc⟩
 .rename_i k q s hk;refine⟨Oi hk f g b 9999,λxs ys h1 j=>?_⟩;subst h1;exfalso;cases f<;>unfold Ai8 at b<;>split at b<;>simp_all [Yw]
 cases b
end
section
variable {P:Program}{C:Ctx}{st:St}{a:Act}{w:World}{rho:Nat->Value}{o:Oper}{out:Out}{d:Nat}
def Bg6 {op:BinOp}{t:TypeId}{k l:IntKind}{x y:Int}{c:List Prop}{r:PV}(hk:k=l \/ op=.shl \/ op=.shr)(a:Yx op k x y=(c,r))(hc:E5 c)(Pi:Nat->Nat->Prop) :∃v,(binOp op t (.int k x) (.int l y)).run P w=.ok v w/\Sb w Pi v r:=by
 cases op<;>simp only[Yx,BU4]at a<;>obtain⟨rfl,rfl⟩:=a
 case shl=>
  have:¬y<0:=by grind[E5]
  exact⟨_,by first|(simp[binOp,Op.shift,this];done)|(simp[binOp,Op.shift,this];rfl),.v _⟩
 case shr=>
  have:¬y<0:=by grind[E5]
  exact⟨_,by first|(simp[binOp,Op.shift,this];done)|(simp[binOp,Op.shift,this];rfl),.v _⟩
 all_goals
  obtain rfl:k=l:=by rcases hk with h|h|h<;>first|exact h|cases h
 case quo=>simp only[E5]at hc;exact⟨_,by simp_all[binOp,Op.intDiv],.v _⟩
 case rem=>simp only[E5]at hc;exact⟨_,by simp_all[binOp,Op.intDiv],.v _⟩
 case add=>exact⟨_,by simp_all[binOp,Op.intArith],.v _⟩
 case sub=>exact⟨_,by simp_all[binOp,Op.intArith],.v _⟩
 case mul=>exact⟨_,by simp_all[binOp,Op.intArith],.v _⟩
 case and=>exact⟨_,by first|(simp[binOp,Op.intBits];done)|(simp[binOp,Op.intBits];rfl),.v _⟩
 case or=>exact⟨_,by first|(simp[binOp,Op.intBits];done)|(simp[binOp,Op.intBits];rfl),.v _⟩
 case xor=>exact⟨_,by first|(simp[binOp,Op.intBits];done)|(simp[binOp,Op.intBits];rfl),.v _⟩
 case andNot=>exact⟨.int k (E6 .andNot k x y),by simp_all[binOp,ne_eq,not_true_eq_false,Ih,Op.intBits,E6],.v _⟩
 case eql=>exact⟨_,by simp_all[binOp,Op.intCmp],.bb _⟩
 case neq=>exact⟨_,by simp_all[binOp,Op.intCmp],.bb _⟩
 case lss=>exact⟨_,by simp_all[binOp,Op.intCmp],.bb _⟩
 case leq=>exact⟨_,by simp_all[binOp,Op.intCmp],.bb _⟩
 case gtr=>exact⟨_,by simp_all[binOp,Op.intCmp],.bb _⟩
 case geq=>exact⟨_,by simp_all[binOp,Op.intCmp],.bb _⟩
theorem FN {op:BinOp}{t:TypeId}{x y:Operand}{v u:Value}(h1:¬(v=.nilIface/\u=.nilIface))(b:∀xs ys,v=.agg xs->u=.agg ys->P.eqGuardType P.depth t=false) :(eqGuard op t x y v u).run P w=.ok () w:=by
 have key:∀op,op=.eql \/ op=.neq->(eqGuard op t x y v u).run P w=.ok () w:=by
  intro op a;rcases a with rfl|rfl<;>simp only[eqGuard,Cd2,BT6,Ih]<;>split
  all_goals simp_all
 cases op<;>first|exact key _ (.inl rfl)|exact key _ (.inr rfl)|rfl
def Fk {t:TypeId}{v u:Value}{r:Bool}(h:(Op.equal t v u).run P w=.ok r w)(neg:Bool)(h1:∀k n,v ≠ .int k n)(a:∀s,v ≠ .string s)(b:∀k n,v ≠ .float k n)(c:∀k n m,v ≠ .complex k n m) :(binOp (if neg then .neq else .eql) t v u).run P w=.ok (.bool (r != neg)) w:=by
 cases neg
 .have:binOp .eql t v u=(do pure (.bool (<- Op.equal t v u)):Sem Value):=by cases v<;>first|rfl|exact Hc rfl (h1 _ _)|exact Hc rfl (a _)|exact Hc rfl (b _ _)|grind
  simp_all
 have:binOp .neq t v u=(do pure (.bool (!(<- Op.equal t v u))):Sem Value):=by cases v<;>first|rfl|exact Hc rfl (h1 _ _)|exact Hc rfl (a _)|exact Hc rfl (b _ _)|exact Hc rfl (c _ _ _)
 simp[this,h]
theorem UN {Pi:Nat->Nat->Prop}{t:TypeId}{v u:Value}{x y:PV}(d:Sb w Pi v x)(f:Sb w Pi u y){r:Bool}(c:KP P t x y=some r) :(∃k a b,v=.int k a/\u=.int k b/\r=(a==b)) \/ (∃a b,v=.bool a/\u=.bool b) \/ (∃a b:List UInt8,v=.string ⟨a.toArray⟩/\u=.string ⟨b.toArray⟩/\r=(a==b)) \/ (∃a b,v=.agg a/\u=.agg b):=by
 unfold KP at c;split at c
 .split at c
  .cases d;cases f
   grind
  grind
 .obtain⟨xs,ys,h1,g⟩:=(Jj d f c).2
  grind
 .unfold Ai8 at c;split at c
  .split at c
   .rename_i hk;subst hk;cases c;exact .inl ⟨_,_,_,d.toInt,f.toInt,rfl⟩
   grind
  .split at c
   .rename_i ha hb;cases c;exact .inr (.inl ⟨_,_,KB d ha,KB f hb⟩)
   grind
  .cases c;exact .inr (.inr (.inl ⟨_,_,d.toStr,f.toStr,rfl⟩))
  grind
 grind
def By2 {t e:TypeId}(hk:P.underlying t=some (.pointer e))(d:Nat)(p q:Option Addr)(h:p=none \/ q=none):(Op.equalIn (d+1) t (.pointer p) (.pointer q)).run P w=.ok (p.isNone&&q.isNone) w:=by
 rcases h with rfl|rfl
 .simp[Op.equalIn,BO w hk]
 cases p<;>simp[Op.equalIn,BO w hk]
def AR1 {t e:TypeId}(hk:P.underlying t=some (.slice e))(d:Nat)(p q:Option Addr)(n m k l:Nat)(h:p=none \/ q=none):(Op.equalIn (d+1) t (.slice p n m) (.slice q k l)).run P w=.ok (p.isNone&&q.isNone) w:=by
 rcases h with rfl|rfl
 .simp[Op.equalIn,BO w hk]
 cases p<;>simp[Op.equalIn,BO w hk]
theorem By3 {t e f:TypeId}(hk:P.underlying t=some (.map e f))(d:Nat)(p q:Option Nat)(h:p=none \/ q=none):(Op.equalIn (d+1) t (.map p) (.map q)).run P w=.ok (p.isNone&&q.isNone) w:=by
 rcases h with rfl|rfl
 .simp[Op.equalIn,BO w hk]
 cases p<;>simp[Op.equalIn,BO w hk]
theorem Ax3 {t:TypeId}{a b:Array TypeId}{c:Bool}(hk:P.underlying t=some (.func a b c))(d:Nat):(Op.equalIn (d+1) t .nilFunc .nilFunc).run P w=.ok true w/\∀f x y,(Op.equalIn (d+1) t (.func f x y) .nilFunc).run P w=.ok false w:=
 ⟨by simp[Op.equalIn,BO w hk],λf x y=>by simp[Op.equalIn,BO w hk]⟩
theorem AR2 {t:TypeId}{ms:Array (String×TypeId)}(hk:P.underlying t=some (.interface ms))(d:Nat)(u:TypeId)(x:Value):(Op.equalIn (d+1) t (.iface u x) .nilIface).run P w=.ok false w:=by simp[Op.equalIn,BO w hk]
def Odd (v:Value):Prop:=(∀xs,v ≠ .agg xs)/\(∀k n,v ≠ .int k n)/\(∀s,v ≠ .string s)/\(∀k n,v ≠ .float k n)/\(∀k n m,v ≠ .complex k n m)
def Aj8 {Pi:Nat->Nat->Prop}{live:Nat->Prop}{t:TypeId}{v u:Value}{x y:AV}(d:Ud w Pi live rho v x)(g:Ud w Pi live rho u y){b:Bool}(i:Bw4 P t x y=some b) :(Op.equal t v u).run P w=.ok b w/\¬(v=.nilIface/\u=.nilIface)/\Odd v:=by
 show (Op.equalIn (9999+1) t v u).run P w=.ok b w/\_;generalize 9999=D;unfold Bw4 at i;split at i
 .rename_i e hk;have fin:∀p q:Option Addr,v=.pointer p->u=.pointer q->(p=none \/ q=none)->b=(p.isNone&&q.isNone)->(Op.equalIn (D+1) t v u).run P w=.ok b w/\¬(v=.nilIface/\u=.nilIface)/\Odd v:=by rintro p q rfl rfl h rfl;exact⟨By2 hk D p q h,by simp,by simp[Odd]⟩
  split at i<;>cases i
  .exact fin _ _ d.toP.toV g.toP.toV (.inl rfl) rfl
  .have:=g.toP;generalize u=u at this fin;cases this;exact fin _ _ d.toP.toV rfl (.inl rfl) rfl
  .generalize u=u at g fin;cases g;exact fin _ _ d.toP.toV rfl (.inl rfl) rfl
  .generalize u=u at g fin;cases g;exact fin _ _ d.toP.toV rfl (.inl rfl) rfl
  .have:=d.toP;generalize v=v at this fin;cases this;exact fin _ _ rfl g.toP.toV (.inr rfl) rfl
  .generalize v=v at d fin;cases d;exact fin _ _ rfl g.toP.toV (.inr rfl) rfl
  generalize v=v at d fin;cases d;exact fin _ _ rfl g.toP.toV (.inr rfl) rfl
 .rename_i e hk;have fin:∀(p q:Option Addr) (n m k l:Nat),v=.slice p n m->u=.slice q k l->(p=none \/ q=none)->b=(p.isNone&&q.isNone)->(Op.equalIn (D+1) t v u).run P w=.ok b w/\¬(v=.nilIface/\u=.nilIface)/\Odd v:=by rintro p q n m k l rfl rfl h rfl;exact⟨AR1 hk D p q n m k l h,by simp,by simp[Odd]⟩
  split at i<;>cases i
  .exact fin _ _ _ _ _ _ d.toP.toV g.toP.toV (.inl rfl) rfl
  have:=d.toP;generalize v=v at this fin;cases this;exact fin _ _ _ _ _ _ rfl g.toP.toV (.inr rfl) rfl
 .rename_i e f hk;have fin:∀(p q:Option Nat),v=.map p->u=.map q->(p=none \/ q=none)->b=(p.isNone&&q.isNone)->(Op.equalIn (D+1) t v u).run P w=.ok b w/\¬(v=.nilIface/\u=.nilIface)/\Odd v:=by rintro p q rfl rfl h rfl;grind[By3,Odd]
  split at i<;>cases i
  .exact fin _ _ d.toP.toV g.toP.toV (.inl rfl) rfl
  generalize v=v at d fin;cases d;exact fin _ _ rfl g.toP.toV (.inr rfl) rfl
 .rename_i a c e hk;split at i<;>cases i
  .rw[d.toP.toV,g.toP.toV];grind[Ax3,Odd]
  rw[g.toP.toV];cases d;exact⟨(Ax3 hk D).2 _ _ _,by simp,by simp[Odd]⟩
 .rename_i ms hk;split at i<;>cases i
  rw[g.toP.toV];have:=d.toP;cases this;grind[AR2,Odd]
 grind
def Bg7 (h:Sat C st a w rho){op:BinOp}{t yt:TypeId}{x y:Operand}(ho:o.op=.binOp op t x y yt)(he:aop P st.env st.Qg d o.op=some out)(hc:E5 out.cond):OpOk P C o st a w rho out:=by
 rw[ho]at he;simp only[aop]at he;split at he
 .rename_i c r hb;cases he;have hx:=h.aev x;have hy:=h.aev y;have fin:∀v,(eqGuard op t x y (a.eval x) (a.eval y)).run P w=.ok () w->(binOp op t (a.eval x) (a.eval y)).run P w=.ok v w->Sb w (PiS C st rho) v r->OpOk P C o st a w rho ⟨c,.p r,st.Qg⟩:=by intro v h1 h2 u;exact OpOk.pure h (by simp_all[execOp]) (.p _ _ u)
  unfold bin at hb;split at hb
  .rename_i k n l m g i;rw[g]at hx;rw[i]at hy;have s:=hx.toP.toInt;have a0:=hy.toP.toInt;have hg:(eqGuard op t x y (a.eval x) (a.eval y)).run P w=.ok () w:=FN (by rw[s];simp) (by rw[s];simp);have key:Yx op k n m=(c,r)/\(k=l \/ op=.shl \/ op=.shr):=by
    grind
   obtain⟨v,hv,hr⟩:=Bg6 (P:=P) (w:=w) (t:=t) key.2 key.1 hc (PiS C st rho)
   grind
  have eq:∀neg:Bool,op=(if neg then .neq else .eql)->eqA P t (aev st.env x) (aev st.env y) neg=some (c,r)->OpOk P C o st a w rho ⟨c,.p r,st.Qg⟩:=by
   intro neg hop j;unfold eqA at j;split at j
   .rename_i r' f;cases j;split at f
    .rename_i p q g i;rw[g]at hx;rw[i]at hy;have a1:=hx.toP;have a2:=hy.toP;obtain⟨h1,h2⟩:=Oj a1 a2 f hc;have hg:(eqGuard op t x y (a.eval x) (a.eval y)).run P w=.ok () w:=by
      grind[FN,UN]
     refine fin (.bool (r' != neg)) hg ?_ (.bb _);subst hop;rcases UN a1 a2 f with⟨k,n,m,u,z,rfl⟩ | ⟨n,m,u,z⟩ | ⟨n,m,u,z,rfl⟩ | ⟨n,m,u,z⟩
     .rw[u,z];cases neg<;>simp[binOp,Op.intCmp,bne]
     .simp_all[Fk]
     .rw[u,z];cases neg<;>simp[binOp,Op.stringOp]
     simp_all[Fk]
    grind
   split at j
   .rename_i r' f;cases j;split at f
    .rename_i p q g i;rw[g]at hx;rw[i]at hy;obtain⟨h1,xs,ys,u,z⟩:=Jj hx.toP hy.toP f;have hg:(eqGuard op t x y (a.eval x) (a.eval y)).run P w=.ok () w:=
      FN (by rw[u];simp) λ_ _ _ _=>by grind[E5]
     refine fin (.bool (r' != neg)) hg ?_ (.bb _)
     simp_all[Fk]
    grind
   split at j
   .rename_i b a3;cases j;obtain⟨h1,h2,u,z,h5,h6,h7⟩:=Aj8 hx hy a3;refine fin (.bool (b != neg)) (FN h2 (by grind)) ?_ (.v _)
    simp_all[Fk]
   grind
  split at hb
  .split at hb
   .rename_i l m g i;cases hb;rw[g]at hx;rw[i]at hy;have s:=hx.toP.toStr;have a0:=hy.toP.toStr;refine fin (.string ⟨(l++m).toArray⟩) (FN (by rw[s];simp) (by rw[s];simp)) ?_ (.str _)
    have:¬(9223372036854775807<((l.length:Int)+(m.length:Int))):=by grind[E5]
    have hmx:IntKind.i64.max=9223372036854775807:=rfl;rw[s,a0]
    simp_all[binOp,Op.stringOp,Tz,By0]
   grind
  all_goals grind
 grind
end
section
variable {P:Program}{C:Ctx}{st:St}{a:Act}{w:World}{rho:Nat->Value}{o:Oper}{out:Out}{d:Nat}
def Sat.grow (h:Sat C st a w rho){w' : World}(c:w.heap.size<=w'.heap.size)(d:∀b,b<w.heap.size->w'.heap[b]? = w.heap[b]?)(hext:Ext w w':=by exact⟨rfl,rfl⟩):Sat C st a w' rho/\Kp C st.Qg st.Qg w w' rho rho:=by
 obtain⟨h1,f⟩:=h.step (R':=st.Qg) (rho':=rho) (w':=w') (λ_=>False) (λ_ _=>rfl) (by grind) c (by grind) (λj _ _ h=>h.elim) (by grind)
  (by grind) (by grind) (by grind) (by grind) hext
 exact⟨h1,f,by grind⟩
def Ok (e:TypeId)(l:List UInt8):∃w' cap c,(Conv.stringToBytes e ⟨l.toArray⟩).run P w=.ok (.slice (some ⟨w.heap.size,0,none⟩) l.length cap) w' /\ Ext w w' /\ l.length<=cap/\w.heap.size<=w'.heap.size/\(∀b,b<w.heap.size->w'.heap[b]? = w.heap[b]?) /\
 ∀i,i<l.length->w'.cell? ⟨w.heap.size,i,none⟩=some (.int .u8 ((l.getD i 0).toNat:Nat))/\c=():=by
 have d:l.length<=grownCap w l.length 0 e:=grownCap_ge w _ _ e;refine⟨(w.drew.alloc (.cells ((l.toArray.map λb=>Value.int .u8 (b.toNat:Nat))++Array.replicate (grownCap w l.length 0 e-l.length) (.int .u8 0)) e)).freeze ⟨w.heap.size,l.length+(grownCap w l.length 0 e-l.length),none⟩ 1,grownCap w l.length 0 e,(),?_,⟨rfl,rfl⟩,d,?_,?_,?_⟩
 .have f:∀arr:Array Value,(w.drew.alloc (.cells arr e)).shape? w.heap.size=some (e,arr.size):=by
   grind[heap_alloc_new,World.size_drew,World.shape?]
  simp_all[Conv.stringToBytes,Tz,Question.forced,newRow,markStringish,grownCap]
 .simp[World.freeze]
 .intro b hb;have h1:b≠w.heap.size:=by omega
  simp only[World.freeze,Nat.one_ne_zero,Ih,BY4,Gb (Cb0 h1)];exact heap_alloc_old w.drew _ b hb
 intro i g;refine⟨?_,rfl⟩;have a:=heap_alloc_new w.drew (.cells ((l.toArray.map λb=>Value.int .u8 (b.toNat:Nat))++Array.replicate (grownCap w l.length 0 e-l.length) (.int .u8 0)) e);simp only[World.size_drew]at a;simp only[World.cell?,World.freeze,Nat.one_ne_zero,Ih,BY4,Hu,a,BU2]
 grind
def Aj9 {Pi:Nat->Nat->Prop}{f:List PV}{v:Value}(a:(La f).isSome=true)(hl:f.length=1)(b:Sb w Pi v (f.getD 0 default)):∃n,v=.int .u8 n/\La f=some (UInt8.ofNat n.toNat):=by
 unfold La at a⊢;split at a
 .rename_i n;exact⟨n,b.toInt,rfl⟩
 grind
def AE7 (ns:List Int):∀s:ByteArray,ns.foldl (λr n=>r.push (UInt8.ofNat n.toNat)) s=⟨s.data++(ns.map λn=>UInt8.ofNat n.toNat).toArray⟩:=by
 induction ns<;>simp_all
def MS {v:Value}{n:Nat}{news:List Value}(hs:(Builtin.firstCells 1 n v).run P w=.ok news.toArray w)(hl:(Builtin.lenOf v).run P w=.ok n w)(a:∃b k c,v=.slice b k c){ns:List Int}(hn:news=ns.map (Value.int .u8))(d:∀k c,v=.slice none k c->news=[]) :(Conv.bytesToString v).run P w=.ok (.string (ns.foldl (λr n=>r.push (UInt8.ofNat n.toNat)) ByteArray.empty)) w:=by
 obtain⟨b,k,c,rfl⟩:=a;simp only[Builtin.lenOf,BX4,Result.ok.injEq,and_true]at hl;subst hl;cases b with
 |none=>
  have:=d k c rfl
  simp_all[Conv.bytesToString,ByteArray.empty,ByteArray.emptyWithCapacity]
 |some ad=>
  simp only[Builtin.firstCells,BY0]at hs;rw[hn]at hs
  grind[run_bytesToString]
def AE8 (h:Sat C st a w rho){s t:TypeId}{x:Operand}(ho:o.op=.convert s t x)(he:aop P st.env st.Qg d o.op=some out)(hc:E5 out.cond):OpOk P C o st a w rho out:=by
 rw[ho]at he;simp only[aop]at he;have hx:=h.aev x;split at he
 .rename_i k0 k hs ht;split at he
  .rename_i k1 n z;cases he;rw[z]at hx;refine OpOk.pure h (v:=.int k (k.wrap n)) ?_ (.p _ _ (.v _));simp[execOp,ho,convert,BO w (YH hs),BO w (YH ht),hx.toP.toInt,Conv.intToInt]
  grind
 .rename_i hs ht;split at he
  .rename_i l z;cases he;rw[z]at hx;refine OpOk.pure h (v:=.string ⟨l.toArray⟩) ?_ (.p _ _ (.str _));simp[execOp,ho,convert,BO w (Lf hs),BO w (Lf ht),hx.toP.toStr]
  grind
 .rename_i e hs ht;split at he
  .rename_i l z hel;cases he;rw[z]at hx;obtain⟨w',cap,c,hr,hxt,hcap,hsz,hheap,hcell⟩:=Ok (P:=P) (w:=w) e l;obtain⟨h1,h2⟩:=h.grow hsz hheap hxt;refine⟨_,_,w',rho,?_,.inl rfl,h1,h2,.p _ _ (.sl true w.heap.size 0 cap 1 l.length _ (λi _=>.int .u8 ((l.getD i 0).toNat:Nat)) hcap (λi hi=>rfl) (λi j hi hj=>?_) (λi j hi hj=>?_) none λ_=>rfl)⟩
   .simp[execOp,ho,convert,BO w (Lf hs),BO w (P6 ht),BO w (YH hel),hx.toP.toStr,hr]
   .obtain rfl:j=0:=by omega
    refine⟨by grind,?_,rfl⟩;rintro (hX|⟨j',o',hj',hbo,_⟩)
    .have:=h.hp.bound _ _ hX;omega
    have:=h.hp.lt ⟨j',o',hj',hbo⟩;omega
   obtain rfl:j=0:=by omega
   exact .v _
  grind
 .rename_i e hs ht
  repeat' split at he<;>try contradiction
  rename_i hel _ _ n f hsl q;cases he;have hc:∀i,i<n->(La (f i)).isSome=true:=hc;obtain⟨c,hsrc,hfl,hfr⟩:=QV h hx q hs rfl;have hb:∀i,i<n->∃m,c i 0=.int .u8 m/\La (f i)=some (UInt8.ofNat m.toNat):=λi hi=>Aj9 (hc i hi) (hfl i hi) (hfr i 0 hi (by omega)).1;obtain⟨g,hg⟩:∃g:Nat->Int,∀i,i<n->c i 0=.int .u8 (g i)/\La (f i)=some (UInt8.ofNat (g i).toNat):=
   ⟨λi=>if hi:i<n then (hb i hi).choose else 0,by grind⟩
  have hnews:Cy c n 1=((List.range n).map g).map (Value.int .u8):=by
   simp_all[Cy,BY0,Nat.div_one,Nat.mod_one,Cd0,BV6,BW9]
  have u:∃b k cc,a.eval x=.slice b k cc:=by
   generalize z:aev st.env x=y at hx hsl q;generalize a.eval x=v at hx;cases hx with
   |p _ y hy=>
    cases hy with
    |v y=>
     simp only[elems]at q;split at q<;>first
      |(rename_i heq;cases heq;exact⟨_,_,_,rfl⟩)
      |(cases q;done)
      |(rename_i heq;cases heq)
    |str l=>grind[Br7]
    |slnil=>grind
    |sl=>grind
    |_=>simp[elems]at q
   |vec=>grind
   |vecp=>grind
   |_=>simp[elems]at q
  have hnil:∀k cc,a.eval x=.slice none k cc->Cy c n 1=[]:=by
   intro k cc hv;have h1:=hsrc.cells;rw[hv]at h1;simp only[Builtin.firstCells,BX4,Result.ok.injEq,and_true]at h1
   grind
  have hrun:=MS hsrc.cells (hsrc.len w) u hnews hnil;refine OpOk.pure h (v:=.string ⟨((List.range n).map λi=>(La (f i)).getD 0).toArray⟩) ?_ (.p _ _ (.str _));have hfin:(((List.range n).map g).foldl (λr m=>r.push (UInt8.ofNat m.toNat)) ByteArray.empty)=⟨((List.range n).map λi=>(La (f i)).getD 0).toArray⟩:=by
   rw[AE7]
   simp_all
  rw[hfin]at hrun;obtain⟨b,k,cc,hv⟩:=u;rw[hv]at hrun
  simp_all[execOp,run_convert_bytes_string,P6,YH,Lf]
 grind
def YP (h:Sat C st a w rho){t:TypeId}{l c:Operand}(ho:o.op=.makeSlice t l c)(he:aop P st.env st.Qg d o.op=some out)(hc:E5 out.cond):OpOk P C o st a w rho out:=by
 rw[ho]at he;simp only[aop]at he
 repeat' split at he<;>try contradiction
 rename_i e n m hk hn hm r _ _ k z s hz hzl;cases he;obtain⟨h1,h2,h3,h4⟩:0<=n/\n<=m/\m*EZ P e<=140737488355328/\m<=140737488355328:=hc;obtain⟨kn,u⟩:=CU (h.aev l) hn;obtain⟨km,y⟩:=CU (h.aev c) hm;obtain⟨i,v,hi,hiz,rfl⟩:=CT hz;have hk' : i.size=k:=by grind[Qw]
 have hvz:v.cells.size=k:=by grind
 have hby:EZ P e=i.bytes:=by grind[EZ,Program.bytesOf]
 rw[hby]at h3;have w64:∀x:Int,0<=x->x<=140737488355328->IntKind.i64.wrap x=x:=by
  intro x hx hx';have e1:x % (2 ^ 64:Int)=x:=(by omega);unfold IntKind.wrap;simp only[IntKind.bits,IntKind.signed,e1];rw[Gb]
  grind
 have hrange:(i.bytes:Int)*m<=140737488355328:=by have e:m*(i.bytes:Int)=(i.bytes:Int)*m:=Int.mul_comm _ _;omega
 obtain⟨arr,f⟩:∃arr:Array Value,arr=(Array.range (m.toNat*k)).map ((if m.toNat*k=0 then #[]else v.cells)[· % (if m.toNat*k=0 then #[]else v.cells).size]!):=⟨_,rfl⟩;have hrun:(Instr.makeSlice t (a.eval l) (a.eval c)).run P w=.ok (.slice (some ⟨w.heap.size,0,none⟩) n.toNat m.toNat) (w.alloc (.cells arr e)):=by
  have b1:¬(m<0):=by omega
  have b2:¬(281474976710656<(i.bytes:Int)*m):=by omega
  have b3:¬(n<0):=by omega
  have b4:¬(m<n):=by omega
  rw[f];by_cases q:m.toNat*k=0
  .simp[Instr.makeSlice,BO w (P6 hk),u,y,_root_.Go.asInt,asIntOf,Bx6 w hi,w64 n h1 (by omega),w64 m (by omega) h4,b1,b2,b3,b4,Lg w s,q,newRow]
  simp[Instr.makeSlice,BO w (P6 hk),u,y,_root_.Go.asInt,asIntOf,Bx6 w hi,w64 n h1 (by omega),w64 m (by omega) h4,b1,b2,b3,b4,Lg w s,q,newRow,Bf9 w hi hiz]
 have a0:∀i' j,i' < n.toNat->j<k->arr.getD (i' * k+j) undef=v.cells.getD j undef:=by
  intro i' j a1 hj;have hlt:=M8 (show i' < m.toNat by omega) hj;have q:¬(m.toNat*k=0):=by omega
  rw[f]
  simp_all[Ih,Cc8,Cf4,BZ8,BT3]
 obtain⟨h1',h2',h3'⟩:=h.fresh (Dh d 0) r (.vec e k n.toNat (λ_=>v.cells.toList.map Tw) false) (.slice (some ⟨w.heap.size,0,none⟩) n.toNat m.toNat) (w':=w.alloc (.cells arr e)) (by simp)
  (λb hb=>heap_alloc_old w _ b hb) (λb hb=>by grind[G1,Q9]) (λhk=>by
   refine .inr ⟨w.heap.size,m.toNat,arr,rfl,heap_alloc_new w _,by omega,by rw[f];simp,by grind[maxLen],by grind,λi' j a1 hj=>?_⟩;rw[a0 i' j a1 hj];have hj' : j<v.cells.size:=by omega
   have e:(v.cells.getD j undef)=v.cells[j]:=by simp_all
   rw[e];refine⟨?_,?_⟩
   .grind[Array.getElem?_eq_getElem,O6]
   have g:=hzl.2;simp only[Cc7,BU0,Function.comp]at g;exact (O6 w (λ_ _=>False) _).cell (g _ (by simp)))
 exact⟨_,_,_,_,by simp_all[execOp],.inl rfl,h1',⟨h2',h3'⟩,.vec _ (some ⟨w.heap.size,0,none⟩) n.toNat m.toNat (by simp[Lv,A4]) (by simp)⟩
end
section
variable {P:Program}{C:Ctx}{st:St}{a:Act}{w:World}{rho:Nat->Value}{o:Oper}{out:Out}{d:Nat}
def Ax4 (off:Nat):∀(vs:List Value) (k:Nat) (cells:Array Value),off+k+vs.length<=cells.size ->
 ((vs.zipIdx k).foldl (λcs (p:Value×Nat)=>cs.setIfInBounds (off+p.2) p.1) cells).toList=splice cells.toList (off+k) vs
 |[],k,cells,h=>by simp[splice]
 |v::vs,k,cells,h=>by
  simp at h;rw[List.zipIdx_cons,List.foldl_cons,Ax4 off vs (k+1) _ (by grind)];have e:=list_seg_step cells.toList (off+k) v vs (by omega)
  simp_all[splice,Cg8,Cf3]
def YQ (off:Nat)(vs:Array Value)(cells:Array Value)(h:off+vs.size<=cells.size) :(vs.zipIdx.foldl (λcs (p:Value×Nat)=>cs.setIfInBounds (off+p.2) p.1) cells).toList=splice cells.toList off vs.toList:=by
 rw[<- Ck1,Array.toList_zipIdx]
 simp_all[Ax4]
def TA (fs:List Field)(h:∀f∈fs,(tsz P f.type).isSome=true):(fs.mapM λf=>(do pure (f.offset,<- sizeOf f.type):Sem (Nat×Nat))).run P w=.ok (fs.map λf=>(f.offset,(tsz P f.type).getD 0)) w:=by
 induction fs with
 |nil=>simp
 |cons f fs ih=>
  obtain⟨m,hm⟩:=BU6.1 (h f (by simp));rw[List.mapM_cons]
  simp_all[BV4,Lg,BU3,BX4,BU9,BT9]
def UO (h:Sat C st a w rho){GY:Nat->Option (Nat×Nat)}:∀(parts:List (Nat×Operand)) (cs cs' : List AV) (c:Array Value) (f:List AV->Option (List AV)),
 (∀cs,OU st.env GY parts cs=f cs)->f cs=some cs' -> c.size=cs.length->RepL w (PiS C st rho) (Lv (A2 st.Qg)) rho (λi=>c.getD i undef) cs ->
 ∃c',Instr.fill GY c (parts.map λq=>(q.1,a.eval q.2))=some c' /\ c'.size=cs'.length/\RepL w (PiS C st rho) (Lv (A2 st.Qg)) rho (λi=>c'.getD i undef) cs'
 |[],cs,cs',c,f,hf,he,hs,hr=>by rw[<- hf]at he;simp only[OU,BT2]at he;subst he;exact⟨c,rfl,hs,hr⟩
 |(i,x)::parts,cs,cs',c,f,hf,he,hs,hr=>by
  rw[<- hf]at he;simp only[OU]at he
  repeat' split at he<;>try contradiction
  rename_i off m b hp j;have hc:=KA (h.aev x) b;have d:=YQ off (a.eval x).cells c (by omega);have g:((a.eval x).cells.zipIdx.foldl (λcs (p:Value×Nat)=>cs.setIfInBounds (off+p.2) p.1) c).size=(splice cs off (cellsOf (aev st.env x))).length:=by rw[<- Ca1,d,I6 _ _ _ (by grind),I6 _ _ _ (by omega)];omega
  obtain⟨c',h1,n,o⟩:=UO h parts (splice cs off (cellsOf (aev st.env x))) cs' _ _ (λ_=>rfl) he g (by
   have:=RepL.splice (c:=c.toList) (cs:=cs) (vs:=(a.eval x).cells.toList) (new:=cellsOf (aev st.env x)) (off:=off) (by omega)
    (by intro i l;have:=hr i l;simpa only[E9]using this) (by grind) (by simp_all) (by omega)
   grind[E9])
  simp_all[BU9,Instr.fill,Gb]
def Wr {t:TypeId}{i:TypeInfo}{v:Value}{Pi:Nat->Nat->Prop}{live:Nat->Prop}{rho:Nat->Value}(a:(v.cells.toList.map Tw).all LY=true):RepL w Pi live rho (λi=>v.cells.getD i undef) ((v.cells.toList.map Tw).map .p):=by
 intro i b;simp at b;have e:(v.cells.getD i undef)=v.cells[i]:=by simp_all
 simp only[e];refine⟨?_,?_⟩
 .simp only[BT0,BT7,BX8,BX3 b,BU2,BT9];exact .p _ _ (O6 _ _ _)
 simp only[Cc7,BU0,Function.comp]at a;exact (O6 w (λ_ _=>False) _).cell (a _ (by simp))
def Bg8 (h:Sat C st a w rho){t:TypeId}{parts:Array (Nat×Operand)}(l:o.op=.build t parts)(g:aop P st.env st.Qg d o.op=some out):OpOk P C o st a w rho out:=by
 rw[l]at g;simp only[aop]at g
 repeat' split at g<;>try contradiction
 rename_i z s _ _ cs c hb;cases g;simp only[BT5]at c;obtain⟨i,v,u,j,rfl⟩:=CT s;obtain⟨c',h1,x,y⟩:=UO h (GY:=UE P t) parts.toList _ cs v.cells _ (λ_=>rfl) hb (by simp) (Wr (t:=t) (i:=i) c.1);refine OpOk.pure h (v:=.agg c') ?_ (y.mkAgg x λ_ _=>rfl);have b:(parts.map λq=>(q.1,a.eval q.2)).toList=parts.toList.map λq=>(q.1,a.eval q.2):=by simp
 have hs:=c.2;unfold AP7 at hs;split at hs
 .rename_i fs hk;obtain⟨fa,hu,rfl⟩:=Hm hk;have hp:UE P t=λi=>((fa.toList.map λf=>(f.offset,(tsz P f.type).getD 0)).toArray)[i]?:=by
   funext i;simp only[UE,hk,BT7,BX8,List.getElem?_toArray];cases r:fa[i]? with
   |none=>simp
   |some f=>
    simp only[Cc7,BU0,Function.comp]at hs
    have:=hs f (by have:=Cj3 r;simpa using this)
    grind
  have hm:=TA (P:=P) (w:=w) fa.toList (λf r=>by
   simp only[Cc7,BU0,Function.comp]at hs
   grind)
  have a0 : (fa.mapM λf=>(do pure (f.offset,<- sizeOf f.type):Sem (Nat×Nat))).run P w=.ok ((fa.toList.map λf=>(f.offset,(tsz P f.type).getD 0)).toArray) w:=by
   obtain⟨fl⟩:=fa;rw[List.mapM_toArray]
   simp_all
  rw[hp]at h1
  simp_all[execOp,BV4,Instr.build,Bf9,BU3,BO,BX4]
 .rename_i n e hk;obtain⟨m,hm⟩:=BU6.1 hs;have hp:UE P t=λi=>some (i*m,m):=by funext i;grind[UE]
  rw[hp]at h1;simp only[execOp,l,BV4,Instr.build,Bf9 w u j,BU3,BO w (MP hk),Lg w hm,b,h1,BX4]
 grind
end
section
variable {P:Program}{C:Ctx}{st:St}{a:Act}{w:World}{rho:Nat->Value}{o:Oper}{out:Out}{d:Nat}
def AR3 {Qg R' : C8}{x:AV}{y:PV}(h:Fa Qg x=some (y,R')){i:Nat}(a:A2 Qg i=none):A2 R' i=none:=by
 unfold Fa at h;split at h
 .grind
 .grind[A4]
 all_goals grind[A4]
def HV:∀(xs:List Operand) (st:St) (l:List PV) (R' : C8),Sat C st a w rho->Hj st.Qg (xs.map (aev st.env))=some (l,R') ->
 Sat C { st with Qg:=R' } a w rho/\Kp C st.Qg R' w w rho rho/\l.length=xs.length/\(∀i x,xs[i]? = some x->Sb w (Prv C.X (A2 R') rho) (a.eval x) (l.getD i default))/\∀i,A2 st.Qg i=none->A2 R' i=none
 |[],st,l,R',h,he=>by simp only[Cc9,Hj,BT2,BU4]at he;obtain⟨rfl,rfl⟩:=he;exact⟨h,Kp.refl _ _ _ _,rfl,λi x hx=>by simp at hx,λi b=>b⟩
 |x::xs,st,l,R',h,he=>by
  simp only[BU9,Hj]at he
  repeat' split at he<;>try contradiction
  rename_i y R1 d _ l' R2 c;cases he;obtain⟨h1,j,m⟩:=Fu h (h.aev x) d;obtain⟨n,f,q,r,o⟩:=HV xs { st with Qg:=R1 } l' R' h1 c;refine⟨n,m.trans f,by grind,λi z g=>?_,λi b=>o i (AR3 d b)⟩;cases i with
  |zero=>simp at g;subst g;simpa using f.p j
  |succ i=>grind
def QX (F:Nat->List PV):List (Nat×List PV)->Nat->List PV
 |[],i=>F i
 |(j,x)::r,i=>if i=j then x else QX F r i
def Ws (z:List PV)(l:List (Nat×List PV))(i:Nat):QX (λ_=>z) l i=H2 z l i:=by
 induction l with
 |nil=>rfl
 |cons p r ih=>grind[QX,H2]
def YR {F:Nat->List PV}{j:Nat}{x:List PV}:∀(l:List (Nat×List PV)),(∀p∈l,p.1≠j)->∀i,QX (λi=>if i=j then x else F i) l i=if i=j then x else QX F l i
 |[],_,i=>rfl
 |(k,y)::r,h,i=>by
  have hk:=h (k,y) (by simp);simp only[QX,YR r (λp hp=>h p (by simp[hp])) i]
  grind
def Ak0 {x:PV}(h:QJ x=true):Eg (.p x)=true/\cellsOf (.p x)=(CS x).map .p:=by cases x<;>simp_all [QJ,Eg,AP5,cellsOf,CS]
def Ma {Pi:Nat->Nat->Prop}{m n:Nat}:∀(ps:List (Nat×Value)) (xs:List PV) (c:Array Value) (F:Nat->List PV),ps.length=xs.length->HR n m (ps.map (·.1)) xs=true ->
 (∀i x,ps[i]? = some x->Sb w Pi x.2 (xs.getD i default))->c.size=n*m->(∀i,i<n->(F i).length=m)->(∀i j,i<n->j<m->Sb w Pi (c.getD (i*m+j) undef) ((F i).getD j default)/\(c.getD (i*m+j) undef).oneCell' = true) ->
 ∃c',Instr.fill (λi=>some (i*m,m)) c ps=some c' /\ c'.size=n*m/\(∀i,i<n->(QX F ((ps.map (·.1)).zip (xs.map CS)) i).length=m) /\
  ∀i j,i<n->j<m->Sb w Pi (c'.getD (i*m+j) undef) ((QX F ((ps.map (·.1)).zip (xs.map CS)) i).getD j default)/\(c'.getD (i*m+j) undef).oneCell' = true
 |[],xs,c,F,hl,d,hr,hs,hF,hc=>⟨c,rfl,hs,by simp_all[QX],by simp_all[QX]⟩
 |(i0,v)::ps,[],c,F,hl,d,hr,hs,hF,hc=>by grind
 |(i0,v)::ps,x::xs,c,F,hl,d,hr,hs,hF,hc=>by
  simp only[BU9,HR,BT5,decide_eq_true_eq,beq_iff_eq,BU5]at d;obtain⟨⟨t,u,hpl⟩,hnd,d⟩:=d;obtain⟨o,q⟩:=Ak0 u;have hv:Sb w Pi v x:=by simpa using hr 0 (i0,v) rfl
  obtain⟨r,s⟩:=KA (live:=λ_=>False) (rho:=λ_=>undef) (.p _ _ hv) o;rw[q]at r s;simp at r;have hle:i0*m+m<=n*m:=by rw[<- Cg3];exact BU7 m t
  have g:=YQ (i0*m) v.cells c (by omega);obtain⟨c1,y⟩:∃c1,c1=v.cells.zipIdx.foldl (λcs (p:Value×Nat)=>cs.setIfInBounds (i0*m+p.2) p.1) c:=⟨_,rfl⟩;rw[<- y]at g;have a0:c1.size=n*m:=by rw[<- Ca1,g,I6 _ _ _ (by grind)];omega
  obtain⟨c',h1,h2,h3,h4⟩:=Ma ps xs c1 (λi=>if i=i0 then CS x else F i) (by grind) d (λi z hz=>by simpa using hr (i+1) z (by grind)) a0
   (by grind) (λi j hi hj=>by
    rw[E9,g,Z1 _ _ _ _ _ (by grind)];by_cases f:i0*m<=i*m+j/\i*m+j<i0*m+v.cells.toList.length
    .rw[Fg f];simp at f;obtain⟨rfl,hjj⟩:=AQ8 (l:=i) (i:=i0) (k:=m) (a:=j) (b:=i*m+j-i0*m) (by omega) hj (by omega);simp only[Hu]
     have:=s j (by grind)
     rw[show i*m+j-i*m=j by omega,<- E9];refine⟨?_,this.2⟩;have h5:=this.1;simp only[BT0,BT7,BT4 (show j<(CS x).length by omega),BU2,BT9]at h5⊢;exact h5.toP
    rw[Gb f];have hne:i≠i0:=by grind
    simp_all)
  have hnot:∀p∈(ps.map (·.1)).zip (xs.map CS),p.1≠i0:=by
   intro p hp e
   have:=(List.of_mem_zip hp).1
   rw[e]at this
   grind
  simp_all[Instr.fill,Gb,YR,QX]
def Lh (h:Sat C st a w rho){t:TypeId}{n:Nat}{parts:Array (Nat×Operand)}(hf:MH st.Qg n (parts.toList.map λq=>(q.1,aev st.env q.2))=none)(ho:o.op=.buildSlice t n parts)(s:aop P st.env st.Qg d o.op=some out)(hc:E5 out.cond):OpOk P C o st a w rho out:=by
 rw[ho]at s;simp only[aop,hf]at s;split at s
 .rename_i e hk a1;split at s
  .rename_i l R' m z hv a7 hz;split at s
   .rename_i a8;cases s;have a9:HR n m (parts.toList.map (·.1)) l=true:=hc;obtain⟨⟨hmax,b0⟩,r,a2⟩:=a8;have b1 : Hj st.Qg ((parts.toList.map (·.2)).map (aev st.env))=some (l,R'):=by simpa[Cd0,BY9]using hv
    obtain⟨h1,h2,h3,h4,h5⟩:=HV (parts.toList.map (·.2)) st l R' h b1;obtain⟨i,v,hi,b2,rfl⟩:=CT hz;have b3:v.cells.size=m:=by simpa using r
    obtain⟨arr,c⟩:∃arr:Array Value,arr=(Array.range (n*m)).map ((if n*m=0 then #[]else v.cells)[· % (if n*m=0 then #[]else v.cells).size]!):=⟨_,rfl⟩;have a3:∀i' j,i' < n->j<m->arr.getD (i' * m+j) undef=v.cells.getD j undef:=by
     intro i' j f y;have b4:=M8 f y;have g:¬(n*m=0):=by omega
     rw[c];simp only[g,Ih]
     have:(i' * m+j) % v.cells.size=j:=by rw[b3,Cc8,Cf4,BZ8 y]
     simp[BT3,b4,this,show j<v.cells.size by omega]
    have b5:=Wr (w:=w) (Pi:=Prv C.X (A2 R') rho) (live:=λ_=>False) (rho:=rho) (t:=t) (i:=i) a2;obtain⟨c',a4,b6,a5,a0⟩:=Ma (w:=w) (Pi:=Prv C.X (A2 R') rho) (m:=m) (n:=n) (parts.toList.map λq=>(q.1,a.eval q.2)) l arr (λ_=>v.cells.toList.map Tw) (by simpa using h3.symm)
     (by simpa[Cd0,BY9]using a9) (λi x hx=>by
      rw[BT7,BV0]at hx;obtain⟨q,hq,rfl⟩:=hx;exact h4 i q.2 (by rw[BT7,hq];rfl)) (by rw[c];simp) (λi hi=>r) (λi' j f y=>by
      rw[a3 i' j f y]
      have:=b5 j (by simp;omega)
      refine⟨?_,this.2⟩;have h6:=this.1;simp only[BT0,BT7,BX8,BX3 (show j<v.cells.size by omega),BU2,BT9]at h6⊢;exact h6.toP)
    have b7:(parts.toList.map λq=>(q.1,a.eval q.2)).map (·.1)=parts.toList.map (·.1):=by simp[Cd0,BY9]
    rw[b7]at a5 a0;have a6:(Instr.buildSlice t n (parts.map λq=>(q.1,a.eval q.2))).run P w=.ok (.slice (some ⟨w.heap.size,0,none⟩) n n) (w.alloc (.cells c' e)):=by
     have u:(parts.map λq=>(q.1,a.eval q.2)).toList=parts.toList.map λq=>(q.1,a.eval q.2):=by simp
     have hb:¬(n*m>2 ^ 24):=by omega
     simp only[Instr.buildSlice,BV4,BO w (P6 hk),BU3,Lg w a7,Gb hb,u];by_cases g:n*m=0
     .simp only[Fg g]at c;rw[Fg g];simp only[BV4,BX4,BU3];rw[<- c,a4];simp[newRow]
     simp only[Gb g]at c;rw[Gb g];simp only[BV4,BX4,BU3,Bf9 w hi b2];rw[<- c,a4];simp[newRow]
    obtain⟨g1,g2,g3⟩:=h1.fresh (Dh d 0) (h5 _ a1) (.vec e m n (H2 (v.cells.toList.map Tw) ((parts.toList.map (·.1)).zip (l.map CS))) false) (.slice (some ⟨w.heap.size,0,none⟩) n n) (w':=w.alloc (.cells c' e)) (by simp)
     (λb hb=>heap_alloc_old w _ b hb) (λb hb=>by simp[G1,Q9]at hb;omega) (λb8=>by
      refine .inr ⟨w.heap.size,n,c',rfl,heap_alloc_new w _,BT8 _,b6,?_,λi' f=>?_,λi' j f y=>?_⟩
      .simp only[maxLen];omega
      .rw[<- Ws];exact a5 i' f
      rw[<- Ws];exact⟨(a0 i' j f y).1.keeps b8,(a0 i' j f y).2⟩)
    exact⟨_,_,_,_,by simp[execOp,ho,a6],.inl rfl,g1,h2.trans ⟨g2,g3⟩,.vec _ (some ⟨w.heap.size,0,none⟩) n n (by simp[Lv,A4]) (by simp)⟩
   cases s
  cases s
 cases s
def QY {Qg:C8}:∀{l:List AV}{xs:List PV},AP8 l=some xs->Hj Qg l=some (xs,Qg)
 |[],_,h=>by cases h;rfl
 |a::r,xs,h=>by
  cases a with
  |p x=>
   simp only[AP8]at h;split at h
   .rename_i l hl;cases h;simp only[Hj,Fa,QY hl]
   grind
  |_=>simp[AP8]at h
theorem TB (h:Sat C st a w rho){t:TypeId}{n:Nat}{parts:Array (Nat×Operand)}(ho:o.op=.buildSlice t n parts){cc:List Prop}{x:PV}(r:Tx P st.env o.op=some (cc,x))(hc:E5 cc):OpOk P C o st a w rho ⟨cc,.p x,st.Qg⟩:=by
 rw[ho]at r;simp only[Tx]at r;split at r
 .rename_i e hk;split at r
  .rename_i l m z a1 a2 hz;have hv:=QY (Qg:=st.Qg) a1;split at r
   .rename_i a3;cases r;have hok:HR n m (parts.toList.map (·.1)) l=true:=hc;obtain⟨⟨b2,a4⟩,g,u⟩:=a3;have a5 : Hj st.Qg ((parts.toList.map (·.2)).map (aev st.env))=some (l,st.Qg):=by grind[List.map_map,Function.comp_def]
    obtain⟨h1,h2,h3,h4,h5⟩:=HV (parts.toList.map (·.2)) st l st.Qg h a5;obtain⟨i,v,hi,hiz,rfl⟩:=CT hz;have hvz:v.cells.size=m:=by grind
    obtain⟨arr,f⟩:∃arr:Array Value,arr=(Array.range (n*m)).map ((if n*m=0 then #[]else v.cells)[· % (if n*m=0 then #[]else v.cells).size]!):=⟨_,rfl⟩;have y:∀i' j,i' < n->j<m->arr.getD (i' * m+j) undef=v.cells.getD j undef:=by
     intro i' j c s;have hlt:=M8 c s;have a6:¬(n*m=0):=by omega
     rw[f]
     simp_all[Ih,Cc8,Cf4,BZ8,BT3]
    have a7:=Wr (w:=w) (Pi:=Prv C.X (A2 st.Qg) rho) (live:=λ_=>False) (rho:=rho) (t:=t) (i:=i) u;obtain⟨c',hf1,hf2,a8,a0⟩:=Ma (w:=w) (Pi:=Prv C.X (A2 st.Qg) rho) (m:=m) (n:=n) (parts.toList.map λq=>(q.1,a.eval q.2)) l arr (λ_=>v.cells.toList.map Tw) (by grind)
     (by grind[List.map_map,Function.comp_def]) (by grind) (by rw[f];simp) (λi hi=>g) (λi' j c s=>by
      rw[y i' j c s]
      have:=a7 j (by grind)
      refine⟨?_,this.2⟩;have h6:=this.1;simp only[BT0,BT7,BX8,BX3 (show j<v.cells.size by omega),BU2,BT9]at h6⊢;exact h6.toP)
    have a9:(parts.toList.map λq=>(q.1,a.eval q.2)).map (·.1)=parts.toList.map (·.1):=by simp_all
    rw[a9]at a8 a0;have hrun:(Instr.buildSlice t n (parts.map λq=>(q.1,a.eval q.2))).run P w=.ok (.slice (some ⟨w.heap.size,0,none⟩) n n) (w.alloc (.cells c' e)):=by
     have d:(parts.map λq=>(q.1,a.eval q.2)).toList=parts.toList.map λq=>(q.1,a.eval q.2):=by simp
     have hb:¬(n*m>2 ^ 24):=by omega
     simp only[Instr.buildSlice,BV4,BO w (P6 hk),BU3,Lg w a2,Gb hb,d];by_cases a6:n*m=0
     .simp_all[Fg,BV4,BX4,BU3,newRow]
     simp_all[Gb,BV4,BX4,BU3,Bf9,newRow]
    obtain⟨g1,g2⟩:=h.grow (w':=w.alloc (.cells c' e)) (by simp) (λb hb=>heap_alloc_old w _ b hb);have hnew:∀off,¬Prv C.X (A2 st.Qg) rho w.heap.size off:=by
     rintro off (hX|⟨j',o',b0,b1,_⟩)
     .have:=h.hp.bound _ _ hX;omega
     have:=h.hp.lt ⟨j',o',b0,b1⟩;omega
    refine⟨_,_,w.alloc (.cells c' e),rho,by simp_all[execOp],.inl rfl,g1,g2,.p _ _ (.sl true w.heap.size 0 n m n _ (λi' j=>c'.getD (i' * m+j) undef) (BT8 _) (λi' c=>by rw[<- Ws];grind) (λi' j c s=>?_) (λi' j c s=>?_) none λ_=>rfl)⟩
    .simp_all[M8,cell_of_heap,heap_alloc_new,BW8]
    rw[<- Ws];exact (a0 i' j c s).1.keeps λb o v hp hc=>⟨by rw[<- hc];exact BW4 (heap_alloc_old w _ b (BY8 w ⟨b,o,none⟩ hc)),hp⟩
   grind
  grind
 grind
theorem Wt (h:Sat C st a w rho){t:TypeId}{l c:Operand}(ho:o.op=.makeSlice t l c){cc:List Prop}{x:PV}(he:Tx P st.env o.op=some (cc,x))(hc:E5 cc):OpOk P C o st a w rho ⟨cc,.p x,st.Qg⟩:=by
 rw[ho]at he;simp only[Tx]at he
 repeat' split at he<;>try contradiction
 rename_i e n m hk hn hm _ _ k z y hz hzl;cases he;obtain⟨h1,h2,h3,h4⟩:0<=n/\n<=m/\m*EZ P e<=140737488355328/\m<=140737488355328:=hc;obtain⟨kn,a0⟩:=CU (h.aev l) hn;obtain⟨km,a1⟩:=CU (h.aev c) hm;obtain⟨i,v,hi,hiz,rfl⟩:=CT hz;have hk' : i.size=k:=by grind[Qw]
 have hvz:v.cells.size=k:=by grind
 have hby:EZ P e=i.bytes:=by grind[EZ,Program.bytesOf]
 rw[hby]at h3;have w64:∀x:Int,0<=x->x<=140737488355328->IntKind.i64.wrap x=x:=by
  intro x hx hx';have e1:x % (2 ^ 64:Int)=x:=(by omega);unfold IntKind.wrap;simp only[IntKind.bits,IntKind.signed,e1];rw[Gb]
  grind
 have hrange:(i.bytes:Int)*m<=140737488355328:=by have e:m*(i.bytes:Int)=(i.bytes:Int)*m:=Int.mul_comm _ _;omega
 obtain⟨arr,d⟩:∃arr:Array Value,arr=(Array.range (m.toNat*k)).map ((if m.toNat*k=0 then #[]else v.cells)[· % (if m.toNat*k=0 then #[]else v.cells).size]!):=⟨_,rfl⟩;have hrun:(Instr.makeSlice t (a.eval l) (a.eval c)).run P w=.ok (.slice (some ⟨w.heap.size,0,none⟩) n.toNat m.toNat) (w.alloc (.cells arr e)):=by
  have b1:¬(m<0):=by omega
  have b2:¬(281474976710656<(i.bytes:Int)*m):=by omega
  have b3:¬(n<0):=by omega
  have b4:¬(m<n):=by omega
  rw[d];by_cases r:m.toNat*k=0
  .simp[Instr.makeSlice,BO w (P6 hk),a0,a1,_root_.Go.asInt,asIntOf,Bx6 w hi,w64 n h1 (by omega),w64 m (by omega) h4,b1,b2,b3,b4,Lg w y,r,newRow]
  simp[Instr.makeSlice,BO w (P6 hk),a0,a1,_root_.Go.asInt,asIntOf,Bx6 w hi,w64 n h1 (by omega),w64 m (by omega) h4,b1,b2,b3,b4,Lg w y,r,newRow,Bf9 w hi hiz]
 have g:∀i' j,i' < n.toNat->j<k->arr.getD (i' * k+j) undef=v.cells.getD j undef:=by
  intro i' j f u;have hlt:=M8 (show i' < m.toNat by omega) u;have r:¬(m.toNat*k=0):=by omega
  rw[d]
  simp_all[Ih,Cc8,Cf4,BZ8,BT3]
 obtain⟨g1,g2⟩:=h.grow (w':=w.alloc (.cells arr e)) (by simp) (λb hb=>heap_alloc_old w _ b hb);have a2:∀off,¬Prv C.X (A2 st.Qg) rho w.heap.size off:=by
  rintro off (hX|⟨j',o',s,hbo,_⟩)
  .have:=h.hp.bound _ _ hX;omega
  have:=h.hp.lt ⟨j',o',s,hbo⟩;omega
 refine⟨_,_,w.alloc (.cells arr e),rho,by simp_all[execOp],.inl rfl,g1,g2,.p _ _ (.sl true w.heap.size 0 m.toNat k n.toNat _ (λi' j=>arr.getD (i' * k+j) undef) (by omega) (by omega) (λi' j f u=>?_) (λi' j f u=>?_) none λ_=>rfl)⟩
 .refine⟨?_,a2 _,?_⟩
  .have hlt:=M8 (show i' < m.toNat by omega) u
   have:=cell_of_heap (heap_alloc_new w (.cells arr e)) (o:=i' * k+j) (by rw[d];grind)
   rw[BW8];omega
  rw[g i' j f u];have s : j<v.cells.size:=by omega
  rw[show (v.cells.getD j undef)=v.cells[j] by simp_all];have q:=hzl.2;simp only[Cc7,BU0,Function.comp]at q;exact (O6 w (λ_ _=>False) _).cell (q _ (by simp))
 rw[g i' j f u];have s : j<v.cells.size:=by omega
 rw[show (v.cells.getD j undef)=v.cells[j] by simp_all]
 grind[Array.getElem?_eq_getElem,O6]
def AE9 (h:Sat C st a w rho){cc:List Prop}{x:PV}(b:Tx P st.env o.op=some (cc,x))(hc:E5 cc):OpOk P C o st a w rho ⟨cc,.p x,st.Qg⟩:=by
 cases d:o.op with
 |buildSlice t n parts=>grind[TB]
 |makeSlice t l c=>grind[Wt]
 |_=>rw[d]at b;simp[Tx]at b
end
section
variable {P:Program}{C:Ctx}{st:St}{a:Act}{w:World}{rho:Nat->Value}{o:Oper}{out:Out}{d:Nat}
def Wu {b:Bool}:∀(n:Nat) (t:TypeId) (ks:List TK),lay P n t=some ks->∀(vs:Array Value) (off D:Nat),n<=D->off+ks.length<=vs.size ->
 ∃x,(part t vs off).run P w=.ok x w/\(Instr.checkKey b D t x).run P w=.ok () w:=by
 intro n
 induction n with
 |zero=>grind[lay]
 |succ n ih=>
  intro t ks hl vs off D z ha;obtain⟨D,rfl⟩:∃D',D=D' + 1:=⟨D-1,by omega⟩;cases hk:tk P t with
  |none=>
   have:P.underlying t=none:=by
    simp_all[tk]
   grind[lay]
  |some k=>
   by_cases hs:∀fs,k ≠ .struct fs
   .obtain⟨rfl,i⟩:=YO hk hl hs;simp at ha;refine⟨vs.getD off undef,?_,?_⟩
    .simp[part,I2 w hk,i,BT3,show off<vs.size by omega]
    obtain⟨dd,s,rfl⟩:=Dg hk;simp only[lay,s]at hl;cases dd<;>simp at hl<;>first
     |(simp[Instr.checkKey,BO w s];done)
     |exact Hc rfl (hs _)
   obtain⟨fs,rfl⟩:∃fs,k=.struct fs:=(by grind);obtain⟨fa,a,_⟩:=Hm hk;simp only[lay,a]at hl
   repeat' split at hl<;>try contradiction
   rename_i l j v;cases hl;refine⟨.agg (vs.extract off (off+ks.length)),by simp_all[part,I2,Ai1,Lg],?_⟩;generalize c : vs.extract off (off+ks.length)=vs';have d : vs'.size=0+ks.length:=by rw[<- c];grind
   simp only[Instr.checkKey,BV4,BO w a,BU3];rw[<- Array.forIn_toList];have m:∀(fl:List Field) (o:Nat) (l:List TK),Bw3 (lay P n) fl o=some l->vs'.size=o+l.length ->
    (forIn fl PUnit.unit (λf _=>(do
     if f.name ≠ "_" then do
      Instr.checkKey b D f.type (<- part f.type vs' f.offset)
      pure (ForInStep.yield PUnit.unit)
     else pure (ForInStep.yield PUnit.unit):Sem (ForInStep PUnit)))).run P w=.ok PUnit.unit w:=by
    intro fl
    induction fl with
    |nil=>simp
    |cons f fl ihf=>
     intro o l h1 y;simp only[Bw3]at h1;split at h1
     .grind
     rename_i g;have g:f.offset=o:=(by omega);split at h1
     .rename_i ka q;split at h1
      .rename_i kb r;cases h1;simp at y;obtain⟨x,hx,hc⟩:=ih f.type ka q vs' o D (by omega) (by omega);have u:=ihf (o+ka.length) kb r (by omega);rw[List.forIn_cons]
       simp_all
      grind
     grind
   have:=m fa.toList 0 ks j d
   simp_all
def Li {b:Bool}{e:TypeId}{k:TK}(hk:tk P e=some k)(hb:BI6 k=true)(hm:tsz P e=some 1){vs:Array Value}(D:Nat) :∀(m j:Nat),j+m<=vs.size->(forIn (List.range' j m) PUnit.unit (λi _=>(do
  Instr.checkKey b (D+1) e (<- part e vs (i*(<- sizeOf e)))
  pure (ForInStep.yield PUnit.unit):Sem (ForInStep PUnit)))).run P w=.ok PUnit.unit w
 |0,j,h=>by simp
 |m+1,j,h=>by
  have a:Ai1 k=false:=by cases k<;>first|rfl|cases hb
  have hx:(part e vs (j*1)).run P w=.ok (vs.getD j undef) w:=by simp[part,I2 w hk,a,show j<vs.size by omega]
  have hc:(Instr.checkKey b (D+1) e (vs.getD j undef)).run P w=.ok () w:=by obtain⟨dd,d,rfl⟩:=Dg hk;generalize D=D;cases dd<;>simp[Yv,BI6]at hb<;>simp[Instr.checkKey,BO w d]
  have c:=Li (vs:=vs) (b:=b) hk hb hm D m (j+1) (by omega);rw[Cd8,List.forIn_cons]
  simp_all[Lg]
def Mb {Pi:Nat->Nat->Prop}{b:Bool}{t:TypeId}{v:Value}{x:PV}(hk:HQ P t x=true)(f:Sb w Pi v x):(Instr.checkKey b 10000 t v).run P w=.ok () w:=by
 unfold HQ at hk;split at hk
 .rename_i fs ht;split at hk
  .rename_i ks cs hl;simp at hk;cases f with
   |agg vs _ hs _ _=>
    obtain⟨y,hy,hc⟩:=Wu (P:=P) (w:=w) (b:=b) 10 t ks hl vs 0 10000 (by omega) (by omega);have a:=hl;obtain⟨fa,c,_⟩:=Hm ht;simp only[lay,c]at a
    repeat' split at a<;>try contradiction
    rename_i d;cases a
    have:vs.extract 0 ks.length=vs:=by rw[<- hk,<- hs];simp
    have e1:(part t vs 0).run P w=.ok (.agg vs) w:=by simp[part,I2 w ht,Ai1,Lg w d,this]
    rw[e1]at hy;grind
  grind
 .rename_i n e ht;split at hk
  .rename_i ek cs g;simp at hk;obtain⟨⟨h1,i⟩,j⟩:=hk;cases f with
   |agg vs _ hs _ _=>
    have key:∀D,(Instr.checkKey b (D+1+1) t (.agg vs)).run P w=.ok () w:=by
     intro D
     have:=Li (P:=P) (w:=w) (b:=b) g i j (vs:=vs) D n 0 (by omega)
     rw[Instr.checkKey];simp only[BV4,BO w (MP ht),BU3,Std.Legacy.Range.forIn_eq_forIn_range',Std.Legacy.Range.size,Nat.sub_zero,Nat.add_one_sub_one,Nat.div_one];rw[this];rfl
    grind
  grind
 .rename_i k l m ht;obtain⟨dd,o,rfl⟩:=Dg ht;show (Instr.checkKey b (9999+1) t v).run P w=.ok () w;generalize 9999=D;cases dd<;>simp[Yv,BI6]at hk<;>simp[Instr.checkKey,BO w o]
 grind
def EntL (w:World)(Pi:Nat->Nat->Prop)(Se:List MapEntry)(es:List (PV×PV)):Prop:= Se.length=es.length/\∀i,i<es.length->Sb w Pi (Se.getD i default).key (es.getD i default).1/\Sb w Pi (Se.getD i default).val (es.getD i default).2
def EntL.cons {Pi:Nat->Nat->Prop}{e:MapEntry}{Se:List MapEntry}{p:PV×PV}{es:List (PV×PV)}(h:EntL w Pi (e::Se) (p::es)):Sb w Pi e.key p.1/\Sb w Pi e.val p.2/\EntL w Pi Se es:=
 ⟨by simpa using (h.2 0 (by simp)).1,by simpa using (h.2 0 (by simp)).2,by simpa using h.1,λi a=>by simpa using h.2 (i+1) (by grind)⟩
def UP {cmp:PV->PV->Option Bool}{k:PV}:∀{es:List (PV×PV)}{r:Option PV},find cmp k es=some r->∃q,GG cmp k es=some q/\r=q.map λj=>(es.getD j default).2
 |[],r,h=>by simp only[find,BT2]at h;subst h;exact⟨none,rfl,rfl⟩
 |(a,x)::es,r,h=>by
  simp only[find]at h;split at h
  .simp_all[GG]
  .rename_i hc;obtain⟨q,h1,b⟩:=UP h;refine⟨q.map (· + 1),by grind[GG],?_⟩;rw[b];cases q<;>simp
  grind
def YS {cmp:PV->PV->Option Bool}{k x:PV}:∀{es es' : List (PV×PV)},upd cmp k x es=some es' -> ∃q,GG cmp k es=some q/\(q=none->es' = es++[(k,x)])/\∀j,q=some j->es' = es.set j (k,x)
 |[],es',h=>by simp only[upd,BT2]at h;subst h;exact⟨none,rfl,λ_=>rfl,λj h=>by cases h⟩
 |(a,y)::es,es',h=>by
  simp only[upd]at h;split at h
  .simp_all[GG]
  .rename_i hc;rw[BV0]at h;obtain⟨e1,b,rfl⟩:=h;obtain⟨q,h1,c,d⟩:=YS b;refine⟨q.map (· + 1),by grind[GG],λf=>?_,λj g=>?_⟩
   .simp_all
   cases q<;>grind
  grind
def KC {cmp:PV->PV->Option Bool}{k:PV}:∀{es:List (PV×PV)}{j:Nat},GG cmp k es=some (some j)->j<es.length/\cmp k (es.getD j default).1=some true
 |[],j,h=>by grind[GG]
 |(a,y)::es,j,h=>by
  simp only[GG]at h;split at h
  .grind
  .rename_i hc;rw[BV0]at h;obtain⟨q,h1,b⟩:=h;cases q with
   |none=>grind
   |some j'=>
    simp at b;subst b;obtain⟨c,d⟩:=KC h1
    grind
  grind
def IJ {Pi:Nat->Nat->Prop}{kt:TypeId}{k:Value}{x:PV}(hk:Sb w Pi k x)(hc:E5 (Ky P kt)):∀(es:List (PV×PV)) (Se:List MapEntry) (i:Nat) (r:Option Nat),EntL w Pi Se es->GG (KP P kt) x es=some r ->
 (Instr.findAsking kt k Se i).run P w=.ok (r.map λj=>(i+j,(Se.getD j default).val)) w
 |[],Se,i,r,he,hf=>by obtain rfl:Se=[]:=Cd7 (by simpa using he.1);simp only[GG,BT2]at hf;subst hf;simp[Instr.findAsking]
 |(a,b)::es,[],i,r,he,hf=>by grind[EntL]
 |(a,b)::es,e::Se,i,r,he,hf=>by
  obtain⟨h1,l,d⟩:=he.cons;simp only[GG]at hf;split at hf
  .rename_i c;cases hf
   have:=(Oj hk h1 c hc).1
   simp_all[Instr.findAsking]
  .rename_i c
   have:=(Oj hk h1 c hc).1
   rw[BV0]at hf;obtain⟨q,f,rfl⟩:=hf;have g:=IJ hk hc es Se (i+1) q d f;simp only[Instr.findAsking,BV4,this,BU3,BT6,Ih,g];cases q<;>grind
  grind
theorem QZ {Pi:Nat->Nat->Prop}{kt:TypeId}{dd:TypeDesc}(d:P.underlying kt=some dd){k e:Value}{x a:PV}(hk:Sb w Pi k x)(b:Sb w Pi e a){r q:Bool}(hc:KP P kt x a=some r)(hs:Instr.sameNow dd k e=some q):q=r:=by
 have c:tk P kt=some (Yv dd):=by grind[tk]
 unfold KP at hc;rw[c]at hc;unfold Instr.sameNow at hs;split at hs
 .simp only[Yv]at hc;cases hk;cases b
  simp_all[Ai8]
 .simp only[Yv]at hc;cases hk with
  |v=>grind[Ai8]
  |str l=>
   cases b with
   |v=>grind[Ai8]
   |str m=>
    simp_all[Ai8,BT2,beq_toListBytes]
 .simp only[Yv]at hc;cases hk<;>cases b<;>simp only[Ai8,Yw,BT2]at hc hs<;>exact hs.symm.trans hc
 grind
def MT {Pi:Nat->Nat->Prop}{kt:TypeId}{dd:TypeDesc}(d:P.underlying kt=some dd){k:Value}{x:PV}(hk:Sb w Pi k x):∀(es:List (PV×PV)) (Se:List MapEntry) (i:Nat) (r:Option Nat) (q:Option (Nat×Value)),EntL w Pi Se es->GG (KP P kt) x es=some r ->
 Instr.findNow dd k Se i=some q->q=r.map λj=>(i+j,(Se.getD j default).val)
 |[],Se,i,r,q,he,hf,hn=>by
  obtain rfl:Se=[]:=Cd7 (by simpa using he.1)
  grind[GG,Option.some.injEq,Instr.findNow]
 |(a,b)::es,[],i,r,q,he,hf,hn=>by grind[EntL]
 |(a,b)::es,e::Se,i,r,q,he,hf,hn=>by
  obtain⟨h1,g,f⟩:=he.cons;simp only[GG]at hf;simp only[Instr.findNow]at hn;split at hn
  .grind[QZ]
  .rename_i hs;split at hf
   .grind[QZ]
   .rw[BV0]at hf;obtain⟨r',c,rfl⟩:=hf
    have:=MT d hk es Se (i+1) r' q f c hn
    rw[this];cases r'<;>grind
   grind
  grind
def HW {Pi:Nat->Nat->Prop}{kt:TypeId}{k:Value}{x:PV}(hk:Sb w Pi k x)(a:HQ P kt x=true)(hc:E5 (Ky P kt)){es:List (PV×PV)}{Se:List MapEntry}{r:Option Nat}(c:EntL w Pi Se es)(d:GG (KP P kt) x es=some r) :(Instr.findKey kt k Se).run P w=.ok (r.map λj=>(j,(Se.getD j default).val)) w:=by
 have b:∃dd,P.underlying kt=some dd:=by
  unfold HQ at a
  grind[Dg]
 obtain⟨dd,b⟩:=b;cases hn:Instr.findNow dd k Se 0 with
 |some q=>
  have:=MT b hk es Se 0 r q c d hn
  rw[this]at hn
  simp_all[Instr.findKey,BO]
 |none=>
  have:=IJ hk hc es Se 0 r c d
  simp_all[Instr.findKey,BO]
def YT {Pi:Nat->Nat->Prop}{v:Value}{x:PV}{b:Bool}(h:Sb w Pi v x)(hb:Yw x=some b):v=.bool b:=by
 unfold Yw at hb;split at hb
 .cases hb;cases h;rfl
 .cases hb;cases h;rfl
 grind
theorem Ak1 {Pi:Nat->Nat->Prop}{k:TK}{v u:Value}{x y:PV}(d:Sb w Pi v x)(f:Sb w Pi u y)(c:Ai8 k x y=some true):v=u/\∀n,Instr.sameBits n v u=true:=by
 unfold Ai8 at c;split at c
 .split at c
  .rename_i g;subst g;cases d;cases f;simp only[BT2,beq_iff_eq]at c;subst c;exact⟨rfl,λn=>by cases n<;>simp[Instr.sameBits]⟩
  grind
 .split at c
  .rename_i a b h1 i;simp at c;subst c;have e1:=YT d h1;have e2:=YT f i;subst e1;subst e2;exact⟨rfl,λn=>by cases n<;>simp[Instr.sameBits]⟩
  grind
 .cases d with
  |str l=>
   cases f with
   |str m=>simp only[BT2,beq_iff_eq]at c;subst c;exact⟨rfl,λn=>by cases n<;>(simp only[Instr.sameBits];rw[beq_toListBytes];simp)⟩
 grind
def Ax5 {Pi:Nat->Nat->Prop}:∀{ks:List TK}{xs ys:List PV}(f g:Nat->Value),(∀i,i<xs.length->Sb w Pi (f i) (xs.getD i default))->(∀i,i<ys.length->Sb w Pi (g i) (ys.getD i default))->Ax ks xs ys=some true ->
 xs.length=ys.length/\∀i,i<xs.length->f i=g i/\∀n,Instr.sameBits n (f i) (g i)=true
 |ks,[],ys,f,g,hf,hg,he=>by cases ks<;>cases ys<;>simp[Ax]at he⊢
 |[],x::xs,ys,f,g,hf,hg,he=>by grind[Ax]
 |k::ks,x::xs,[],f,g,hf,hg,he=>by grind[Ax]
 |k::ks,x::xs,y::ys,f,g,hf,hg,he=>by
  have hx:Sb w Pi (f 0) x:=by grind
  have hy:Sb w Pi (g 0) y:=by grind
  simp only[Ax]at he;split at he
  .grind[Ak1]
  split at he
  .rename_i p q hp a;simp at he;obtain⟨rfl,rfl⟩:=he;obtain⟨h1,c⟩:=Ak1 hx hy hp;obtain⟨d,j⟩:=Ax5 (λi=>f (i+1)) (λi=>g (i+1)) (λi b=>by simpa using hf (i+1) (by simpa using b)) (by grind) a
   grind
  grind
def Bs5 {Pi:Nat->Nat->Prop}{vs us:Array Value}{xs ys:List PV}{ks:List TK}(hs:vs.size=xs.length)(f:∀i,i<xs.length->Sb w Pi (vs.getD i undef) (xs.getD i default))(g : us.size=ys.length)(b : ∀i,i<ys.length->Sb w Pi (us.getD i undef) (ys.getD i default))(j:Ax ks xs ys=some true) :Value.agg vs=.agg us/\Instr.sameBits 10000 (.agg vs) (.agg us)=true:=by
 obtain⟨h1,c⟩:=Ax5 (λi=>vs.getD i undef) (λi=>us.getD i undef) f b j;have e:vs=us:=by
  refine Array.ext (by omega) λi d a=>?_
  have:=(c i (by omega)).1
  simpa[BT3,d,a]using this
 subst e;refine⟨rfl,?_⟩
 have:∀n,Instr.sameBits (n+1) (.agg vs) (.agg vs)=true:=by
  intro n;simp only[Instr.sameBits,BEq.rfl,Ce5,BU0];intro p hp;obtain⟨i,d,rfl⟩:=Cc2.1 hp;have a : i<vs.size:=by grind
  have:=(c i (by omega)).2 n
  simp_all
 grind
def AR4 {Pi:Nat->Nat->Prop}{t:TypeId}{v u:Value}{x y:PV}(b:Sb w Pi v x)(c:Sb w Pi u y)(a:KP P t x y=some true):v=u/\Instr.sameBits 10000 v u=true:=by
 unfold KP at a;split at a
 .split at a
  .rename_i ks xs ys hl;cases b with
   |agg vs _ hs _ hr=>
    cases c with
    |agg us _ hs' _ hr'=>exact Bs5 hs hr hs' hr' a
  grind
 .unfold Yy at a
  repeat' split at a<;>try contradiction
  cases b with
  |agg vs _ hs _ hr=>
   cases c with
   |agg us _ hs' _ hr'=>exact Bs5 hs hr hs' hr' a
 all_goals grind[Ak1]
end
section
variable {P:Program}{C:Ctx}{st:St}{a:Act}{w:World}{rho:Nat->Value}{o:Oper}{out:Out}{d:Nat}
def OX {Pi:Nat->Nat->Prop}{e:TypeId}{z:PV}(b:Lb P e=some z):∃v,(zeroValue e).run P w=.ok v w/\Sb w Pi v z:=by
 unfold Lb at b;split at b
 .rename_i v g;rw[Cd3]at g;obtain⟨i,c,d⟩:=g;refine⟨v,Bf9 w c d,?_⟩;split at b
  .rename_i cs;split at b
   .rename_i a;cases b;simp only[Cc7,BU0,Function.comp]at a;refine .agg cs _ (by simp) (λi c=>?_) λi c=>?_
    .have f : i<cs.size:=by grind
     have:cs.getD i undef=cs[i]:=by simp_all
     rw[this];exact (O6 w Pi _).cell (a _ (by simp))
    have f : i<cs.size:=by grind
    have:cs.getD i undef=cs[i]:=by simp_all
    rw[this];have e:(cs.toList.map Tw).getD i default=Tw cs[i]:=by grind
    rw[e]
    grind[O6]
   grind
  grind[O6]
 grind
def YU {Se:Array MapEntry}{clock:Nat}{e:MapEntry}(hc:clock=Se.size)(hb:∀i,i<Se.size->(Se.getD i default).born=i)(b:e.born=clock) :clock+1=(Se.push e).size/\∀i,i<(Se.push e).size->((Se.push e).getD i default).born=i:=by
 refine⟨by grind,λi a=>?_⟩;simp at a;by_cases h:i<Se.size
 .have:=hb i h
  simpa[BT3,Cd4,show i≠Se.size by omega]using this
 obtain rfl:i=Se.size:=by omega
 simp_all
def Mc {Se:Array MapEntry}{clock j:Nat}{f:MapEntry->MapEntry}(hc:clock=Se.size)(hb:∀i,i<Se.size->(Se.getD i default).born=i)(b:∀e,(f e).born=e.born) :clock=(Se.modify j f).size/\∀i,i<(Se.modify j f).size->((Se.modify j f).getD i default).born=i:=by
 refine⟨by grind,λi a=>?_⟩;simp at a
 have:=hb i a
 by_cases h:j=i
 all_goals simp_all[BT3,Ce7,BY4]
def AR5 (h:Sat C st a w rho){t:TypeId}{m k:Operand}{ok:Bool}(ho:o.op=.lookup t m k ok)(he:aop P st.env st.Qg d o.op=some out)(hc:E5 out.cond):OpOk P C o st a w rho out:=by
 rw[ho]at he;simp only[aop]at he
 repeat' split at he<;>try contradiction
 rename_i x R' hv _ c y hl;cases he;obtain⟨h1,h2,h3⟩:=Fu h (h.aev k) hv;have hm:=h3.av (h.aev m);unfold FI at hl;split at hl
 .rename_i kt e ht;have fin:∀(Se:Array MapEntry) (es:List (PV×PV)) (r:Option PV),((a.eval m=.map none/\Se = #[]) \/ ∃r clock,a.eval m=.map (some r)/\w.heap[r]? = some (.map Se clock))->EntL w (Prv C.X (A2 R') rho) Se.toList es->HQ P kt x=true->find (KP P kt) x es=some r ->
   (match (some r:Option (Option PV))with
    |some (some x)=>some (Ky P kt,if ok then AV.tup [.p x,.bool true]else .p x)
    |some none=>match Lb P e with
     |some z=>some (Ky P kt,if ok then AV.tup [.p z,.bool false]else .p z)
     |none=>none
    |none=>none)=some (c,y)->OpOk P C o st a w rho ⟨c,y,R'⟩:=by
   intro Se es r a3 u a0 hf hres;have hcc:E5 (Ky P kt):=by
    grind
   obtain⟨q,hq,s⟩:=UP hf;have a4:=HW h2 a0 hcc u hq;have a5:=Mb (b:=Se.isEmpty) a0 h2;have last:∀(v:Value) (b:Bool) (z:PV),Sb w (Prv C.X (A2 R') rho) v z->(Instr.lookup t (a.eval m) (a.eval k) ok).run P w=.ok (if ok then .tuple #[v,.bool b]else v) w->y=(if ok then AV.tup [.p z,.bool b]else .p z)->OpOk P C o st a w rho ⟨c,y,R'⟩:=by
    intro v b z hv hr hy;refine⟨_,_,w,rho,by simp[execOp,ho,hr];rfl,.inl rfl,h1,h3,?_⟩;rw[hy];cases ok
    .exact .p _ _ hv
    refine .tup _ _ rfl λi hi=>?_;simp only[BW3,Cf5]at hi
    match i,hi with
    |0,_=>exact .p _ _ hv
    |1,_=>exact .p _ _ (.bb b)
   have hrun:∀(v:Value) (b:Bool),(q.map λj=>(j,(Se.toList.getD j default).val))=(if b then some (q.getD 0,v)else none)->(b=false->(zeroValue e).run P w=.ok v w)->(Instr.lookup t (a.eval m) (a.eval k) ok).run P w=.ok (if ok then .tuple #[v,.bool b]else v) w:=by
    intro v b a6 hz;unfold Instr.lookup;rcases a3 with⟨a1,rfl⟩ | ⟨r,clock,a1,hheap⟩
    .simp only[BV4,BO w (MO ht),BU3,a1,BX4,a5,a4,a6];cases b
     all_goals simp_all
    have hg:(getObj r).run P w=.ok (.map Se clock) w:=by grind[getObj,Sem.run]
    simp only[BV4,BO w (MO ht),BU3,a1,hg,BX4,a5,a4,a6];cases b
    all_goals simp_all
   cases q with
   |none=>
    simp only[Cf6]at s;subst s;simp only at hres;split at hres
    .rename_i z hz;simp at hres;obtain⟨v,hv1,hv2⟩:=OX (w:=w) (Pi:=Prv C.X (A2 R') rho) hz;exact last v false z hv2 (by grind) hres.2.symm
    grind
   |some j=>simp only[BU2]at s;subst s;simp only[BT2,BU4]at hres;obtain⟨hj,_⟩:=KC hq;exact last _ true _ (u.2 j hj).2 (by grind) hres.2.symm
  split at hl
  .rename_i x' f;split at f
   .grind
   .rename_i j l n;split at f
    .rename_i es hj;rw[n]at hm;have hh:=h1.hp.holds j _ hj;obtain⟨b,Se,clock,hr,hb,hs,hrep,hclk,a2⟩:=hh;have hmv:a.eval m=.map (some b):=by generalize a.eval m=mv at hm;cases hm<;>grind
     exact fin Se es (some x') (by grind) ⟨by omega,λi hi=>by simp_all⟩ l f hl
    grind
   grind
  .rename_i g;split at g
   .rename_i l n;rw[n]at hm;exact fin #[] [] none (.inl ⟨hm.toP.toV,rfl⟩) ⟨rfl,by grind⟩ l rfl hl
   .rename_i j l n;split at g
    .rename_i es hj;rw[n]at hm;have hh:=h1.hp.holds j _ hj;obtain⟨b,Se,clock,hr,hb,hs,hrep,hclk,a2⟩:=hh;have hmv:a.eval m=.map (some b):=by generalize a.eval m=mv at hm;cases hm<;>grind
     exact fin Se es none (by grind) ⟨by omega,λi hi=>by simp_all⟩ l g hl
    grind
   grind
  grind
 grind
def OY (h:Sat C st a w rho){t:TypeId}{m k x:Operand}(ho:o.op=.mapUpdate t m k x)(he:aop P st.env st.Qg d o.op=some out)(hc:E5 out.cond):OpOk P C o st a w rho out:=by
 rw[ho]at he;simp only[aop]at he
 repeat' split at he<;>try contradiction
 rename_i kt e j kp ht hm0 hk0 _ y R' hv _ es hj _ _ es' u z;cases he;have a0:=h.aev k;rw[hk0]at a0;obtain⟨h1,h2,h3⟩:=Fu h (h.aev x) hv;have hm:=h3.av (h.aev m);rw[hm0]at hm;have c:=(h3.p a0.toP).nP;obtain⟨b,Se,clock,hr,hb,hs,f,n,g⟩:=h1.hp.holds j _ hj;have a1:a.eval m=.map (some b):=by generalize a.eval m=mv at hm;cases hm<;>grind
 obtain⟨q,hq,hqn,hqs⟩:=YS z;have a2:EntL w (Prv C.X (A2 R') rho) Se.toList es:=⟨by omega,λi r=>by simp_all⟩;have a3:=HW c u hc a2 hq;have a4:=Mb (b:=false) u c;have hg:(getObj b).run P w=.ok (.map Se clock) w:=by grind[getObj,Sem.run]
 have hlt:b<w.heap.size:=(by grind);have s:∀ob:Go.Obj,(setObj b ob).run P w=.ok () { w with heap:=w.heap.setIfInBounds b ob }:=λob=>by grind[setObj,Sem.run]
 obtain⟨ents',clock',hrun,a5,a6,l⟩:∃(ents' : Array MapEntry) (clock' : Nat),(Instr.mapUpdate t (a.eval m) (a.eval k) (a.eval x)).run P w=.ok () { w with heap:=w.heap.setIfInBounds b (.map ents' clock') }/\(clock' = ents'.size/\∀i,i<ents'.size->(ents'.getD i default).born=i)/\ents'.size=es'.length /\
  ∀i,i<es'.length->Sb w (Prv C.X (A2 R') rho) (ents'.getD i default).key (es'.getD i default).1/\Sb w (Prv C.X (A2 R') rho) (ents'.getD i default).val (es'.getD i default).2:=by
  cases q with
  |none=>
   have e:=hqn rfl;subst e;refine⟨Se.push { key:=a.eval k,val:=a.eval x,born:=clock },clock+1,?_,YU n g rfl,by grind,λi r=>?_⟩
   .unfold Instr.mapUpdate;simp only[BV4,BO w (MO ht),BU3,a1,hg,a4,a3,Cf6,s]
   simp at r;by_cases a7 : i<es.length
   .have:=f i a7
    simpa[BT3,Cd4,show i≠Se.size by omega,BZ3 a7]using this
   obtain rfl:i=es.length:=by omega
   have h4:(Se.push { key:=a.eval k,val:=a.eval x,born:=clock }).getD es.length default={ key:=a.eval k,val:=a.eval x,born:=clock }:=by simp[<- hs]
   rw[h4]
   grind
  |some j'=>
   have e:=hqs j' rfl;subst e;obtain⟨hj',a8⟩:=KC hq;have hjs:j' < Se.size:=by omega
   obtain⟨heq,hbits⟩:=AR4 c (f j' hj').1 a8;have a9:(((Se[j']?).map (·.key)).getD (a.eval k))=(Se.getD j' default).key:=by simp_all
   refine⟨Se.modify j' λe=>{ e with key:=a.eval k,val:=a.eval x },clock,?_,Mc n g λ_=>rfl,by grind,λi r=>?_⟩
   .unfold Instr.mapUpdate;have hks:Instr.keyThatStays (((Se[j']?).map (·.key)).getD (a.eval k)) (a.eval k)=(pure (a.eval k):Sem Value):=by
     rw[a9,<- heq]
     simp_all[Instr.keyThatStays,Fg]
    simp only[BV4,BO w (MO ht),BU3,a1,hg,a4,a3,BU2,hks,BX4,s]
   simp at r;by_cases hij:i=j'
   .simp_all[default,BT3,Ce7,BT0,Ci8,BT9]
   have h4:((Se.modify j' λe=>{ e with key:=a.eval k,val:=a.eval x }).getD i default)=Se.getD i default:=by simp[BY4,Cb0 hij]
   rw[h4]
   have:=f i r
   grind
 obtain⟨g1,g2,g3⟩:=h1.modify (o:=.map es) (ob:=.map es') hj (b:=b) (by grind[G1,Q9]) (λ_=>trivial) (λb' hb'=>by grind[G1,Q9])
  (w':={ w with heap:=w.heap.setIfInBounds b (.map ents' clock') }) (by simp) (by grind)
  (λb0=>⟨b,ents',clock',hr,by grind,a6,λi r=>⟨(l i r).1.keeps b0,(l i r).2.keeps b0⟩,a5⟩)
 exact⟨_,undef,_,_,by simp_all[execOp],.inr ⟨rfl,rfl⟩,g1,h3.trans ⟨g2,g3⟩,.p _ _ (.v _)⟩
def AF0 {Se:Array MapEntry}(hb:∀i,i<Se.size->(Se.getD i default).born=i){n:Nat}(hn:n<Se.size):Se.findIdx? (λe=>(e.born:Int)==(n:Int))=some n:=by
 rw[Array.findIdx?_eq_some_iff_getElem];refine⟨hn,?_,λj a=>?_⟩
 .have:=hb n hn
  simp_all
 have:=hb j (by omega)
 simp[show j<Se.size by omega]at this
 grind
def Ak2 (h:Sat C st a w rho){t:TypeId}{m k:Operand}(ho:o.op=.mapEntry t m k)(he:aop P st.env st.Qg d o.op=some out)(hc:E5 out.cond):OpOk P C o st a w rho out:=by
 rw[ho]at he;simp only[aop]at he
 repeat' split at he<;>try contradiction
 rename_i kt e j kp ht hm0 hk0 _ _ es z hj hz _ _ q y hq;cases he;have a0:=h.aev k;rw[hk0]at a0;have hm:=h.aev m;rw[hm0]at hm;have g:=a0.toP.nP;obtain⟨b,Se,clock,hr,hb,hs,f,l,c⟩:=h.hp.holds j _ hj;have a1:a.eval m=.map (some b):=by generalize a.eval m=mv at hm;cases hm<;>grind
 have a2:EntL w (Prv C.X (A2 st.Qg) rho) Se.toList es:=⟨by omega,λi n=>by simp_all⟩;have a3:=HW g y hc a2 hq;have a4:=Mb (b:=false) y g;have hg:(getObj b).run P w=.ok (.map Se clock) w:=by grind[getObj,Sem.run]
 have hlt:b<w.heap.size:=(by grind);have s:∀ob:Go.Obj,(setObj b ob).run P w=.ok () { w with heap:=w.heap.setIfInBounds b ob }:=λob=>by grind[setObj,Sem.run]
 obtain⟨zv,hzr,hzp⟩:=OX (w:=w) (Pi:=Prv C.X (A2 st.Qg) rho) hz;obtain⟨ents',clock',old,a5,a6,u,a7,r⟩:∃(ents' : Array MapEntry) (clock' : Nat) (old:Value),(Instr.mapEntry t (a.eval m) (a.eval k)).run P w=.ok (.tuple #[old,.int .i64 ((ent (nP kp) z es q).1:Nat)]) { w with heap:=w.heap.setIfInBounds b (.map ents' clock') }/\(clock' = ents'.size/\∀i,i<ents'.size->(ents'.getD i default).born=i) /\
  Sb w (Prv C.X (A2 st.Qg) rho) old (ent (nP kp) z es q).2.1/\ents'.size=(ent (nP kp) z es q).2.2.length /\
  ∀i,i<(ent (nP kp) z es q).2.2.length->Sb w (Prv C.X (A2 st.Qg) rho) (ents'.getD i default).key ((ent (nP kp) z es q).2.2.getD i default).1/\Sb w (Prv C.X (A2 st.Qg) rho) (ents'.getD i default).val ((ent (nP kp) z es q).2.2.getD i default).2:=by
  cases q with
  |none=>
   refine⟨Se.push { key:=a.eval k,val:=zv,born:=clock },clock+1,zv,?_,YU l c rfl,hzp,by grind[ent],λi n=>?_⟩
   .unfold Instr.mapEntry;simp only[BV4,BO w (MO ht),BU3,a1,hg,a4,a3,Cf6,s,hzr,BX4,goInt,ent,l,hs]
   simp only[ent,BW7,Ca4]at n;by_cases a8 : i<es.length
   .have:=f i a8
    simpa[ent,BT3,Cd4,show i≠Se.size by omega,BZ3 a8]using this
   obtain rfl:i=es.length:=by omega
   have h4:(Se.push { key:=a.eval k,val:=zv,born:=clock }).getD es.length default={ key:=a.eval k,val:=zv,born:=clock }:=by simp[<- hs]
   rw[h4]
   grind[ent,List.getElem?_concat_length]
  |some j'=>
   obtain⟨hj',hcmp⟩:=KC hq;have hjs:j' < Se.size:=by omega
   obtain⟨heq,hbits⟩:=AR4 g (f j' hj').1 hcmp;have hold:(((Se[j']?).map (·.key)).getD (a.eval k))=(Se.getD j' default).key:=by simp_all
   have hbj:((Se[j']?).map λx=>((x.born:Nat):Int)).getD 0=(j' : Int):=by
    have:=c j' hjs
    simp_all
   have hval:Se.toList.getD j' default=Se.getD j' default:=by simp_all
   refine⟨Se.modify j' λe=>{ e with key:=a.eval k },clock,(Se.getD j' default).val,?_,Mc l c λ_=>rfl,(f j' hj').2,by grind[ent],λi n=>?_⟩
   .unfold Instr.mapEntry;have hks:Instr.keyThatStays (((Se[j']?).map (·.key)).getD (a.eval k)) (a.eval k)=(pure (a.eval k):Sem Value):=by
     rw[hold,<- heq]
     simp_all[Instr.keyThatStays,Fg]
    simp only[BV4,BO w (MO ht),BU3,a1,hg,a4,a3,BU2,hks,BX4,s,goInt,ent,hbj,hval]
   simp only[ent,List.length_set]at n;by_cases hij:i=j'
   .subst hij;have h4:((Se.modify i λe=>{ e with key:=a.eval k }).getD i default)={ (Se[i])with key:=a.eval k }:=by
     simp_all[BT3,Ce7]
    have h5:(Se[i]).val=(Se.getD i default).val:=by grind
    rw[h4]
    grind[ent,List.getElem?_set_self]
   have h4:((Se.modify j' λe=>{ e with key:=a.eval k }).getD i default)=Se.getD i default:=by simp[BY4,Cb0 hij]
   rw[h4]
   have:=f i n
   simp_all[ent,List.getElem?_set_ne,Cb0]
 obtain⟨g1,g2,g3⟩:=h.modify (o:=.map es) (ob:=.map (ent (nP kp) z es q).2.2) hj (b:=b) (by grind[G1,Q9]) (λ_=>trivial) (λb' hb'=>by grind[G1,Q9])
  (w':={ w with heap:=w.heap.setIfInBounds b (.map ents' clock') }) (by simp) (by grind)
  (λhk'=>⟨b,ents',clock',hr,by grind,a7,λi n=>⟨(r i n).1.keeps hk',(r i n).2.keeps hk'⟩,a6⟩)
 refine⟨_,_,_,_,by simp[execOp,ho,a5];rfl,.inl rfl,g1,⟨g2,g3⟩,.tup _ _ rfl λi n=>?_⟩;simp only[BW3,Cf5]at n
 match i,n with
 |0,_=>exact .p _ _ (u.keeps g2)
 |1,_=>exact .p _ _ (.v _)
def Wv (h:Sat C st a w rho){t:TypeId}{m s x:Operand}(ho:o.op=.entryStore t m s x)(z:aop P st.env st.Qg d o.op=some out)(hc:E5 out.cond):OpOk P C o st a w rho out:=by
 rw[ho]at z;simp only[aop]at z
 repeat' split at z<;>try contradiction
 rename_i j sv y R' a0 hs0 hv _ es hj;cases z;have hsr:=h.aev s;obtain⟨h1,h2,h3⟩:=Fu h (h.aev x) hv;have hm:=h3.av (h.aev m);rw[a0]at hm;obtain⟨b,Se,clock,hr,hb,hs,g,l,c⟩:=h1.hp.holds j _ hj;have hmv:a.eval m=.map (some b):=by generalize a.eval m=mv at hm;cases hm<;>grind
 have hg:(getObj b).run P w=.ok (.map Se clock) w:=by grind[getObj,Sem.run]
 have hlt:b<w.heap.size:=(by grind);have hset:∀ob:Go.Obj,(setObj b ob).run P w=.ok () { w with heap:=w.heap.setIfInBounds b ob }:=λob=>by grind[setObj,Sem.run]
 have hc:0<=sv/\sv<(es.length:Int):=hc;obtain⟨c1,c2⟩:=hc;obtain⟨n,rfl⟩:∃n:Nat,sv=(n:Int):=⟨sv.toNat,by omega⟩;have hn:n<es.length:=by omega
 have a1 : n<Se.size:=by omega
 have hjx:=AF0 c a1;have hrun:(Instr.entryStore t (a.eval m) (a.eval s) (a.eval x)).run P w=.ok () { w with heap:=w.heap.setIfInBounds b (.map (Se.modify n λe=>{ e with val:=a.eval x }) clock) }:=by
  grind[CU,Instr.entryStore,Go.Sem.run_bind,Go.Result.andThen_ok,Go.asInt,asIntOf,Go.Sem.run_pure]
 have a2:(Bw5 es (n:Int).toNat y)=es.set n ((es.getD n default).1,y):=by simp[Bw5]
 rw[a2];have f : ∀i,i<(es.set n ((es.getD n default).1,y)).length->Sb w (Prv C.X (A2 R') rho) ((Se.modify n λe=>{ e with val:=a.eval x }).getD i default).key ((es.set n ((es.getD n default).1,y)).getD i default).1/\Sb w (Prv C.X (A2 R') rho) ((Se.modify n λe=>{ e with val:=a.eval x }).getD i default).val ((es.set n ((es.getD n default).1,y)).getD i default).2:=by
  intro i q;simp at q;by_cases r:i=n
  .subst r;have h4:((Se.modify i λe=>{ e with val:=a.eval x }).getD i default)={ (Se[i])with val:=a.eval x }:=by
    simp_all[BT3,Ce7]
   have h5:(Se[i]).key=(Se.getD i default).key:=by simp_all
   rw[h4]
   grind
  have h4:((Se.modify n λe=>{ e with val:=a.eval x }).getD i default)=Se.getD i default:=by simp[BY4,Cb0 r]
  rw[h4]
  have:=g i q
  grind
 obtain⟨g1,g2,g3⟩:=h1.modify (o:=.map es) (ob:=.map (es.set n ((es.getD n default).1,y))) hj (b:=b) (by grind[G1,Q9]) (λ_=>trivial) (λb' hb'=>by grind[G1,Q9])
  (w':={ w with heap:=w.heap.setIfInBounds b (.map (Se.modify n λe=>{ e with val:=a.eval x }) clock) }) (by simp) (by grind)
  (λu=>⟨b,_,clock,hr,by grind,by grind,λi q=>⟨(f i q).1.keeps u,(f i q).2.keeps u⟩,Mc l c λ_=>rfl⟩)
 exact⟨_,undef,_,_,by simp_all[execOp],.inr ⟨rfl,rfl⟩,g1,h3.trans ⟨g2,g3⟩,.p _ _ (.v _)⟩
end
section
variable {C:Ctx}{st:St}{a:Act}{w:World}{rho:Nat->Value}
def Sat.re (hs:Sat C st a w rho)(D:Nat->Prop){R' : C8}{rho' : Nat->Value}
 (c:∀j,¬D j->A2 R' j=A2 st.Qg j) (d:∀j,Lv (A2 st.Qg) j->Lv (A2 R') j/\rho' j=rho j) (g:∀j,¬Lv (A2 st.Qg) j->Lv (A2 R') j->1000<=j)
 (n:∀j r b,D j->A2 R' j≠some (.yld r b))
 (l:∀j o b,D j->A2 R' j=some o->G1 (rho' j) o b->∃i oi,D i/\A2 st.Qg i=some oi/\G1 (rho i) oi b)
 (f:∀i j oi oj b,D i->D j->A2 R' i=some oi->A2 R' j=some oj->G1 (rho' i) oi b->G1 (rho' j) oj b->i=j)
 (s:∀i oi,D i->A2 st.Qg i=some oi->∀off,MF oi off)
 (u:(∀b off,Prv C.X (A2 R') rho' b off->Prv C.X (A2 st.Qg) rho b off)->S0 w (Prv C.X (A2 st.Qg) rho) w (Prv C.X (A2 R') rho')->∀j o,D j->A2 R' j=some o->Ue w (Prv C.X (A2 R') rho') (Lv (A2 R')) rho' (rho' j) o) :
 Sat C ⟨st.env,R'⟩ a w rho' /\ ∀b off,Prv C.X (A2 R') rho' b off->Prv C.X (A2 st.Qg) rho b off:=by
 have m:∀b off,Prv C.X (A2 R') rho' b off->Prv C.X (A2 st.Qg) rho b off:=by
  rintro b off (x|⟨j,o,t,hb,hp⟩)
  .exact .inl x
  by_cases q:D j
  .obtain⟨i,oi,h1,y,z⟩:=l j o b q t hb;exact .inr (by grind)
  rw[c j q]at t;rw[(d j (by grind[Lv])).2]at hb;exact .inr (by grind)
 exact⟨(hs.step D c d (BT8 _) g n (λ_ _ _=>rfl) (by grind) f
  (λi oi b off v q hi hb hp hc=>Hc (.inr (by grind)) hp) (u m)).1,m⟩
end
section
variable {P:Program}{C:Ctx}{st:St}{a:Act}{w:World}{rho:Nat->Value}{o:Oper}{out:Out}{d:Nat}
theorem Jk {Qg:C8}{j q:Nat}{o:Obj}(h:Lv (A2 Qg) q):Lv (A2 (ins j o Qg)) q:=by
 grind[Lv,A4]
def FO {Qg:C8}{j q:Nat}{o:Obj}(h:Lv (A2 (ins j o Qg)) q):j=q \/ Lv (A2 Qg) q:=by
 grind[Lv,A4]
theorem YV {Qg:C8}{q:Nat}{o:Obj}(h:A2 Qg q=some o):Lv (A2 Qg) q:=by grind[Lv]
def HX {w:World}{p q:Nat->Nat->Prop}(h:∀b o,q b o->p b o):S0 w p w q:=λb o v hp hc=>by grind
def AR6 {e:TypeId}{n jr:Nat}{x:Option (Nat×AV)}{Pi Pi' : Nat->Nat->Prop}{live live' : Nat->Prop}{rho' : Nat->Value}{v:Value}(h:HoldsC w Pi live rho v (.fam e n jr x)) :∃c:Array Value,HoldsC w Pi' live' rho' v (.vec e 1 n (λi=>[.v (c.getD i undef)]) false)/\(∃rv,live jr/\rho jr=.agg rv/\∀i,i<n->(x.map (·.1)≠some i->c.getD i undef=rv.getD i undef)) /\
  ∀i y,x=some (i,y)->0<n->Ud w Pi live rho (c.getD i undef) y:=by
 obtain⟨rv,l1,l2,h⟩:=h;rcases h with⟨h,a⟩ | ⟨b,cap,c,g1,g2,g3,g4,g5,g6,g7⟩
 .exact⟨#[],.inl ⟨h,a⟩,by grind,by omega⟩
 refine⟨c,.inr ⟨b,cap,c,g1,g2,g3,by omega,g5,λ_ _=>rfl,λi l d hl=>?_⟩,by grind,λi y hx _=>?_⟩
 .obtain rfl:l=0:=by omega
  rw[BY0,Cb6];exact⟨.v _,(g6 i d).1⟩
 grind
def AR7 (h:Sat C st a w rho){c:Call}(hc:c.callee=.builtin .append)(f:o.op=.call c)(he:aop P st.env st.Qg d o.op=some out)(a2:E5 out.cond):OpOk P C o st a w rho out:=by
 by_cases hF:∀s x e m b,c.args.toList=[s,x]->MG st.Qg e m d b (aev st.env s) (aev st.env x)=none
 .grind[UM]
 simp only[Classical.not_forall]at hF;obtain⟨s,x,e0,m0,b0,a0,hF⟩:=hF;have hJ:∃j l n jr jz y e1 e2,aev st.env s=.vec j/\aev st.env x=.vec l/\A2 st.Qg (nid d 0)=none/\A2 st.Qg j=some (.fam e1 n jr none)/\A2 st.Qg l=some (.fam e2 1 jz (some (0,y))):=by
  unfold MG at hF
  grind
 obtain⟨j,l,n,jr,jz,y,e1,e2,hsv,hxv,hd,hj,hl⟩:=hJ;obtain⟨callee,args,types⟩:=c;simp only at hc;subst hc;rw[f]at he;simp only at a0;simp only[aop,a0]at he;split at he
 .rename_i s' x' t t2 hs' htypes;cases hs';split at he
  .rename_i e k2 ht ht2;split at he
   .rename_i m z hk2 hm hz;have hel:elems st.Qg m (.vec l)=none:=by grind[elems]
    simp only[hsv,hxv,hd,hel]at he;by_cases hzm:z.length=m
    case neg=>
     rw[show famB P e z m=0 by grind[famB]]at he
     grind[MG]
    rw[show famB P e z m=EZ P e by grind[famB]]at he;simp only[MG,hd,hj,hl]at he;split at he
    .rename_i c1 v1 R1 hif;split at hif
     .rename_i hif';obtain⟨⟨⟨he1,he2⟩,hm1,hby⟩,hne⟩:=hif';subst hm1;rw[he1]at hj;rw[he2]at hl;cases hif;cases he;have hzl:z.length=1:=hzm;have a2:E5 [(n+1)*EZ P e<=140737488355328/\n+1<=140737488355328]:=a2;have hnj:nid d 0≠j:=by grind
      have hnl:nid d 0≠l:=by grind
      obtain⟨cj,f1,⟨rv,l1,l2,f3⟩,_⟩:=AR6 (Pi:=Prv C.X (A2 st.Qg) rho) (live:=Lv (A2 st.Qg)) (Pi':=λ_ _=>False) (live':=λ_=>False) (rho':=rho) (h.hp.holds j _ hj);obtain⟨cl,k1,_,k3⟩:=AR6 (Pi:=Prv C.X (A2 st.Qg) rho) (live:=Lv (A2 st.Qg)) (Pi':=λ_ _=>False) (live':=λ_=>False) (rho':=rho) (h.hp.holds l _ hl);have k3:=k3 0 y rfl (by omega);obtain⟨R',hR'⟩:∃R' : C8,R' = ins l (.vec e 1 1 (λi=>[.v (cl.getD i undef)]) false) (ins j (.vec e 1 n (λi=>[.v (cj.getD i undef)]) false) st.Qg):=⟨_,rfl⟩;have u:∀q,A2 R' q=if l=q then some (.vec e 1 1 (λi=>[.v (cl.getD i undef)]) false)else if j=q then some (.vec e 1 n (λi=>[.v (cj.getD i undef)]) false)else A2 st.Qg q:=λq=>by rw[hR',A4,A4]
      have hwas:∀q o b,(q=j \/ q=l)->A2 R' q=some o->G1 (rho q) o b->∃oi,A2 st.Qg q=some oi/\G1 (rho q) oi b:=by
       intro q o b r f hb;rw[u]at f;split at f
       .rename_i h1;subst h1;cases f;exact⟨_,hl,hb⟩
       rename_i h1;obtain rfl:q=j:=(by omega);rw[Fg rfl]at f;cases f;exact⟨_,hj,hb⟩
      obtain⟨h2,h3⟩:=h.re (λq=>q=j \/ q=l) (R':=R') (rho':=rho)
       (by grind) (λq r=>⟨by rw[hR'];grind[Jk],rfl⟩)
       (λq r a1=>by
        rw[hR']at a1;rcases FO a1 with rfl|a1
        .grind[Hc,YV]
        rcases FO a1 with rfl|a1
        all_goals grind[Hc,YV])
       (by grind)
       (by grind)
       (λq q' o o' b r a1 f ho' hb hb'=>by obtain⟨o1,g1,g2⟩:=hwas q o b r f hb;obtain⟨o2,g3,g4⟩:=hwas q' o' b a1 ho' hb';exact h.hp.sep q q' o1 o2 b g1 g3 g2 g4)
       (λq o r f off=>by
        rcases r with rfl|rfl
        .rw[hj]at f;cases f;trivial
        rw[hl]at f;cases f;trivial)
       (λ_ hk q o r f=>by
        rw[u]at f;split at f
        .rename_i h1;subst h1;cases f;rcases k1 with h|⟨b,cap,c,g1,g2,g3,g4,g5,g6,g7⟩
         .omega
         exact .inr ⟨b,cap,c,g1,g2,g3,g4,g5,g6,λi l hi hl=>by
          have:=g7 i l hi hl
          obtain rfl:l=0:=by omega
          exact⟨this.1.toV ▸ .v _,this.2⟩⟩
        rename_i h1;obtain rfl:q=j:=(by omega);rw[Fg rfl]at f;cases f;rcases f1 with h|⟨b,cap,c,g1,g2,g3,g4,g5,g6,g7⟩
        .exact .inl h
        exact .inr ⟨b,cap,c,g1,g2,g3,g4,g5,g6,λi l hi hl=>by
         have:=g7 i l hi hl
         obtain rfl:l=0:=by omega
         exact⟨this.1.toV ▸ .v _,this.2⟩⟩)
      have hd' : A2 R' (nid d 0)=none:=by rw[u,Gb (Cb0 hnl),Gb (Cb0 hnj)];omega
      have hj' : A2 R' j=some (.vec e 1 n (λi=>[.v (cj.getD i undef)]) false):=by rw[u,Gb (Cb0 hne),Fg rfl]
      have hl' : A2 R' l=some (.vec e 1 1 (λi=>[.v (cl.getD i undef)]) false):=by rw[u,Fg rfl]
      have hop:=UM (P:=P) (o:=o) (d:=d) (out:=⟨[(n+1)*EZ P e<=140737488355328/\n+1<=140737488355328],.vec (nid d 0),ins (nid d 0) (.vec e 1 (n+1) (DF n (λi=>[.v (cj.getD i undef)]) λi=>[.v (cl.getD i undef)]) false) (ins j .dead R')⟩) h2
       (c:=⟨.builtin .append,args,types⟩) (λs1 x1 e3 m3 b3 hx1=>by rw[a0]at hx1;grind[MG]) rfl f
       (by rw[f];simp only[aop,a0,htypes,ht,ht2,hk2,hm,hz,hsv,hxv,hd',elems,Wm,hj',hl',Hu,and_self,hzl,hby]) a2
      obtain⟨nx,v,w',rho1,p1,p2,p3,p4,p5⟩:=hop;have g:∀q,Lv (A2 st.Qg) q->Lv (A2 R') q:=λq r=>by rw[hR'];grind[Jk]
      have hrj:rho1 jr=.agg rv:=(p4.live jr (g jr l1)).2.trans l2;have hx:∃Rz:C8,Rz=ins (nid d 0) (.fam e (n+1) jr (some (n,y))) (ins l .dead (ins j .dead st.Qg)):=⟨_,rfl⟩;obtain⟨Rz,hRz⟩:=hx;have hgz:∀q,A2 Rz q=if nid d 0=q then some (.fam e (n+1) jr (some (n,y)))else if l=q then some .dead else if j=q then some .dead else A2 st.Qg q:=λq=>by rw[hRz,A4,A4,A4]
      obtain⟨Ry,hRy⟩:∃Ry:C8,Ry=ins (nid d 0) (.vec e 1 (n+1) (DF n (λi=>[.v (cj.getD i undef)]) λi=>[.v (cl.getD i undef)]) false) (ins j .dead R'):=⟨_,rfl⟩;have hgy:∀q,A2 Ry q=if nid d 0=q then some (.vec e 1 (n+1) (DF n (λi=>[.v (cj.getD i undef)]) λi=>[.v (cl.getD i undef)]) false)else if j=q then some .dead else if l=q then some (.vec e 1 1 (λi=>[.v (cl.getD i undef)]) false)else A2 st.Qg q:=λq=>by
       rw[hRy,A4,A4,u]
       grind
      simp only[<- hRy]at p3 p4 p5;simp only[<- hRz];have hlz:∀q,Lv (A2 Ry) q->Lv (A2 Rz) q:=λq r=>by
       unfold Lv at r⊢;rw[hgz];rw[hgy]at r
       grind
      have hlz' : ∀q,Lv (A2 Rz) q->Lv (A2 Ry) q:=λq r=>by
       unfold Lv at r⊢;rw[hgy];rw[hgz]at r
       grind
      obtain⟨q2,q3⟩:=p3.re (λq=>q=nid d 0 \/ q=l) (R':=Rz) (rho':=rho1)
       (λq r=>by
        grind) (by grind)
       (by grind)
       (by grind)
       (λq o b r f hb=>by
        rw[hgz]at f;split at f
        .rename_i h1;subst h1;cases f;exact⟨_,_,.inl rfl,(hgy (nid d 0)).trans (Fg rfl),hb⟩
        rename_i h1;obtain rfl:q=l:=(by omega);rw[Fg rfl]at f;cases f;cases hb)
       (λq q' o o' b r a1 f ho' hb hb'=>by
        have key:∀q o,(q=nid d 0 \/ q=l)->A2 Rz q=some o->G1 (rho1 q) o b->q=nid d 0:=by
         intro q o r f hb;rcases r with h1|h1
         .omega
         rw[h1,hgz,Gb hnl,Fg rfl]at f;have f:=BZ7 f
         grind[Hc,G1,Q9]
        rw[key q o r f hb,key q' o' a1 ho' hb'])
       (λq o r f off=>by
        replace f:A2 Ry q=some o:=f;rw[hgy]at f;rcases r with h1|h1
        .rw[Fg h1.symm]at f;have f:=BZ7 f;subst f;trivial
        rw[h1,Gb hnl,Gb hne,Fg rfl]at f;have f:=BZ7 f;subst f;trivial)
       (λhpi hk q o r f=>by
        rw[hgz]at f;split at f
        .rename_i h1;subst h1;cases f;refine⟨rv,hlz jr (p4.live jr (g jr l1)).1,hrj,?_⟩;have hh:=p3.hp.holds (nid d 0) _ (by show A2 Ry _=_;rw[hgy,Fg rfl]);rcases hh with⟨_,h0⟩ | ⟨b,cap,c,g1,g2,g3,g4,g5,g6,g7⟩
         .omega
         have hc:∀i,i<n+1->c.getD i undef=(if i<n then cj.getD i undef else cl.getD (i-n) undef)/\(c.getD i undef).oneCell' = true:=by
          intro i hi
          have:=g7 i 0 hi (by omega)
          rw[BY0,Cb6]at this;refine⟨?_,this.2⟩;have h5:=this.1;unfold DF at h5;split at h5
          .rename_i h6;rw[Fg h6];exact h5.toV
          rename_i h6;rw[Gb h6];exact h5.toV
         refine .inr ⟨b,cap,c,g1,g2,g3,by omega,g5,λi hi=>⟨(hc i hi).2,λhx=>?_⟩,?_⟩
         .have hin:i<n:=by
           have:i≠n:=λh=>hx (by rw[h];rfl)
           omega
          rw[(hc i hi).1,Fg hin]
          grind
         show Ud w' _ _ rho1 (c.getD n undef) y;rw[(hc n (by omega)).1,Gb (by omega),Nat.sub_self];exact k3.keeps ((HX h3).trans (p4.keeps.trans hk)) λq r=>⟨hlz q (p4.live q (g q r)).1,(p4.live q (g q r)).2⟩
        rename_i h1;obtain rfl:q=l:=(by omega);rw[Fg rfl]at f;cases f;trivial)
      refine⟨nx,v,w',rho1,p1,p2,q2,⟨(HX h3).trans (p4.keeps.trans (HX q3)),λq r=>⟨hlz q (p4.live q (g q r)).1,(p4.live q (g q r)).2⟩⟩,?_⟩;exact p5.keeps (HX q3) (by grind)
     grind
    grind
   grind
  grind
 grind
def Ww (h:Sat C st a w rho){t:TypeId}{n:Nat}{parts:Array (Nat×Operand)}(s:o.op=.buildSlice t n parts)(he:aop P st.env st.Qg d o.op=some out)(hc:E5 out.cond):OpOk P C o st a w rho out:=by
 cases u:MH st.Qg n (parts.toList.map λq=>(q.1,aev st.env q.2))with
 |none=>exact Lh h u s he hc
 |some p=>
  obtain⟨jz,j⟩:=p;have hJ:∃x e1 k m f r g,parts.toList=[(0,x)]/\aev st.env x=.vec j/\n=1/\A2 st.Qg j=some (.vec e1 k m f false)/\A2 st.Qg jz=some (.rows r g):=by
   cases hp:parts.toList with
   |nil=>rw[hp]at u;simp[MH]at u
   |cons p1 ps=>
    obtain⟨i,x⟩:=p1;rw[hp]at u;cases ps with
    |cons p2 ps=>simp[MH]at u
    |nil=>
     simp only[BU9,Cc9]at u;unfold MH at u;split at u
     .rename_i hx;rename_i j1;simp only[Ca5,BU4,and_true]at hx;obtain⟨rfl,hx⟩:=hx;split at u
      .rename_i h1 h2;split at u
       .rename_i h3;split at u
        .rename_i h4;simp only[BT2,BU4]at u;obtain⟨rfl,rfl⟩:=u;exact⟨x,_,_,_,_,_,_,rfl,hx,h4,h1,h3⟩
        cases u
       cases u
      cases u
     cases u
  obtain⟨x,e1,k,m,f,r,g,a0,hx,rfl,hj,hjz⟩:=hJ;rw[s]at he;simp only[aop,u]at he;split at he
  .rename_i e hk hd;split at he
   .rename_i z hsz hz;split at he
    .rename_i hzl;cases he;obtain⟨rv,l2,_⟩:=h.hp.holds jz _ hjz;have hv:=h.aev x;rw[hx]at hv;obtain⟨b0,nn,cap,hV⟩:∃b0 nn cap,a.eval x=.slice b0 nn cap:=by
      generalize a.eval x=V at hv;cases hv with
      |vec j base nn cap hl hr=>exact⟨_,_,_,rfl⟩
     cases x with
     |const c=>cases hx
     |func q=>cases hx
     |global q=>cases hx
     |tmp t0=>
     obtain⟨env',henv⟩:∃env' : Env,env' = ins t0 (.p (.v (.slice b0 nn cap))) st.env:=⟨_,rfl⟩;have h2:Sat C ⟨env',st.Qg⟩ a w rho:=⟨h.toSatE,λq=>by
      show Ud _ _ _ _ _ (get env' q);rw[henv,QP];split
      .rename_i h1;subst h1;rw[show a.tmps.getD t0 undef=.slice b0 nn cap from hV];exact .p _ _ (.v _)
      exact h.env q,h.pin,h.marks⟩
     have hx' : aev env' (.tmp t0)=.p (.v (.slice b0 nn cap)):=by show get env' t0=_;rw[henv,QP,Fg rfl]
     obtain⟨Ry,hRy⟩:∃Ry:C8,Ry=ins (nid d 0) (.vec e 1 1 (H2 z [(0,[.v (.slice b0 nn cap)])]) false) st.Qg:=⟨_,rfl⟩;have hop:=Lh (P:=P) (o:=o) (d:=d) (st:=⟨env',st.Qg⟩) (out:=⟨[HR 1 1 [0] [.v (.slice b0 nn cap)]=true],.vec (nid d 0),Ry⟩) h2
      (by rw[a0];simp only[BU9,Cc9,hx'];rfl) s
      (by
       rw[s];have h3:MH st.Qg 1 ([(0,Operand.tmp t0)].map λq=>(q.1,aev env' q.2))=none:=by simp only[BU9,Cc9,hx'];rfl
       have h4:Hj st.Qg ([(0,Operand.tmp t0)].map λ(q:Nat×Operand)=>aev env' q.2)=some ([.v (.slice b0 nn cap)],st.Qg):=by simp only[BU9,Cc9,hx'];rfl
       simp only[aop,a0,h3,hk,hd,h4,hsz,hz];rw[Fg ⟨⟨by omega,by omega⟩,hzl⟩,hRy];rfl)
      (show HR 1 1 [0] [.v (.slice b0 nn cap)]=true from rfl)
     obtain⟨nx,v,w',rho1,p1,p2,p3,p4,p5⟩:=hop;have a1:∀q,A2 Ry q=if nid d 0=q then some (.vec e 1 1 (H2 z [(0,[.v (.slice b0 nn cap)])]) false)else A2 st.Qg q:=λq=>by rw[hRy,A4]
     obtain⟨Rz,hRz⟩:∃Rz:C8,Rz=ins (nid d 0) (.fam e 1 jz (some (0,.vec j))) st.Qg:=⟨_,rfl⟩;have a2:∀q,A2 Rz q=if nid d 0=q then some (.fam e 1 jz (some (0,.vec j)))else A2 st.Qg q:=λq=>by rw[hRz,A4]
     simp only[<- hRz];have y:∀q,Lv (A2 Ry) q↔Lv (A2 Rz) q:=λq=>by
      unfold Lv;rw[a1,a2];split
      .exact⟨λ_=>rfl,λ_=>rfl⟩
      exact Ce2
     have hrz:rho1 jz=.agg rv:=(p4.live jz (YV hjz)).2.trans l2;obtain⟨q2,q3⟩:=p3.re (λq=>q=nid d 0) (R':=Rz) (rho':=rho1)
      (λq l=>by show A2 Rz q=A2 Ry q;rw[a2,a1,Gb (λh=>l h.symm),Gb (λh=>l h.symm)]) (λq l=>⟨(y q).1 l,rfl⟩)
      (λq l hq'=>Hc ((y q).2 hq') l)
      (λq r b l=>by rw[a2,l,Fg rfl];simp)
      (λq o b l s hb=>by subst l;rw[a2,Fg rfl]at s;have s:=BZ7 s;subst s;exact⟨_,_,rfl,(a1 (nid d 0)).trans (Fg rfl),hb⟩)
      (λq q' o o' b l hq' _ _ _ _=>l.trans hq'.symm)
      (λq o l s off=>by replace s:A2 Ry q=some o:=s;rw[a1,Fg l.symm]at s;have s:=BZ7 s;subst s;trivial)
      (λhpi hk q o l s=>by
       subst l;rw[a2,Fg rfl]at s;have s:=BZ7 s;subst s;refine⟨rv,(y jz).1 (p4.live jz (YV hjz)).1,hrz,?_⟩;have hh:=p3.hp.holds (nid d 0) _ (by show A2 Ry _=_;rw[a1,Fg rfl]);rcases hh with⟨_,h0⟩ | ⟨b,cap',c,g1,g2,g3,g4,g5,g6,g7⟩
       .omega
       have h0:=g7 0 0 (by omega) (by omega);refine .inr ⟨b,cap',c,g1,g2,g3,by omega,g5,λi hi=>?_,?_⟩
       .obtain rfl:i=0:=by omega
        exact⟨h0.2,λhx=>Hc rfl hx⟩
       show Ud w' _ _ rho1 (c.getD 0 undef) (.vec j);have h1:c.getD 0 undef=.slice b0 nn cap:=Sb.toV h0.1;rw[h1,<- hV];exact hv.keeps (p4.keeps.trans hk) λq l=>⟨(y q).1 (p4.live q l).1,(p4.live q l).2⟩)
     refine⟨nx,v,w',rho1,p1,p2,⟨q2.toSatE,λq=>?_,q2.pin,q2.marks⟩,⟨p4.keeps.trans (HX q3),λq l=>⟨(y q).1 (p4.live q l).1,(p4.live q l).2⟩⟩,?_⟩
     .exact (h.env q).keeps (p4.keeps.trans (HX q3)) λq l=>⟨(y q).1 (p4.live q l).1,(p4.live q l).2⟩
     exact p5.keeps (HX q3) λq l=>⟨(y q).1 l,rfl⟩
    cases he
   cases he
  cases he
end
end Go.AM
