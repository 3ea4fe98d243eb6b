/- What a law's walk and its plain proof need, part 2: no condition of its own. -/
import Derived.Test.YtfcfdofmgkpmbaaGreatDoorLA
import Derived.Laws.StructEq
import Derived.ChangeKeysEq
import Derived.RangeFuncRecord
import Derived.Lib.TrailingZeros
set_option linter.unusedSimpArgs false
set_option linter.unusedVariables false
set_option linter.unusedSectionVars false
namespace Go.AM
section
variable {P:Program}{C:Ctx}{st:St}{a:Act}{w:World}{rho:Nat->Value}{o:Oper}{out:Out}{d:Nat}
theorem Fl {Pi:Nat->Nat->Prop}{v:Value}{x:PV}{b:Bool}(h:RepP w Pi v x)(he:Ov x=some b):v=.bool b:=by
 unfold Ov at he;split at he<;>cases he
 ·exact h.toBool
 ·exact h.toV
theorem Hz {Pi:Nat->Nat->Prop}{t:TypeId}{k:TK}(hk:tk P t=some k){v u:Value}{x y:PV}(hv:RepP w Pi v x)(hu:RepP w Pi u y){r:Bool}(he:Qs k x y=some r)(D:Nat) :(Op.equalIn (D+1) t v u).run P w=.ok r w:=by
 unfold Qs at he;split at he
 ·rename_i k' k1 a k2 b;split at he
  ·rename_i hkk;subst hkk;cases he;rw[hv.toInt,hu.toInt];exact run_equalIn_int w D t k1 k' a b (OF hk)
  ·cases he
 ·split at he
  ·rename_i a b ha hb;cases he;rw[Fl hv ha,Fl hu hb];exact run_equalIn_bool w D t a b (Zl hk)
  ·cases he
 ·cases he;rw[hv.toStr,hu.toStr,run_equalIn_string w D t _ _ (FA hk)];simp
 ·cases he
theorem OM {n:Nat}{t:TypeId}{k:TK}{ks:List TK}(hk:tk P t=some k)(h:lay P n t=some ks)(hs:∀fs,k ≠ .struct fs):ks=[k]/\Sc k=false:=by
 cases n with
 |zero=>simp[lay]at h
 |succ n=>obtain⟨dd,hu,rfl⟩:=Al hk;simp only[lay,hu]at h;cases dd<;>simp at h<;>first|exact⟨h.symm,rfl⟩ | exact absurd rfl (hs _)
theorem AY:∀{k1 k2:List TK}{a b:List PV}{r:Bool},R7 (k1++k2) a b=some r->∃r1 r2,R7 k1 (a.take k1.length) (b.take k1.length)=some r1/\R7 k2 (a.drop k1.length) (b.drop k1.length)=some r2/\r=(r1&&r2)/\a.length=k1.length+k2.length/\b.length=k1.length+k2.length
 |[],k2,a,b,r,h=>by
  have hl:∀{k:List TK}{a b:List PV}{r:Bool},R7 k a b=some r->a.length=k.length/\b.length=k.length:=by
   intro k
   induction k with
   |nil=>intro a b r h;cases a<;>cases b<;>simp[R7]at h⊢
   |cons k ks ih=>
    intro a b r h;cases a with
    |nil=>simp[R7]at h
    |cons x a=>
     cases b with
     |nil=>simp[R7]at h
     |cons y b=>
      cases ks with
      |nil=>cases a<;>cases b<;>simp[R7]at h⊢
      |cons k' ks=>
       simp only[R7]at h;split at h
       ·rename_i p q hp hq
        have:=ih hq
        simp only[List.length_cons]at this⊢;omega
       ·cases h
  have:=hl h
  exact⟨true,r,by simp[R7],by simpa using h,by simp,by simpa using this.1,by simpa using this.2⟩
 |k::k1,k2,a,b,r,h=>by
  cases a with
  |nil=>simp[R7]at h
  |cons x a=>
   cases b with
   |nil=>simp[R7]at h
   |cons y b=>
    cases hk1:k1++k2 with
    |nil=>
     obtain⟨rfl,rfl⟩:=List.append_eq_nil_iff.1 hk1;simp only[List.append_nil]at h;cases a with
     |cons _ _=>cases b<;>simp[R7]at h
     |nil=>
      cases b with
      |cons _ _=>simp[R7]at h
      |nil=>exact⟨r,true,by simpa using h,by simp[R7],by simp,rfl,rfl⟩
    |cons k' ks'=>
     have h' : ∃p q,Qs k x y=some p/\R7 (k1++k2) a b=some q/\r=(p&&q):=by
      rw[List.cons_append,hk1]at h;simp only[R7]at h;split at h
      ·rename_i p q hp hq;cases h;exact⟨p,q,hp,by rw[hk1];exact hq,rfl⟩
      ·cases h
     obtain⟨p,q,hp,hq,rfl⟩:=h';obtain⟨r1,r2,h1,h2,rfl,h3,h4⟩:=AY (k1:=k1) hq;refine⟨p&&r1,r2,?_,by simpa using h2,by simp[Bool.and_assoc],by simp;omega,by simp;omega⟩;cases k1 with
     |nil=>simp only[R7,List.length_nil,List.take_zero,Option.some.injEq]at h1;subst h1;simp[R7,hp]
     |cons k'' k1=>simp only[List.length_cons,List.take_succ_cons];simp only[List.length_cons]at h1;simp[R7,hp,h1]
theorem BD {l:List PV}{off:Nat}(d:PV)(h:off<l.length):(l.drop off).take 1=[l.getD off d]:=by rw[List.drop_eq_getElem_cons h,List.take_succ_cons,List.take_zero,List.getD_eq_getElem?_getD,List.getElem?_eq_getElem h];rfl
structure RowP (w:World) (Pi:Nat->Nat->Prop) (vs:Array Value) (cs:List PV):Prop where
 size:vs.size=cs.length
 rep:∀i,i<cs.length->RepP w Pi (vs.getD i undef) (cs.getD i default)
theorem RowP.extract {Pi:Nat->Nat->Prop}{vs:Array Value}{cs:List PV}(h:RowP w Pi vs cs){off n:Nat}(hle:off+n<=cs.length):RowP w Pi (vs.extract off (off+n)) ((cs.drop off).take n):=by
 have hs:=h.size;refine⟨by simp;omega,fun i hi=>?_⟩;simp only[List.length_take,List.length_drop]at hi
 have:=h.rep (off+i) (by omega)
 simpa[Array.getD_eq_getD_getElem?,Array.getElem?_extract,show i<min (off+n) vs.size-off by omega,show off+i<vs.size by omega,show off+i<cs.length by omega,List.getD_eq_getElem?_getD,List.getElem?_take,show i<n by omega,List.getElem?_drop]using this
theorem Zr {Pi:Nat->Nat->Prop}:∀(n:Nat) (t:TypeId) (ks:List TK),lay P n t=some ks->UY P n t=true->∀(vs us:Array Value) (as bs:List PV) (off D:Nat) (r:Bool),n<=D ->
 RowP w Pi vs as->RowP w Pi us bs->off+ks.length<=as.length->off+ks.length<=bs.length->R7 ks ((as.drop off).take ks.length) ((bs.drop off).take ks.length)=some r ->
 ∃x y,(part t vs off).run P w=.ok x w/\(part t us off).run P w=.ok y w/\(Op.equalIn D t x y).run P w=.ok r w:=by
 intro n
 induction n with
 |zero=>intro t ks h;simp[lay]at h
 |succ n ih=>
  intro t ks hl hh vs us as bs off D r hD hv hu ha hb hc;obtain⟨D,rfl⟩:∃D',D=D' + 1:=⟨D-1,by omega⟩;cases hk:tk P t with
  |none=>
   have:P.underlying t=none:=by unfold tk at hk;cases hu:P.underlying t<;>simp[hu]at hk⊢
   simp[lay,this]at hl
  |some k=>
   by_cases hs:∀fs,k ≠ .struct fs
   ·obtain⟨rfl,hag⟩:=OM hk hl hs;simp only[List.length_singleton]at ha hb hc;have ea:(as.drop off).take 1=[as.getD off default]:=by exact BD _ (by omega)
    have eb:(bs.drop off).take 1=[bs.getD off default]:=by exact BD _ (by omega)
    rw[ea,eb]at hc;simp only[R7]at hc;have hvs:=hv.size;have hus:=hu.size;refine⟨vs.getD off undef,us.getD off undef,?_,?_,Hz hk (hv.rep off (by omega)) (hu.rep off (by omega)) hc D⟩
    ·simp[part,G9 w hk,hag,Array.getD_eq_getD_getElem?,show off<vs.size by omega]
    ·simp[part,G9 w hk,hag,Array.getD_eq_getD_getElem?,show off<us.size by omega]
   ·obtain⟨fs,rfl⟩:∃fs,k=.struct fs:=Classical.byContradiction fun hn=>hs fun fs e=>hn ⟨fs,e⟩;obtain⟨fa,hun,_⟩:=Di hk;simp only[lay,hun]at hl;simp only[UY,hun,Bool.and_eq_true,Bool.not_eq_true']at hh;split at hl
    ·rename_i l hlf;split at hl
     ·rename_i hsz;cases hl;refine⟨.agg (vs.extract off (off+ks.length)),.agg (us.extract off (off+ks.length)),?_,?_,?_⟩
      ·simp[part,G9 w hk,Sc,Ib w hsz]
      ·simp[part,G9 w hk,Sc,Ib w hsz]
      ·have hfo:P.fieldsOf t=fa:=by simp[Program.fieldsOf,hun]
       rw[run_equalIn_struct w D t _ _ (by rw[hfo];exact hun) hh.1,hfo];have hv':=hv.extract ha;have hu':=hu.extract hb;generalize hvs' : vs.extract off (off+ks.length)=vs' at hv';generalize hus' : us.extract off (off+ks.length)=us' at hu';generalize has' : (as.drop off).take ks.length=as' at hv' hc;generalize hbs' : (bs.drop off).take ks.length=bs' at hu' hc;have hal:as'.length=0+ks.length:=by rw[<- has'];simp;omega
       have hbl:bs'.length=0+ks.length:=by rw[<- hbs'];simp;omega
       have hin:∀(fl:List Field) (o:Nat) (l:List TK) (r:Bool),YZ (lay P n) fl o=some l->(fl.all fun f=>decide (f.name ≠ "_")&&UY P n f.type)=true->as'.length=o+l.length->bs'.length=o+l.length ->
        R7 l (as'.drop o) (bs'.drop o)=some r->(Op.eqFields D vs' us' fl).run P w=.ok r w:=by
        intro fl
        induction fl with
        |nil=>intro o l r h1 _ h2 h3 h4;simp only[YZ,Option.some.injEq]at h1;subst h1;have e1:as'.drop o=[]:=List.drop_eq_nil_of_le (by simp at h2;omega);have e2:bs'.drop o=[]:=List.drop_eq_nil_of_le (by simp at h3;omega);rw[e1,e2]at h4;simp only[R7,Option.some.injEq]at h4;subst h4;simp[Op.eqFields]
        |cons f fl ihf=>
         intro o l r h1 h2 h3 h4 h5;simp only[YZ]at h1;split at h1
         ·cases h1
         ·rename_i hoff;have hoff:f.offset=o:=Classical.byContradiction hoff;split at h1
          ·rename_i ka hka;split at h1
           ·rename_i kb hkb;cases h1;simp only[List.all_cons,Bool.and_eq_true,decide_eq_true_eq]at h2;obtain⟨⟨hname,hhv⟩,hrest⟩:=h2;obtain⟨r1,r2,hr1,hr2,rfl,_,_⟩:=AY h5;simp only[List.length_append]at h3 h4;obtain⟨x,y,hx,hy,he⟩:=ih f.type ka hka hhv vs' us' as' bs' o D r1 (by omega) hv' hu' (by omega) (by omega) hr1;have hrec:=ihf (o+ka.length) kb r2 hkb (by simpa using hrest) (by omega) (by omega) (by simpa[List.drop_drop,Nat.add_comm]using hr2);simp only[Op.eqFields,if_pos hname,Sem.run_bind,hoff,hx,hy,he,Result.andThen_ok];cases r1
            ·simp
            ·simp[hrec]
           ·cases h1
          ·cases h1
       exact hin fa.toList 0 ks r hlf hh.2 hal hbl (by simpa using hc)
     ·cases hl
    ·cases hl
theorem HA {Pi:Nat->Nat->Prop}{t:TypeId}{v u:Value}{x y:PV}(hv:RepP w Pi v x)(hu:RepP w Pi u y){r:Bool}(he:KW P t x y=some r)(hc:D0 (MO P t)) :(Op.equal t v u).run P w=.ok r w/\(∀xs ys,v=.agg xs->u=.agg ys->P.eqGuardType P.depth t=false):=by
 unfold KW at he;unfold MO at hc;split at he
 ·rename_i fs hk;simp only[hk,D0,Za,Bool.and_eq_true,Bool.not_eq_true']at hc;split at he
  ·rename_i ks xs ys hlay;refine⟨?_,fun _ _ _ _=>hc.2⟩;cases hv with
   |agg vs _ hs1 _ hr1=>
   cases hu with
   |agg us _ hs2 _ hr2=>
   obtain⟨fa,hun,_⟩:=Di hk;have hl:=hlay;simp only[lay,hun]at hl;split at hl
   ·rename_i l hlf;split at hl
    ·rename_i hsz;cases hl;have hlen:xs.length=ks.length/\ys.length=ks.length:=by
      have:=AY (k1:=ks) (k2:=[]) (by simpa using he)
      obtain⟨_,_,_,_,_,h1,h2⟩:=this;exact⟨by simpa using h1,by simpa using h2⟩
     obtain⟨x,y,hx,hy,hr⟩:=Zr (P:=P) (w:=w) 10 t ks hlay hc.1 vs us xs ys 0 10000 r (by omega) ⟨hs1,hr1⟩ ⟨hs2,hr2⟩ (by omega) (by omega) (by simp[<- hlen.1];rw[hlen.1,<- hlen.2];simpa using he);have e1:(part t vs 0).run P w=.ok (.agg vs) w:=by
      have:vs.extract 0 ks.length=vs:=by rw[<- hlen.1,<- hs1];simp
      simp[part,G9 w hk,Sc,Ib w hsz,this]
     have e2:(part t us 0).run P w=.ok (.agg us) w:=by
      have:us.extract 0 ks.length=us:=by rw[<- hlen.2,<- hs2];simp
      simp[part,G9 w hk,Sc,Ib w hsz,this]
     rw[e1]at hx;rw[e2]at hy;cases hx;cases hy;exact hr
    ·cases hl
   ·cases hl
  ·cases he
 ·rename_i k hns hk;refine⟨Hz hk hv hu he 9999,fun xs ys h1 h2=>?_⟩;subst h1;exfalso;cases hv<;>unfold Qs at he<;>split at he<;>simp_all [Ov]
 ·cases he
end
end Go.AM
namespace Go.AM
section
variable {P:Program}{C:Ctx}{st:St}{a:Act}{w:World}{rho:Nat->Value}{o:Oper}{out:Out}{d:Nat}
theorem Xg {op:BinOp}{t:TypeId}{k l:IntKind}{x y:Int}{c:List Prop}{r:PV}(hk:k=l \/ op=.shl \/ op=.shr)(he:Ow op k x y=(c,r))(hc:D0 c)(Pi:Nat->Nat->Prop) :∃v,(binOp op t (.int k x) (.int l y)).run P w=.ok v w/\RepP w Pi v r:=by
 cases op<;>simp only[Ow,Prod.mk.injEq]at he<;>obtain⟨rfl,rfl⟩:=he
 case shl=>
  have:¬y<0:=by simp only[D0]at hc;omega
  exact⟨_,by first|(simp[binOp,Op.shift,this];done)|(simp[binOp,Op.shift,this];rfl),.v _⟩
 case shr=>
  have:¬y<0:=by simp only[D0]at hc;omega
  exact⟨_,by first|(simp[binOp,Op.shift,this];done)|(simp[binOp,Op.shift,this];rfl),.v _⟩
 all_goals
  obtain rfl:k=l:=by rcases hk with h|h|h<;>first|exact h|cases h
 case quo=>simp only[D0]at hc;exact⟨_,by first|(simp[binOp,Op.intDiv,hc];done)|(simp[binOp,Op.intDiv,hc];rfl),.v _⟩
 case rem=>simp only[D0]at hc;exact⟨_,by first|(simp[binOp,Op.intDiv,hc];done)|(simp[binOp,Op.intDiv,hc];rfl),.v _⟩
 case add=>exact⟨_,by first|(simp[binOp,Op.intArith];done)|(simp[binOp,Op.intArith];rfl),.v _⟩
 case sub=>exact⟨_,by first|(simp[binOp,Op.intArith];done)|(simp[binOp,Op.intArith];rfl),.v _⟩
 case mul=>exact⟨_,by first|(simp[binOp,Op.intArith];done)|(simp[binOp,Op.intArith];rfl),.v _⟩
 case and=>exact⟨_,by first|(simp[binOp,Op.intBits];done)|(simp[binOp,Op.intBits];rfl),.v _⟩
 case or=>exact⟨_,by first|(simp[binOp,Op.intBits];done)|(simp[binOp,Op.intBits];rfl),.v _⟩
 case xor=>exact⟨_,by first|(simp[binOp,Op.intBits];done)|(simp[binOp,Op.intBits];rfl),.v _⟩
 case andNot=>exact⟨.int k (D9 .andNot k x y),by simp only[binOp,ne_eq,not_true_eq_false,if_false,Op.intBits,D9];rfl,.v _⟩
 case eql=>exact⟨_,by first|(simp[binOp,Op.intCmp];done)|(simp[binOp,Op.intCmp];rfl),.bb _⟩
 case neq=>exact⟨_,by first|(simp[binOp,Op.intCmp];done)|(simp[binOp,Op.intCmp];rfl),.bb _⟩
 case lss=>exact⟨_,by first|(simp[binOp,Op.intCmp];done)|(simp[binOp,Op.intCmp];rfl),.bb _⟩
 case leq=>exact⟨_,by first|(simp[binOp,Op.intCmp];done)|(simp[binOp,Op.intCmp];rfl),.bb _⟩
 case gtr=>exact⟨_,by first|(simp[binOp,Op.intCmp];done)|(simp[binOp,Op.intCmp];rfl),.bb _⟩
 case geq=>exact⟨_,by first|(simp[binOp,Op.intCmp];done)|(simp[binOp,Op.intCmp];rfl),.bb _⟩
theorem Ca {op:BinOp}{t:TypeId}{x y:Operand}{v u:Value}(h1:¬(v=.nilIface/\u=.nilIface))(h2:∀xs ys,v=.agg xs->u=.agg ys->P.eqGuardType P.depth t=false) :(eqGuard op t x y v u).run P w=.ok () w:=by
 have key:∀op,op=.eql \/ op=.neq->(eqGuard op t x y v u).run P w=.ok () w:=by
  intro op hop;rcases hop with rfl|rfl<;>simp only[eqGuard,Bool.not_true,Bool.false_eq_true,if_false]<;>split
  ·exact absurd ⟨rfl,rfl⟩ h1
  ·simp[run_program,h2 _ _ rfl rfl]
  ·rfl
  ·exact absurd ⟨rfl,rfl⟩ h1
  ·simp[run_program,h2 _ _ rfl rfl]
  ·rfl
 cases op<;>first|exact key _ (.inl rfl)|exact key _ (.inr rfl)|rfl
theorem BF {t:TypeId}{v u:Value}{r:Bool}(h:(Op.equal t v u).run P w=.ok r w)(neg:Bool)(h1:∀k n,v ≠ .int k n)(h2:∀s,v ≠ .string s)(h3:∀k n,v ≠ .float k n)(h4:∀k n m,v ≠ .complex k n m) :(binOp (if neg then .neq else .eql) t v u).run P w=.ok (.bool (r != neg)) w:=by
 cases neg
 ·have:binOp .eql t v u=(do pure (.bool (<- Op.equal t v u)):Sem Value):=by cases v<;>first|rfl|exact absurd rfl (h1 _ _)|exact absurd rfl (h2 _)|exact absurd rfl (h3 _ _)|exact absurd rfl (h4 _ _ _)
  simp[this,h]
 ·have:binOp .neq t v u=(do pure (.bool (!(<- Op.equal t v u))):Sem Value):=by cases v<;>first|rfl|exact absurd rfl (h1 _ _)|exact absurd rfl (h2 _)|exact absurd rfl (h3 _ _)|exact absurd rfl (h4 _ _ _)
  simp[this,h]
theorem LX {Pi:Nat->Nat->Prop}{t:TypeId}{v u:Value}{x y:PV}(hv:RepP w Pi v x)(hu:RepP w Pi u y){r:Bool}(he:KW P t x y=some r) :(∃k a b,v=.int k a/\u=.int k b/\r=(a==b)) \/ (∃a b,v=.bool a/\u=.bool b) \/ (∃a b:List UInt8,v=.string ⟨a.toArray⟩/\u=.string ⟨b.toArray⟩/\r=(a==b)) \/ (∃a b,v=.agg a/\u=.agg b):=by
 unfold KW at he;split at he
 ·split at he
  ·cases hv;cases hu;exact .inr (.inr (.inr ⟨_,_,rfl,rfl⟩))
  ·cases he
 ·unfold Qs at he;split at he
  ·split at he
   ·rename_i hk;subst hk;cases he;exact .inl ⟨_,_,_,hv.toInt,hu.toInt,rfl⟩
   ·cases he
  ·split at he
   ·rename_i ha hb;cases he;exact .inr (.inl ⟨_,_,Fl hv ha,Fl hu hb⟩)
   ·cases he
  ·cases he;exact .inr (.inr (.inl ⟨_,_,hv.toStr,hu.toStr,rfl⟩))
  ·cases he
 ·cases he
theorem GC {Pi:Nat->Nat->Prop}{e:TypeId}{k:TK}(hk:tk P e=some k)(hb:Yv k=true){vs us:Array Value}{as bs:List PV}(hv:RowP w Pi vs as)(hu:RowP w Pi us bs)(D:Nat) :∀(m j:Nat) (r:Bool),as.length=j+m->bs.length=j+m->R7 (List.replicate m k) (as.drop j) (bs.drop j)=some r->(Op.eqItems (D+1) e 1 vs us (List.range' j m)).run P w=.ok r w
 |0,j,r,ha,hbl,h=>by rw[List.drop_eq_nil_of_le (by omega),List.drop_eq_nil_of_le (by omega)]at h;simp only[List.replicate,R7,Option.some.injEq]at h;subst h;simp[Op.eqItems]
 |m+1,j,r,ha,hbl,h=>by
  have hag:Sc k=false:=by cases k<;>first|rfl|cases hb
  rw[List.replicate_succ]at h;obtain⟨r1,r2,hr1,hr2,rfl,_,_⟩:=AY (k1:=[k]) (k2:=List.replicate m k) h;simp only[List.length_singleton]at hr1 hr2;rw[BD default (by omega),BD default (by omega)]at hr1;simp only[R7]at hr1;have hvs:=hv.size;have hus:=hu.size;have hx:(part e vs (j*1)).run P w=.ok (vs.getD j undef) w:=by simp[part,G9 w hk,hag,Array.getD_eq_getD_getElem?,show j<vs.size by omega]
  have hy:(part e us (j*1)).run P w=.ok (us.getD j undef) w:=by simp[part,G9 w hk,hag,Array.getD_eq_getD_getElem?,show j<us.size by omega]
  have he:=Hz hk (hv.rep j (by omega)) (hu.rep j (by omega)) hr1 D;have hrec:=GC hk hb hv hu D m (j+1) r2 (by omega) (by omega) (by simpa[List.drop_drop,Nat.add_comm]using hr2);simp only[List.range'_succ,Op.eqItems,Sem.run_bind,hx,hy,he,Result.andThen_ok];cases r1
  ·simp
  ·simp[hrec]
theorem ON {Pi:Nat->Nat->Prop}{t:TypeId}{v u:Value}{x y:PV}(hv:RepP w Pi v x)(hu:RepP w Pi u y){r:Bool}(he:UZ P t x y=some r) :(Op.equal t v u).run P w=.ok r w/\∃xs ys,v=.agg xs/\u=.agg ys:=by
 unfold UZ at he;split at he
 ·rename_i n e ht;split at he
  ·rename_i k xs ys hk;split at he
   ·rename_i hc;have hun:=Ji ht;cases hv with
    |agg vs _ hs1 _ hr1=>
    cases hu with
    |agg us _ hs2 _ hr2=>
    refine⟨?_,_,_,rfl,rfl⟩;obtain⟨i,hi,hsz⟩:=Option.map_eq_some_iff.1 (show (P.info? e).map (·.size)=some 1 from hc.2);have hce:P.cellsOf e=1:=by simp[Program.cellsOf,hi,hsz]
    have hl:xs.length=n/\ys.length=n:=by
     have:=AY (k1:=List.replicate n k) (k2:=[]) (by simpa using he)
     obtain⟨_,_,_,_,_,h1,h2⟩:=this;exact⟨by simpa using h1,by simpa using h2⟩
    show (Op.equalIn (9999+1) t (.agg vs) (.agg us)).run P w=_;rw[run_equalIn_array w 9999 vs us hun hi,hce,List.range_eq_range'];exact GC hk hc.1 ⟨hs1,hr1⟩ ⟨hs2,hr2⟩ 9998 n 0 r (by omega) (by omega) (by simpa using he)
   ·cases he
  ·cases he
 ·cases he
theorem Zs {t e:TypeId}(hk:P.underlying t=some (.pointer e))(d:Nat)(p q:Option Addr)(h:p=none \/ q=none):(Op.equalIn (d+1) t (.pointer p) (.pointer q)).run P w=.ok (p.isNone&&q.isNone) w:=by
 rcases h with rfl|rfl
 ·simp[Op.equalIn,AA w hk]
 ·cases p<;>simp[Op.equalIn,AA w hk]
theorem Vw {t e:TypeId}(hk:P.underlying t=some (.slice e))(d:Nat)(p q:Option Addr)(n m k l:Nat)(h:p=none \/ q=none):(Op.equalIn (d+1) t (.slice p n m) (.slice q k l)).run P w=.ok (p.isNone&&q.isNone) w:=by
 rcases h with rfl|rfl
 ·simp[Op.equalIn,AA w hk]
 ·cases p<;>simp[Op.equalIn,AA w hk]
theorem Zt {t e f:TypeId}(hk:P.underlying t=some (.map e f))(d:Nat)(p q:Option Nat)(h:p=none \/ q=none):(Op.equalIn (d+1) t (.map p) (.map q)).run P w=.ok (p.isNone&&q.isNone) w:=by
 rcases h with rfl|rfl
 ·simp[Op.equalIn,AA w hk]
 ·cases p<;>simp[Op.equalIn,AA w hk]
theorem Sg {t:TypeId}{a b:Array TypeId}{c:Bool}(hk:P.underlying t=some (.func a b c))(d:Nat):(Op.equalIn (d+1) t .nilFunc .nilFunc).run P w=.ok true w/\∀f x y,(Op.equalIn (d+1) t (.func f x y) .nilFunc).run P w=.ok false w:=
 ⟨by simp[Op.equalIn,AA w hk],fun f x y=>by simp[Op.equalIn,AA w hk]⟩
theorem Vx {t:TypeId}{ms:Array (String×TypeId)}(hk:P.underlying t=some (.interface ms))(d:Nat)(u:TypeId)(x:Value):(Op.equalIn (d+1) t (.iface u x) .nilIface).run P w=.ok false w:=by simp[Op.equalIn,AA w hk]
def Odd (v:Value):Prop:=(∀xs,v ≠ .agg xs)/\(∀k n,v ≠ .int k n)/\(∀s,v ≠ .string s)/\(∀k n,v ≠ .float k n)/\(∀k n m,v ≠ .complex k n m)
theorem Qz {Pi:Nat->Nat->Prop}{live:Nat->Prop}{t:TypeId}{v u:Value}{x y:AV}(hv:RepA w Pi live rho v x)(hu:RepA w Pi live rho u y){b:Bool}(he:Zb P t x y=some b) :(Op.equal t v u).run P w=.ok b w/\¬(v=.nilIface/\u=.nilIface)/\Odd v:=by
 show (Op.equalIn (9999+1) t v u).run P w=.ok b w/\_;generalize 9999=D;unfold Zb at he;split at he
 ·rename_i e hk;have fin:∀p q:Option Addr,v=.pointer p->u=.pointer q->(p=none \/ q=none)->b=(p.isNone&&q.isNone)->(Op.equalIn (D+1) t v u).run P w=.ok b w/\¬(v=.nilIface/\u=.nilIface)/\Odd v:=by rintro p q rfl rfl h rfl;exact⟨Zs hk D p q h,by simp,by simp[Odd]⟩
  split at he<;>cases he
  ·exact fin _ _ hv.toP.toV hu.toP.toV (.inl rfl) rfl
  ·have:=hu.toP;generalize u=u at this fin;cases this;exact fin _ _ hv.toP.toV rfl (.inl rfl) rfl
  ·generalize u=u at hu fin;cases hu;exact fin _ _ hv.toP.toV rfl (.inl rfl) rfl
  ·generalize u=u at hu fin;cases hu;exact fin _ _ hv.toP.toV rfl (.inl rfl) rfl
  ·have:=hv.toP;generalize v=v at this fin;cases this;exact fin _ _ rfl hu.toP.toV (.inr rfl) rfl
  ·generalize v=v at hv fin;cases hv;exact fin _ _ rfl hu.toP.toV (.inr rfl) rfl
  ·generalize v=v at hv fin;cases hv;exact fin _ _ rfl hu.toP.toV (.inr rfl) rfl
 ·rename_i e hk;have fin:∀(p q:Option Addr) (n m k l:Nat),v=.slice p n m->u=.slice q k l->(p=none \/ q=none)->b=(p.isNone&&q.isNone)->(Op.equalIn (D+1) t v u).run P w=.ok b w/\¬(v=.nilIface/\u=.nilIface)/\Odd v:=by rintro p q n m k l rfl rfl h rfl;exact⟨Vw hk D p q n m k l h,by simp,by simp[Odd]⟩
  split at he<;>cases he
  ·exact fin _ _ _ _ _ _ hv.toP.toV hu.toP.toV (.inl rfl) rfl
  ·have:=hv.toP;generalize v=v at this fin;cases this;exact fin _ _ _ _ _ _ rfl hu.toP.toV (.inr rfl) rfl
 ·rename_i e f hk;have fin:∀(p q:Option Nat),v=.map p->u=.map q->(p=none \/ q=none)->b=(p.isNone&&q.isNone)->(Op.equalIn (D+1) t v u).run P w=.ok b w/\¬(v=.nilIface/\u=.nilIface)/\Odd v:=by rintro p q rfl rfl h rfl;exact⟨Zt hk D p q h,by simp,by simp[Odd]⟩
  split at he<;>cases he
  ·exact fin _ _ hv.toP.toV hu.toP.toV (.inl rfl) rfl
  ·generalize v=v at hv fin;cases hv;exact fin _ _ rfl hu.toP.toV (.inr rfl) rfl
 ·rename_i a c e hk;split at he<;>cases he
  ·rw[hv.toP.toV,hu.toP.toV];exact⟨(Sg hk D).1,by simp,by simp[Odd]⟩
  ·rw[hu.toP.toV];cases hv;exact⟨(Sg hk D).2 _ _ _,by simp,by simp[Odd]⟩
 ·rename_i ms hk;split at he<;>cases he
  ·rw[hu.toP.toV];have:=hv.toP;cases this;exact⟨Vx hk D _ _,by simp,by simp[Odd]⟩
 ·cases he
theorem Xh (h:Sat C st a w rho){op:BinOp}{t yt:TypeId}{x y:Operand}(ho:o.op=.binOp op t x y yt)(he:aop P st.env st.regs d o.op=some out)(hc:D0 out.cond):OpOk P C o st a w rho out:=by
 rw[ho]at he;simp only[aop]at he;split at he
 ·rename_i c r hb;cases he;have hx:=h.aev x;have hy:=h.aev y;have fin:∀v,(eqGuard op t x y (a.eval x) (a.eval y)).run P w=.ok () w->(binOp op t (a.eval x) (a.eval y)).run P w=.ok v w->RepP w (PiS C st rho) v r->OpOk P C o st a w rho ⟨c,.p r,st.regs⟩:=by intro v h1 h2 h3;exact OpOk.pure h (by simp[execOp,ho,h1,h2]) (.p _ _ h3)
  unfold bin at hb;split at hb
  ·rename_i k n l m hxe hye;rw[hxe]at hx;rw[hye]at hy;have hxv:=hx.toP.toInt;have hyv:=hy.toP.toInt;have hg:(eqGuard op t x y (a.eval x) (a.eval y)).run P w=.ok () w:=Ca (by rw[hxv];simp) (by rw[hxv];simp);have key:Ow op k n m=(c,r)/\(k=l \/ op=.shl \/ op=.shr):=by
    split at hb
    ·cases hb;exact⟨rfl,.inr (.inl rfl)⟩
    ·cases hb;exact⟨rfl,.inr (.inr rfl)⟩
    ·split at hb
     ·rename_i hkl;exact⟨Option.some.inj hb,.inl hkl⟩
     ·cases hb
   obtain⟨v,hv,hr⟩:=Xg (P:=P) (w:=w) (t:=t) key.2 key.1 hc (PiS C st rho);exact fin v hg (by rw[hxv,hyv];exact hv) hr
  ·have eq:∀neg:Bool,op=(if neg then .neq else .eql)->eqA P t (aev st.env x) (aev st.env y) neg=some (c,r)->OpOk P C o st a w rho ⟨c,.p r,st.regs⟩:=by
    intro neg hop heq;unfold eqA at heq;split at heq
    ·rename_i r' hcmp;cases heq;split at hcmp
     ·rename_i p q hxe hye;rw[hxe]at hx;rw[hye]at hy;have hxp:=hx.toP;have hyp:=hy.toP;obtain⟨h1,h2⟩:=HA hxp hyp hcmp hc;have hg:(eqGuard op t x y (a.eval x) (a.eval y)).run P w=.ok () w:=by refine Ca ?_ h2;rintro⟨e1,e2⟩;rcases LX hxp hyp hcmp with⟨_,_,_,h3,_⟩ | ⟨_,_,h3,_⟩ | ⟨_,_,h3,_⟩ | ⟨_,_,h3,_⟩<;>rw[e1]at h3<;>cases h3
      refine fin (.bool (r' != neg)) hg ?_ (.bb _);subst hop;rcases LX hxp hyp hcmp with⟨k,n,m,h3,h4,rfl⟩ | ⟨n,m,h3,h4⟩ | ⟨n,m,h3,h4,rfl⟩ | ⟨n,m,h3,h4⟩
      ·rw[h3,h4];cases neg<;>simp[binOp,Op.intCmp,bne]
      ·exact BF h1 neg (by rw[h3];simp) (by rw[h3];simp) (by rw[h3];simp) (by rw[h3];simp)
      ·rw[h3,h4];cases neg<;>simp[binOp,Op.stringOp]
      ·exact BF h1 neg (by rw[h3];simp) (by rw[h3];simp) (by rw[h3];simp) (by rw[h3];simp)
     ·cases hcmp
    ·split at heq
     ·rename_i r' hcmp;cases heq;split at hcmp
      ·rename_i p q hxe hye;rw[hxe]at hx;rw[hye]at hy;obtain⟨h1,xs,ys,h3,h4⟩:=ON hx.toP hy.toP hcmp;have hg:(eqGuard op t x y (a.eval x) (a.eval y)).run P w=.ok () w:=
        Ca (by rw[h3];simp) fun _ _ _ _=>by simpa[D0]using hc
       refine fin (.bool (r' != neg)) hg ?_ (.bb _);subst hop;exact BF h1 neg (by rw[h3];simp) (by rw[h3];simp) (by rw[h3];simp) (by rw[h3];simp)
      ·cases hcmp
     split at heq
     ·rename_i b hnil;cases heq;obtain⟨h1,h2,h3,h4,h5,h6,h7⟩:=Qz hx hy hnil;refine fin (.bool (b != neg)) (Ca h2 fun xs _ e _=>absurd e (h3 xs)) ?_ (.v _);subst hop;exact BF h1 neg h4 h5 h6 h7
     ·cases heq
   split at hb
   ·split at hb
    ·rename_i l m hxe hye;cases hb;rw[hxe]at hx;rw[hye]at hy;have hxv:=hx.toP.toStr;have hyv:=hy.toP.toStr;refine fin (.string ⟨(l++m).toArray⟩) (Ca (by rw[hxv];simp) (by rw[hxv];simp)) ?_ (.str _)
     have:¬(9223372036854775807<((l.length:Int)+(m.length:Int))):=by simp only[D0]at hc;omega
     have hmx:IntKind.i64.max=9223372036854775807:=rfl;rw[hxv,hyv];simp[binOp,Op.stringOp,KY,Zq,hmx,this]
    ·cases hb
   ·exact eq false rfl hb
   ·exact eq true rfl hb
   ·cases hb
 ·cases he
end
end Go.AM
namespace Go.AM
section
variable {P:Program}{C:Ctx}{st:St}{a:Act}{w:World}{rho:Nat->Value}{o:Oper}{out:Out}{d:Nat}
theorem Sat.grow (h:Sat C st a w rho){w' : World}(hsz:w.heap.size<=w'.heap.size)(hheap:∀b,b<w.heap.size->w'.heap[b]? = w.heap[b]?)(hext:Ext w w':=by exact⟨rfl,rfl⟩):Sat C st a w' rho/\Kp C st.regs st.regs w w' rho rho:=by
 obtain⟨h1,h2⟩:=h.step (R':=st.regs) (rho':=rho) (w':=w') (fun _=>False) (fun _ _=>rfl) (fun j hj=>⟨hj,rfl⟩) hsz (fun j h1 h2=>absurd h2 h1) (fun j _ _ h=>h.elim) (fun b hb _=>hheap b hb)
  (fun j o b hj=>hj.elim) (fun i j oi oj b hi=>hi.elim) (fun i oi b off v hi=>hi.elim) (fun _ j o hj=>hj.elim) hext
 exact⟨h1,h2,fun i hi=>⟨hi,rfl⟩⟩
theorem HD (e:TypeId)(l:List UInt8):∃w' cap c,(Conv.stringToBytes e ⟨l.toArray⟩).run P w=.ok (.slice (some ⟨w.heap.size,0,none⟩) l.length cap) w' /\ Ext w w' /\ l.length<=cap/\w.heap.size<=w'.heap.size/\(∀b,b<w.heap.size->w'.heap[b]? = w.heap[b]?) /\
 ∀i,i<l.length->w'.cell? ⟨w.heap.size,i,none⟩=some (.int .u8 ((l.getD i 0).toNat:Nat))/\c=():=by
 have hlen:l.length<=grownCap w l.length 0 e:=grownCap_ge w _ _ e;refine⟨(w.drew.alloc (.cells ((l.toArray.map fun b=>Value.int .u8 (b.toNat:Nat))++Array.replicate (grownCap w l.length 0 e-l.length) (.int .u8 0)) e)).freeze ⟨w.heap.size,l.length+(grownCap w l.length 0 e-l.length),none⟩ 1,grownCap w l.length 0 e,(),?_,⟨rfl,rfl⟩,hlen,?_,?_,?_⟩
 ·have hsh:∀arr:Array Value,(w.drew.alloc (.cells arr e)).shape? w.heap.size=some (e,arr.size):=by
   intro arr
   have:=heap_alloc_new w.drew (.cells arr e)
   simp only[World.size_drew]at this;unfold World.shape?;rw[this]
  simp[Conv.stringToBytes,KY,Question.forced,newRow,markStringish,hsh,grownCap]
 ·simp[World.freeze]
 ·intro b hb;have h1:b≠w.heap.size:=by omega
  simp only[World.freeze,Nat.one_ne_zero,if_false,Array.getElem?_modify,if_neg (Ne.symm h1)];exact heap_alloc_old w.drew _ b hb
 ·intro i hi;refine⟨?_,rfl⟩;have hnew:=heap_alloc_new w.drew (.cells ((l.toArray.map fun b=>Value.int .u8 (b.toNat:Nat))++Array.replicate (grownCap w l.length 0 e-l.length) (.int .u8 0)) e);simp only[World.size_drew]at hnew;simp only[World.cell?,World.freeze,Nat.one_ne_zero,if_false,Array.getElem?_modify,if_true,hnew,Option.map_some];simp[Array.getElem?_append,hi,List.getD_eq_getElem?_getD]
theorem QA {Pi:Nat->Nat->Prop}{f:List PV}{v:Value}(hf:(Fy f).isSome=true)(hl:f.length=1)(hr:RepP w Pi v (f.getD 0 default)):∃n,v=.int .u8 n/\Fy f=some (UInt8.ofNat n.toNat):=by
 unfold Fy at hf⊢;split at hf
 ·rename_i n;exact⟨n,hr.toInt,rfl⟩
 ·cases hf
theorem Ts (ns:List Int):∀s:ByteArray,ns.foldl (fun r n=>r.push (UInt8.ofNat n.toNat)) s=⟨s.data++(ns.map fun n=>UInt8.ofNat n.toNat).toArray⟩:=by
 induction ns with
 |nil=>intro s;simp
 |cons n ns ih=>intro s;rw[List.foldl_cons,ih];apply ByteArray.ext;show (s.data.push _)++_=s.data++_;apply Array.ext';simp
theorem GD {v:Value}{n:Nat}{news:List Value}(hs:(Builtin.firstCells 1 n v).run P w=.ok news.toArray w)(hl:(Builtin.lenOf v).run P w=.ok n w)(hsl:∃b k c,v=.slice b k c){ns:List Int}(hn:news=ns.map (Value.int .u8))(hne:∀k c,v=.slice none k c->news=[]) :(Conv.bytesToString v).run P w=.ok (.string (ns.foldl (fun r n=>r.push (UInt8.ofNat n.toNat)) ByteArray.empty)) w:=by
 obtain⟨b,k,c,rfl⟩:=hsl;simp only[Builtin.lenOf,Sem.run_pure,Result.ok.injEq,and_true]at hl;subst hl;cases b with
 |none=>
  have:=hne k c rfl
  subst this
  have:ns=[]:=by cases ns<;>simp at hn⊢
  subst this;simp[Conv.bytesToString,ByteArray.empty,ByteArray.emptyWithCapacity]
 |some ad=>simp only[Builtin.firstCells,Nat.mul_one]at hs;rw[hn]at hs;exact run_bytesToString w ad k c ns hs
theorem Tt (h:Sat C st a w rho){s t:TypeId}{x:Operand}(ho:o.op=.convert s t x)(he:aop P st.env st.regs d o.op=some out)(hc:D0 out.cond):OpOk P C o st a w rho out:=by
 rw[ho]at he;simp only[aop]at he;have hx:=h.aev x;split at he
 ·rename_i k0 k hs ht;split at he
  ·rename_i k1 n hxe;cases he;rw[hxe]at hx;refine OpOk.pure h (v:=.int k (k.wrap n)) ?_ (.p _ _ (.v _));simp[execOp,ho,convert,AA w (OF hs),AA w (OF ht),hx.toP.toInt,Conv.intToInt]
  ·cases he
 ·rename_i hs ht;split at he
  ·rename_i l hxe;cases he;rw[hxe]at hx;refine OpOk.pure h (v:=.string ⟨l.toArray⟩) ?_ (.p _ _ (.str _));simp[execOp,ho,convert,AA w (FA hs),AA w (FA ht),hx.toP.toStr]
  ·cases he
 ·rename_i e hs ht;split at he
  ·rename_i l hxe hel;cases he;rw[hxe]at hx;obtain⟨w',cap,c,hr,hxt,hcap,hsz,hheap,hcell⟩:=HD (P:=P) (w:=w) e l;obtain⟨h1,h2⟩:=h.grow hsz hheap hxt;refine⟨_,_,w',rho,?_,.inl rfl,h1,h2,.p _ _ (.sl true w.heap.size 0 cap 1 l.length _ (fun i _=>.int .u8 ((l.getD i 0).toNat:Nat)) hcap (fun i hi=>rfl) (fun i j hi hj=>?_) (fun i j hi hj=>?_) none fun _=>rfl)⟩
   ·simp[execOp,ho,convert,AA w (FA hs),AA w (K0 ht),AA w (OF hel),hx.toP.toStr,hr]
   ·obtain rfl:j=0:=by omega
    refine⟨by simpa using (hcell i hi).1,?_,rfl⟩;rintro (hX|⟨j',o',hj',hbo,_⟩)
    ·have:=h.hp.bound _ _ hX;omega
    ·have:=h.hp.lt ⟨j',o',hj',hbo⟩;omega
   ·obtain rfl:j=0:=by omega
    exact .v _
  ·cases he
 ·rename_i e hs ht;split at he
  ·rename_i hel;split at he
   ·rename_i n f hsl hele;cases he;have hc:∀i,i<n->(Fy (f i)).isSome=true:=hc;obtain⟨c,hsrc,hfl,hfr⟩:=Jm h hx hele hs rfl;have hb:∀i,i<n->∃m,c i 0=.int .u8 m/\Fy (f i)=some (UInt8.ofNat m.toNat):=fun i hi=>QA (hc i hi) (hfl i hi) (hfr i 0 hi (by omega)).1;obtain⟨g,hg⟩:∃g:Nat->Int,∀i,i<n->c i 0=.int .u8 (g i)/\Fy (f i)=some (UInt8.ofNat (g i).toNat):=
     ⟨fun i=>if hi:i<n then (hb i hi).choose else 0,fun i hi=>by simp only[hi,dif_pos];exact (hb i hi).choose_spec⟩
    have hnews:X3 c n 1=((List.range n).map g).map (Value.int .u8):=by simp only[X3,Nat.mul_one,Nat.div_one,Nat.mod_one,List.map_map];apply List.map_congr_left;intro i hi;exact (hg i (List.mem_range.1 hi)).1
    have hslice:∃b k cc,a.eval x=.slice b k cc:=by
     generalize hxe:aev st.env x=y at hx hsl hele;generalize a.eval x=v at hx;cases hx with
     |p _ y hy=>
      cases hy with
      |v y=>
       simp only[elems]at hele;split at hele<;>first
        |(rename_i heq;cases heq;exact⟨_,_,_,rfl⟩)
        |(cases hele;done)
        |(rename_i heq;cases heq)
      |str l=>simp[Yw]at hsl
      |slnil=>exact⟨_,_,_,rfl⟩
      |sl=>exact⟨_,_,_,rfl⟩
      |_=>simp[elems]at hele
     |vec=>exact⟨_,_,_,rfl⟩
     |vecp=>exact⟨_,_,_,rfl⟩
     |_=>simp[elems]at hele
    have hnil:∀k cc,a.eval x=.slice none k cc->X3 c n 1=[]:=by intro k cc hv;have h1:=hsrc.cells;rw[hv]at h1;simp only[Builtin.firstCells,Sem.run_pure,Result.ok.injEq,and_true]at h1;simpa using (congrArg Array.toList h1).symm
    have hrun:=GD hsrc.cells (hsrc.len w) hslice hnews hnil;refine OpOk.pure h (v:=.string ⟨((List.range n).map fun i=>(Fy (f i)).getD 0).toArray⟩) ?_ (.p _ _ (.str _));have hfin:(((List.range n).map g).foldl (fun r m=>r.push (UInt8.ofNat m.toNat)) ByteArray.empty)=⟨((List.range n).map fun i=>(Fy (f i)).getD 0).toArray⟩:=by
     rw[Ts];apply ByteArray.ext;apply Array.ext';simp only[Array.toList_append,List.map_map]
     have:ByteArray.empty.data.toList=[]:=rfl
     rw[this,List.nil_append];apply List.map_congr_left;intro i hi;simp[(hg i (List.mem_range.1 hi)).2]
    rw[hfin]at hrun;obtain⟨b,k,cc,hv⟩:=hslice;rw[hv]at hrun;simp only[execOp,ho,hv];simp[run_convert_bytes_string w s t e b k cc (K0 hs) (OF hel) (FA ht),hrun]
   ·cases he
  ·cases he
 ·cases he
theorem OO (h:Sat C st a w rho){t:TypeId}{l c:Operand}(ho:o.op=.makeSlice t l c)(he:aop P st.env st.regs d o.op=some out)(hc:D0 out.cond):OpOk P C o st a w rho out:=by
 rw[ho]at he;simp only[aop]at he;split at he
 ·rename_i e n m hk hn hm hreg;split at he
  ·rename_i k z hsz hz;split at he
   ·rename_i hzl;cases he;obtain⟨h1,h2,h3,h4⟩:0<=n/\n<=m/\m*HU P e<=140737488355328/\m<=140737488355328:=hc;obtain⟨kn,hkn⟩:=Dj (h.aev l) hn;obtain⟨km,hkm⟩:=Dj (h.aev c) hm;obtain⟨i,v,hi,hiz,rfl⟩:=BO hz;have hk' : i.size=k:=by obtain⟨i',hi',hs'⟩:=MS hsz;rw[hi]at hi';cases hi';exact hs'
    have hvz:v.cells.size=k:=by simpa using hzl.1
    have hby:HU P e=i.bytes:=by simp[HU,Program.bytesOf,hi]
    rw[hby]at h3;have w64:∀x:Int,0<=x->x<=140737488355328->IntKind.i64.wrap x=x:=by intro x hx hx';have e1:x % (2 ^ 64:Int)=x:=Int.emod_eq_of_lt hx (by omega);unfold IntKind.wrap;simp only[IntKind.bits,IntKind.signed,e1];rw[if_neg];simp;omega
    have hrange:(i.bytes:Int)*m<=140737488355328:=by have e:m*(i.bytes:Int)=(i.bytes:Int)*m:=Int.mul_comm _ _;omega
    obtain⟨arr,harr⟩:∃arr:Array Value,arr=(Array.range (m.toNat*k)).map ((if m.toNat*k=0 then #[]else v.cells)[· % (if m.toNat*k=0 then #[]else v.cells).size]!):=⟨_,rfl⟩;have hrun:(Instr.makeSlice t (a.eval l) (a.eval c)).run P w=.ok (.slice (some ⟨w.heap.size,0,none⟩) n.toNat m.toNat) (w.alloc (.cells arr e)):=by
     have b1:¬(m<0):=by omega
     have b2:¬(281474976710656<(i.bytes:Int)*m):=by omega
     have b3:¬(n<0):=by omega
     have b4:¬(m<n):=by omega
     rw[harr];by_cases hz0:m.toNat*k=0
     ·simp[Instr.makeSlice,AA w (K0 hk),hkn,hkm,_root_.Go.asInt,asIntOf,Ae0 w hi,w64 n h1 (by omega),w64 m (by omega) h4,b1,b2,b3,b4,Ib w hsz,hz0,newRow]
     ·simp[Instr.makeSlice,AA w (K0 hk),hkn,hkm,_root_.Go.asInt,asIntOf,Ae0 w hi,w64 n h1 (by omega),w64 m (by omega) h4,b1,b2,b3,b4,Ib w hsz,hz0,newRow,Zm w hi hiz]
    have hget:∀i' j,i' < n.toNat->j<k->arr.getD (i' * k+j) undef=v.cells.getD j undef:=by
     intro i' j hi' hj;have hlt:=H2 (show i' < m.toNat by omega) hj;have hz0:¬(m.toNat*k=0):=by omega
     rw[harr];simp only[hz0,if_false]
     have:(i' * k+j) % v.cells.size=j:=by rw[hvz,Nat.mul_comm,Nat.mul_add_mod,Nat.mod_eq_of_lt hj]
     simp[Array.getD_eq_getD_getElem?,hlt,this,show j<v.cells.size by omega]
    obtain⟨h1',h2',h3'⟩:=h.fresh (Bz d 0) hreg (.vec e k n.toNat (fun _=>v.cells.toList.map LO) false) (.slice (some ⟨w.heap.size,0,none⟩) n.toNat m.toNat) (w':=w.alloc (.cells arr e)) (by simp)
     (fun b hb=>heap_alloc_old w _ b hb) (fun b hb=>by simp[D8,O5]at hb;omega) (fun hk=>by
      refine .inr ⟨w.heap.size,m.toNat,arr,rfl,heap_alloc_new w _,by omega,by rw[harr];simp,by simp only[maxLen];omega,fun i' hi'=>by simpa using hvz,fun i' j hi' hj=>?_⟩;rw[hget i' j hi' hj];have hj' : j<v.cells.size:=by omega
      have e:(v.cells.getD j undef)=v.cells[j]:=by simp[Array.getD_eq_getD_getElem?,hj']
      rw[e];refine⟨?_,?_⟩
      ·simp only[List.getD_eq_getElem?_getD,List.getElem?_map,Array.getElem?_toList,Array.getElem?_eq_getElem hj',Option.map_some,Option.getD_some];exact O7 _ _ _
      ·have hall:=hzl.2;simp only[List.all_map,List.all_eq_true,Function.comp]at hall;exact (O7 w (fun _ _=>False) _).cell (hall _ (by simp)))
    exact⟨_,_,_,_,by simp[execOp,ho,hrun],.inl rfl,h1',⟨h2',h3'⟩,.vec _ (some ⟨w.heap.size,0,none⟩) n.toNat m.toNat (by simp[Lv,A4]) (by simp)⟩
   ·cases he
  ·cases he
 ·cases he
end
end Go.AM
namespace Go.AM
section
variable {P:Program}{C:Ctx}{st:St}{a:Act}{w:World}{rho:Nat->Value}{o:Oper}{out:Out}{d:Nat}
theorem Sh (off:Nat):∀(vs:List Value) (k:Nat) (cells:Array Value),off+k+vs.length<=cells.size ->
 ((vs.zipIdx k).foldl (fun cs (p:Value×Nat)=>cs.setIfInBounds (off+p.2) p.1) cells).toList=splice cells.toList (off+k) vs
 |[],k,cells,h=>by simp[splice]
 |v::vs,k,cells,h=>by simp only[List.length_cons]at h;rw[List.zipIdx_cons,List.foldl_cons,Sh off vs (k+1) _ (by simp;omega)];have e:=list_seg_step cells.toList (off+k) v vs (by simp;omega);simpa[splice,Array.toList_setIfInBounds,Nat.add_assoc]using e
theorem OP (off:Nat)(vs:Array Value)(cells:Array Value)(h:off+vs.size<=cells.size) :(vs.zipIdx.foldl (fun cs (p:Value×Nat)=>cs.setIfInBounds (off+p.2) p.1) cells).toList=splice cells.toList off vs.toList:=by rw[<- Array.foldl_toList,Array.toList_zipIdx];exact Sh off vs.toList 0 cells (by simpa using h)
theorem KZ (fs:List Field)(h:∀f∈fs,(tsz P f.type).isSome=true):(fs.mapM fun f=>(do pure (f.offset,<- sizeOf f.type):Sem (Nat×Nat))).run P w=.ok (fs.map fun f=>(f.offset,(tsz P f.type).getD 0)) w:=by
 induction fs with
 |nil=>simp
 |cons f fs ih=>obtain⟨m,hm⟩:=Option.isSome_iff_exists.1 (h f (by simp));rw[List.mapM_cons];simp only[Sem.run_bind,Ib w hm,Result.andThen_ok,Sem.run_pure,ih fun g hg=>h g (by simp[hg]),List.map_cons,hm,Option.getD_some]
theorem LY (h:Sat C st a w rho){place:Nat->Option (Nat×Nat)}:∀(parts:List (Nat×Operand)) (cs cs' : List AV) (c:Array Value) (f:List AV->Option (List AV)),
 (∀cs,HV st.env place parts cs=f cs)->f cs=some cs' -> c.size=cs.length->RepL w (PiS C st rho) (Lv (A1 st.regs)) rho (fun i=>c.getD i undef) cs ->
 ∃c',Instr.fill place c (parts.map fun q=>(q.1,a.eval q.2))=some c' /\ c'.size=cs'.length/\RepL w (PiS C st rho) (Lv (A1 st.regs)) rho (fun i=>c'.getD i undef) cs'
 |[],cs,cs',c,f,hf,he,hs,hr=>by rw[<- hf]at he;simp only[HV,Option.some.injEq]at he;subst he;exact⟨c,rfl,hs,hr⟩
 |(i,x)::parts,cs,cs',c,f,hf,he,hs,hr=>by
  rw[<- hf]at he;simp only[HV]at he;split at he
  ·rename_i off m hst hp;split at he
   ·rename_i hlen;have hc:=Fk (h.aev x) hst;have hfs:=OP off (a.eval x).cells c (by omega);have hsz:((a.eval x).cells.zipIdx.foldl (fun cs (p:Value×Nat)=>cs.setIfInBounds (off+p.2) p.1) c).size=(splice cs off (cellsOf (aev st.env x))).length:=by rw[<- Array.length_toList,hfs,E6 _ _ _ (by simp;omega),E6 _ _ _ (by omega)];simpa using hs
    obtain⟨c',h1,h2,h3⟩:=LY h parts (splice cs off (cellsOf (aev st.env x))) cs' _ _ (fun _=>rfl) he hsz (by
     have:=RepL.splice (c:=c.toList) (cs:=cs) (vs:=(a.eval x).cells.toList) (new:=cellsOf (aev st.env x)) (off:=off) (by simpa using hs)
      (by intro i hi;have:=hr i hi;simpa only[B7]using this) (by simpa using hc.1) (by intro i hi;have:=hc.2 i hi;simpa only[B7]using this) (by omega)
     intro i hi
     have:=this i hi
     simpa only[B7,hfs]using this)
    refine⟨c', ?_,h2,h3⟩;simp only[List.map_cons,Instr.fill,hp];rw[if_neg (by simp;omega)];exact h1
   ·cases he
  ·cases he
theorem MV {t:TypeId}{i:TypeInfo}{v:Value}{Pi:Nat->Nat->Prop}{live:Nat->Prop}{rho:Nat->Value}(hall:(v.cells.toList.map LO).all Hu=true):RepL w Pi live rho (fun i=>v.cells.getD i undef) ((v.cells.toList.map LO).map .p):=by
 intro i hi;simp only[List.length_map,Array.length_toList]at hi;have e:(v.cells.getD i undef)=v.cells[i]:=by simp[Array.getD_eq_getD_getElem?,hi]
 simp only[e];refine⟨?_,?_⟩
 ·simp only[List.getD_eq_getElem?_getD,List.getElem?_map,Array.getElem?_toList,Array.getElem?_eq_getElem hi,Option.map_some,Option.getD_some];exact .p _ _ (O7 _ _ _)
 ·simp only[List.all_map,List.all_eq_true,Function.comp]at hall;exact (O7 w (fun _ _=>False) _).cell (hall _ (by simp))
theorem Xi (h:Sat C st a w rho){t:TypeId}{parts:Array (Nat×Operand)}(ho:o.op=.build t parts)(he:aop P st.env st.regs d o.op=some out):OpOk P C o st a w rho out:=by
 rw[ho]at he;simp only[aop]at he;split at he
 ·rename_i z hz;split at he
  ·rename_i cs hok hb;cases he;simp only[Bool.and_eq_true]at hok;obtain⟨i,v,hi,hiz,rfl⟩:=BO hz;obtain⟨c',h1,h2,h3⟩:=LY h (place:=LP P t) parts.toList _ cs v.cells _ (fun _=>rfl) hb (by simp) (MV (t:=t) (i:=i) hok.1);refine OpOk.pure h (v:=.agg c') ?_ (h3.mkAgg h2 fun _ _=>rfl);have hparts:(parts.map fun q=>(q.1,a.eval q.2)).toList=parts.toList.map fun q=>(q.1,a.eval q.2):=by simp
   have hs:=hok.2;unfold Va at hs;split at hs
   ·rename_i fs hk;obtain⟨fa,hu,rfl⟩:=Di hk;have hp:LP P t=fun i=>((fa.toList.map fun f=>(f.offset,(tsz P f.type).getD 0)).toArray)[i]?:=by
     funext i;simp only[LP,hk,List.getElem?_map,Array.getElem?_toList,List.getElem?_toArray];cases hf:fa[i]? with
     |none=>simp
     |some f=>
      simp only[List.all_map,List.all_eq_true,Function.comp]at hs
      have:=hs f (by have:=Array.mem_of_getElem? hf;simpa using this)
      obtain⟨m,hm⟩:=Option.isSome_iff_exists.1 this;simp[hm]
    have hm:=KZ (P:=P) (w:=w) fa.toList (fun f hf=>by simp only[List.all_map,List.all_eq_true,Function.comp]at hs;exact hs f hf)
    have hm' : (fa.mapM fun f=>(do pure (f.offset,<- sizeOf f.type):Sem (Nat×Nat))).run P w=.ok ((fa.toList.map fun f=>(f.offset,(tsz P f.type).getD 0)).toArray) w:=by obtain⟨fl⟩:=fa;rw[List.mapM_toArray];simp only[Sem.run_map,hm,Result.andThen_ok]
    rw[hp]at h1;simp only[execOp,ho,Sem.run_bind,Instr.build,Zm w hi hiz,Result.andThen_ok,AA w hu,hm',hparts,h1,Sem.run_pure]
   ·rename_i n e hk;obtain⟨m,hm⟩:=Option.isSome_iff_exists.1 hs;have hp:LP P t=fun i=>some (i*m,m):=by funext i;simp[LP,hk,hm]
    rw[hp]at h1;simp only[execOp,ho,Sem.run_bind,Instr.build,Zm w hi hiz,Result.andThen_ok,AA w (Ji hk),Ib w hm,hparts,h1,Sem.run_pure]
   ·cases hs
  ·cases he
 ·cases he
end
end Go.AM
namespace Go.AM
section
variable {P:Program}{C:Ctx}{st:St}{a:Act}{w:World}{rho:Nat->Value}{o:Oper}{out:Out}{d:Nat}
theorem Vy {regs R' : C4}{x:AV}{y:PV}(h:Gv regs x=some (y,R')){i:Nat}(hi:A1 regs i=none):A1 R' i=none:=by
 unfold Gv at h;split at h
 ·cases h;exact hi
 ·split at h
  ·rename_i hj;cases h;rw[A4];split
   ·rename_i e;subst e;rw[hi]at hj;cases hj
   ·exact hi
  ·cases h
 ·split at h
  ·rename_i hj;cases h;rw[A4];split
   ·rename_i e;subst e;rw[hi]at hj;cases hj
   ·exact hi
  ·cases h
 ·cases h;exact hi
 ·split at h
  ·cases h;exact hi
  ·cases h
 ·cases h
theorem DD:∀(xs:List Operand) (st:St) (l:List PV) (R' : C4),Sat C st a w rho->Hv st.regs (xs.map (aev st.env))=some (l,R') ->
 Sat C { st with regs:=R' } a w rho/\Kp C st.regs R' w w rho rho/\l.length=xs.length/\(∀i x,xs[i]? = some x->RepP w (Prv C.X (A1 R') rho) (a.eval x) (l.getD i default))/\∀i,A1 st.regs i=none->A1 R' i=none
 |[],st,l,R',h,he=>by simp only[List.map_nil,Hv,Option.some.injEq,Prod.mk.injEq]at he;obtain⟨rfl,rfl⟩:=he;exact⟨h,Kp.refl _ _ _ _,rfl,fun i x hx=>by simp at hx,fun i hi=>hi⟩
 |x::xs,st,l,R',h,he=>by
  simp only[List.map_cons,Hv]at he;split at he
  ·rename_i y R1 hv;split at he
   ·rename_i l' R2 hvs;cases he;obtain⟨h1,h2,h3⟩:=Dh h (h.aev x) hv;obtain⟨h4,h5,h6,h7,h8⟩:=DD xs { st with regs:=R1 } l' R' h1 hvs;refine⟨h4,h3.trans h5,by simp[h6],fun i z hz=>?_,fun i hi=>h8 i (Vy hv hi)⟩;cases i with
    |zero=>simp only[List.getElem?_cons_zero,Option.some.injEq]at hz;subst hz;simpa using h5.p h2
    |succ i=>simpa using h7 i z (by simpa using hz)
   ·cases he
  ·cases he
def IF (F:Nat->List PV):List (Nat×List PV)->Nat->List PV
 |[],i=>F i
 |(j,x)::r,i=>if i=j then x else IF F r i
theorem MW (z:List PV)(l:List (Nat×List PV))(i:Nat):IF (fun _=>z) l i=E4 z l i:=by
 induction l with
 |nil=>rfl
 |cons p r ih=>obtain⟨j,x⟩:=p;simp only[IF,E4,ih]
theorem Jn {F:Nat->List PV}{j:Nat}{x:List PV}:∀(l:List (Nat×List PV)),(∀p∈l,p.1≠j)->∀i,IF (fun i=>if i=j then x else F i) l i=if i=j then x else IF F l i
 |[],_,i=>rfl
 |(k,y)::r,h,i=>by
  have hk:=h (k,y) (by simp);simp only[IF,Jn r (fun p hp=>h p (by simp[hp])) i];by_cases e:i=k
  ·subst e;simp only[if_true];rw[if_neg hk]
  ·simp only[e,if_false]
theorem QB {x:PV}(h:Jb x=true):AQ (.p x)=true/\cellsOf (.p x)=(Z9 x).map .p:=by cases x<;>simp_all [Jb,AQ,UX,cellsOf,Z9]
theorem FY {Pi:Nat->Nat->Prop}{m n:Nat}:∀(ps:List (Nat×Value)) (xs:List PV) (c:Array Value) (F:Nat->List PV),ps.length=xs.length->FV n m (ps.map (·.1)) xs=true ->
 (∀i x,ps[i]? = some x->RepP w Pi x.2 (xs.getD i default))->c.size=n*m->(∀i,i<n->(F i).length=m)->(∀i j,i<n->j<m->RepP w Pi (c.getD (i*m+j) undef) ((F i).getD j default)/\(c.getD (i*m+j) undef).oneCell' = true) ->
 ∃c',Instr.fill (fun i=>some (i*m,m)) c ps=some c' /\ c'.size=n*m/\(∀i,i<n->(IF F ((ps.map (·.1)).zip (xs.map Z9)) i).length=m) /\
  ∀i j,i<n->j<m->RepP w Pi (c'.getD (i*m+j) undef) ((IF F ((ps.map (·.1)).zip (xs.map Z9)) i).getD j default)/\(c'.getD (i*m+j) undef).oneCell' = true
 |[],xs,c,F,hl,hok,hr,hs,hF,hc=>⟨c,rfl,hs,by simpa[IF]using hF,by simpa[IF]using hc⟩
 |(i0,v)::ps,[],c,F,hl,hok,hr,hs,hF,hc=>by simp at hl
 |(i0,v)::ps,x::xs,c,F,hl,hok,hr,hs,hF,hc=>by
  simp only[List.map_cons,FV,Bool.and_eq_true,decide_eq_true_eq,beq_iff_eq,Bool.not_eq_true']at hok;obtain⟨⟨hi0,hst,hpl⟩,hnd,hok⟩:=hok;obtain⟨hst1,hst2⟩:=QB hst;have hv:RepP w Pi v x:=by simpa using hr 0 (i0,v) rfl
  obtain⟨hcs,hcr⟩:=Fk (live:=fun _=>False) (rho:=fun _=>undef) (.p _ _ hv) hst1;rw[hst2]at hcs hcr;simp only[List.length_map]at hcs;have hle:i0*m+m<=n*m:=by rw[<- Nat.succ_mul];exact Nat.mul_le_mul_right m hi0
  have hfs:=OP (i0*m) v.cells c (by omega);obtain⟨c1,hc1⟩:∃c1,c1=v.cells.zipIdx.foldl (fun cs (p:Value×Nat)=>cs.setIfInBounds (i0*m+p.2) p.1) c:=⟨_,rfl⟩;rw[<- hc1]at hfs;have hs1:c1.size=n*m:=by rw[<- Array.length_toList,hfs,E6 _ _ _ (by simp;omega)];simpa using hs
  obtain⟨c',h1,h2,h3,h4⟩:=FY ps xs c1 (fun i=>if i=i0 then Z9 x else F i) (by simpa using hl) hok (fun i z hz=>by simpa using hr (i+1) z (by simpa using hz)) hs1
   (fun i hi=>by
    by_cases e:i=i0
    ·simp only[e,if_true];exact hpl
    ·simp only[e,if_false];exact hF i hi) (fun i j hi hj=>by
    rw[B7,hfs,P3 _ _ _ _ _ (by simp;omega)];by_cases hpos:i0*m<=i*m+j/\i*m+j<i0*m+v.cells.toList.length
    ·rw[if_pos hpos];simp only[Array.length_toList]at hpos;obtain⟨rfl,hjj⟩:=Vs (l:=i) (i:=i0) (k:=m) (a:=j) (b:=i*m+j-i0*m) (by omega) hj (by omega);simp only[if_true]
     have:=hcr j (by simp;omega)
     rw[show i*m+j-i*m=j by omega,<- B7];refine⟨?_,this.2⟩;have h5:=this.1;simp only[List.getD_eq_getElem?_getD,List.getElem?_map,List.getElem?_eq_getElem (show j<(Z9 x).length by omega),Option.map_some,Option.getD_some]at h5⊢;exact h5.toP
    ·rw[if_neg hpos];have hne:i≠i0:=by rintro rfl;apply hpos;simp only[Array.length_toList];omega
     simp only[hne,if_false];rw[<- B7];exact hc i j hi hj)
  have hnot:∀p∈(ps.map (·.1)).zip (xs.map Z9),p.1≠i0:=by
   intro p hp e
   have:=(List.of_mem_zip hp).1
   rw[e]at this;simp only[List.contains_eq_mem,decide_eq_false_iff_not]at hnd;exact hnd this
  refine⟨c', ?_,h2,fun i hi=>?_,fun i j hi hj=>?_⟩
  ·simp only[Instr.fill];rw[if_neg (by simp;omega)];rw[<- hc1];exact h1
  ·have:=h3 i hi
   rw[Jn _ hnot]at this;simpa[IF]using this
  ·have:=h4 i j hi hj
   rw[Jn _ hnot]at this;simpa[IF]using this
theorem MX (h:Sat C st a w rho){t:TypeId}{n:Nat}{parts:Array (Nat×Operand)}(ho:o.op=.buildSlice t n parts)(he:aop P st.env st.regs d o.op=some out)(hc:D0 out.cond):OpOk P C o st a w rho out:=by
 rw[ho]at he;simp only[aop]at he;split at he
 ·rename_i e hk hreg;split at he
  ·rename_i l R' m z hv hsz hz;split at he
   ·rename_i hzl;cases he;have hok:FV n m (parts.toList.map (·.1)) l=true:=hc;obtain⟨⟨hmax,hnmax⟩,hzlen,hall⟩:=hzl;have hv' : Hv st.regs ((parts.toList.map (·.2)).map (aev st.env))=some (l,R'):=by simpa[List.map_map,Function.comp_def]using hv
    obtain⟨h1,h2,h3,h4,h5⟩:=DD (parts.toList.map (·.2)) st l R' h hv';obtain⟨i,v,hi,hiz,rfl⟩:=BO hz;have hvz:v.cells.size=m:=by simpa using hzlen
    obtain⟨arr,harr⟩:∃arr:Array Value,arr=(Array.range (n*m)).map ((if n*m=0 then #[]else v.cells)[· % (if n*m=0 then #[]else v.cells).size]!):=⟨_,rfl⟩;have hget:∀i' j,i' < n->j<m->arr.getD (i' * m+j) undef=v.cells.getD j undef:=by
     intro i' j hi' hj;have hlt:=H2 hi' hj;have hz0:¬(n*m=0):=by omega
     rw[harr];simp only[hz0,if_false]
     have:(i' * m+j) % v.cells.size=j:=by rw[hvz,Nat.mul_comm,Nat.mul_add_mod,Nat.mod_eq_of_lt hj]
     simp[Array.getD_eq_getD_getElem?,hlt,this,show j<v.cells.size by omega]
    have hzr:=MV (w:=w) (Pi:=Prv C.X (A1 R') rho) (live:=fun _=>False) (rho:=rho) (t:=t) (i:=i) hall;obtain⟨c',hf1,hf2,hf3,hf4⟩:=FY (w:=w) (Pi:=Prv C.X (A1 R') rho) (m:=m) (n:=n) (parts.toList.map fun q=>(q.1,a.eval q.2)) l arr (fun _=>v.cells.toList.map LO) (by simpa using h3.symm)
     (by simpa[List.map_map,Function.comp_def]using hok) (fun i x hx=>by
      rw[List.getElem?_map,Option.map_eq_some_iff]at hx;obtain⟨q,hq,rfl⟩:=hx;exact h4 i q.2 (by rw[List.getElem?_map,hq];rfl)) (by rw[harr];simp) (fun i hi=>hzlen) (fun i' j hi' hj=>by
      rw[hget i' j hi' hj]
      have:=hzr j (by simp;omega)
      refine⟨?_,this.2⟩;have h6:=this.1;simp only[List.getD_eq_getElem?_getD,List.getElem?_map,Array.getElem?_toList,Array.getElem?_eq_getElem (show j<v.cells.size by omega),Option.map_some,Option.getD_some]at h6⊢;exact h6.toP)
    have hmm:(parts.toList.map fun q=>(q.1,a.eval q.2)).map (·.1)=parts.toList.map (·.1):=by simp[List.map_map,Function.comp_def]
    rw[hmm]at hf3 hf4;have hrun:(Instr.buildSlice t n (parts.map fun q=>(q.1,a.eval q.2))).run P w=.ok (.slice (some ⟨w.heap.size,0,none⟩) n n) (w.alloc (.cells c' e)):=by
     have hparts:(parts.map fun q=>(q.1,a.eval q.2)).toList=parts.toList.map fun q=>(q.1,a.eval q.2):=by simp
     have hb:¬(n*m>2 ^ 24):=by omega
     simp only[Instr.buildSlice,Sem.run_bind,AA w (K0 hk),Result.andThen_ok,Ib w hsz,if_neg hb,hparts];by_cases hz0:n*m=0
     ·simp only[if_pos hz0]at harr;rw[if_pos hz0];simp only[Sem.run_bind,Sem.run_pure,Result.andThen_ok];rw[<- harr,hf1];simp[newRow]
     ·simp only[if_neg hz0]at harr;rw[if_neg hz0];simp only[Sem.run_bind,Sem.run_pure,Result.andThen_ok,Zm w hi hiz];rw[<- harr,hf1];simp[newRow]
    obtain⟨g1,g2,g3⟩:=h1.fresh (Bz d 0) (h5 _ hreg) (.vec e m n (E4 (v.cells.toList.map LO) ((parts.toList.map (·.1)).zip (l.map Z9))) false) (.slice (some ⟨w.heap.size,0,none⟩) n n) (w':=w.alloc (.cells c' e)) (by simp)
     (fun b hb=>heap_alloc_old w _ b hb) (fun b hb=>by simp[D8,O5]at hb;omega) (fun hk'=>by
      refine .inr ⟨w.heap.size,n,c',rfl,heap_alloc_new w _,Nat.le_refl _,hf2,?_,fun i' hi'=>?_,fun i' j hi' hj=>?_⟩
      ·simp only[maxLen];omega
      ·rw[<- MW];exact hf3 i' hi'
      ·rw[<- MW];exact⟨(hf4 i' j hi' hj).1.keeps hk',(hf4 i' j hi' hj).2⟩)
    exact⟨_,_,_,_,by simp[execOp,ho,hrun],.inl rfl,g1,h2.trans ⟨g2,g3⟩,.vec _ (some ⟨w.heap.size,0,none⟩) n n (by simp[Lv,A4]) (by simp)⟩
   ·cases he
  ·cases he
 ·cases he
theorem Jo {regs:C4}:∀{l:List AV}{xs:List PV},Vb l=some xs->Hv regs l=some (xs,regs)
 |[],_,h=>by cases h;rfl
 |a::r,xs,h=>by
  cases a with
  |p x=>
   simp only[Vb]at h;split at h
   ·rename_i l hl;cases h;simp only[Hv,Gv,Jo hl]
   ·cases h
  |_=>simp[Vb]at h
theorem La (h:Sat C st a w rho){t:TypeId}{n:Nat}{parts:Array (Nat×Operand)}(ho:o.op=.buildSlice t n parts){cc:List Prop}{x:PV}(he:Oy P st.env o.op=some (cc,x))(hc:D0 cc):OpOk P C o st a w rho ⟨cc,.p x,st.regs⟩:=by
 rw[ho]at he;simp only[Oy]at he;split at he
 ·rename_i e hk;split at he
  ·rename_i l m z hv0 hsz hz;have hv:=Jo (regs:=st.regs) hv0;split at he
   ·rename_i hzl;cases he;have hok:FV n m (parts.toList.map (·.1)) l=true:=hc;obtain⟨⟨hmax,hnmax⟩,hzlen,hall⟩:=hzl;have hv' : Hv st.regs ((parts.toList.map (·.2)).map (aev st.env))=some (l,st.regs):=by simpa[List.map_map,Function.comp_def]using hv
    obtain⟨h1,h2,h3,h4,h5⟩:=DD (parts.toList.map (·.2)) st l st.regs h hv';obtain⟨i,v,hi,hiz,rfl⟩:=BO hz;have hvz:v.cells.size=m:=by simpa using hzlen
    obtain⟨arr,harr⟩:∃arr:Array Value,arr=(Array.range (n*m)).map ((if n*m=0 then #[]else v.cells)[· % (if n*m=0 then #[]else v.cells).size]!):=⟨_,rfl⟩;have hget:∀i' j,i' < n->j<m->arr.getD (i' * m+j) undef=v.cells.getD j undef:=by
     intro i' j hi' hj;have hlt:=H2 hi' hj;have hz0:¬(n*m=0):=by omega
     rw[harr];simp only[hz0,if_false]
     have:(i' * m+j) % v.cells.size=j:=by rw[hvz,Nat.mul_comm,Nat.mul_add_mod,Nat.mod_eq_of_lt hj]
     simp[Array.getD_eq_getD_getElem?,hlt,this,show j<v.cells.size by omega]
    have hzr:=MV (w:=w) (Pi:=Prv C.X (A1 st.regs) rho) (live:=fun _=>False) (rho:=rho) (t:=t) (i:=i) hall;obtain⟨c',hf1,hf2,hf3,hf4⟩:=FY (w:=w) (Pi:=Prv C.X (A1 st.regs) rho) (m:=m) (n:=n) (parts.toList.map fun q=>(q.1,a.eval q.2)) l arr (fun _=>v.cells.toList.map LO) (by simpa using h3.symm)
     (by simpa[List.map_map,Function.comp_def]using hok) (fun i x hx=>by
      rw[List.getElem?_map,Option.map_eq_some_iff]at hx;obtain⟨q,hq,rfl⟩:=hx;exact h4 i q.2 (by rw[List.getElem?_map,hq];rfl)) (by rw[harr];simp) (fun i hi=>hzlen) (fun i' j hi' hj=>by
      rw[hget i' j hi' hj]
      have:=hzr j (by simp;omega)
      refine⟨?_,this.2⟩;have h6:=this.1;simp only[List.getD_eq_getElem?_getD,List.getElem?_map,Array.getElem?_toList,Array.getElem?_eq_getElem (show j<v.cells.size by omega),Option.map_some,Option.getD_some]at h6⊢;exact h6.toP)
    have hmm:(parts.toList.map fun q=>(q.1,a.eval q.2)).map (·.1)=parts.toList.map (·.1):=by simp[List.map_map,Function.comp_def]
    rw[hmm]at hf3 hf4;have hrun:(Instr.buildSlice t n (parts.map fun q=>(q.1,a.eval q.2))).run P w=.ok (.slice (some ⟨w.heap.size,0,none⟩) n n) (w.alloc (.cells c' e)):=by
     have hparts:(parts.map fun q=>(q.1,a.eval q.2)).toList=parts.toList.map fun q=>(q.1,a.eval q.2):=by simp
     have hb:¬(n*m>2 ^ 24):=by omega
     simp only[Instr.buildSlice,Sem.run_bind,AA w (K0 hk),Result.andThen_ok,Ib w hsz,if_neg hb,hparts];by_cases hz0:n*m=0
     ·simp only[if_pos hz0]at harr;rw[if_pos hz0];simp only[Sem.run_bind,Sem.run_pure,Result.andThen_ok];rw[<- harr,hf1];simp[newRow]
     ·simp only[if_neg hz0]at harr;rw[if_neg hz0];simp only[Sem.run_bind,Sem.run_pure,Result.andThen_ok,Zm w hi hiz];rw[<- harr,hf1];simp[newRow]
    obtain⟨g1,g2⟩:=h.grow (w':=w.alloc (.cells c' e)) (by simp) (fun b hb=>heap_alloc_old w _ b hb);have hnew:∀off,¬Prv C.X (A1 st.regs) rho w.heap.size off:=by
     rintro off (hX|⟨j',o',hj',hbo,_⟩)
     ·have:=h.hp.bound _ _ hX;omega
     ·have:=h.hp.lt ⟨j',o',hj',hbo⟩;omega
    refine⟨_,_,w.alloc (.cells c' e),rho,by simp[execOp,ho,hrun],.inl rfl,g1,g2,.p _ _ (.sl true w.heap.size 0 n m n _ (fun i' j=>c'.getD (i' * m+j) undef) (Nat.le_refl _) (fun i' hi'=>by rw[<- MW];exact hf3 i' hi') (fun i' j hi' hj=>?_) (fun i' j hi' hj=>?_) none fun _=>rfl)⟩
    ·refine⟨?_,hnew _,?_⟩
     ·have hlt:=H2 hi' hj
      have:=cell_of_heap (heap_alloc_new w (.cells c' e)) (o:=i' * m+j) (by rw[hf2];exact hlt)
      rw[Nat.zero_add];exact this
     ·have:=(hf4 i' j hi' hj).2;exact this
    ·rw[<- MW];exact (hf4 i' j hi' hj).1.keeps fun b o v hp hc=>⟨by rw[<- hc];exact World.cell?_of_block (heap_alloc_old w _ b (World.block_lt_of_cell? w ⟨b,o,none⟩ hc)),hp⟩
   ·cases he
  ·cases he
 ·cases he
theorem Tu (h:Sat C st a w rho){cc:List Prop}{x:PV}(he:Oy P st.env o.op=some (cc,x))(hc:D0 cc):OpOk P C o st a w rho ⟨cc,.p x,st.regs⟩:=by
 cases ho:o.op with
 |buildSlice t n parts=>exact La h ho he hc
 |_=>rw[ho]at he;simp[Oy]at he
end
end Go.AM
namespace Go.AM
section
variable {P:Program}{C:Ctx}{st:St}{a:Act}{w:World}{rho:Nat->Value}{o:Oper}{out:Out}{d:Nat}
theorem MY {b:Bool}:∀(n:Nat) (t:TypeId) (ks:List TK),lay P n t=some ks->∀(vs:Array Value) (off D:Nat),n<=D->off+ks.length<=vs.size ->
 ∃x,(part t vs off).run P w=.ok x w/\(Instr.checkKey b D t x).run P w=.ok () w:=by
 intro n
 induction n with
 |zero=>intro t ks h;simp[lay]at h
 |succ n ih=>
  intro t ks hl vs off D hD ha;obtain⟨D,rfl⟩:∃D',D=D' + 1:=⟨D-1,by omega⟩;cases hk:tk P t with
  |none=>
   have:P.underlying t=none:=by unfold tk at hk;cases hu:P.underlying t<;>simp[hu]at hk⊢
   simp[lay,this]at hl
  |some k=>
   by_cases hs:∀fs,k ≠ .struct fs
   ·obtain⟨rfl,hag⟩:=OM hk hl hs;simp only[List.length_singleton]at ha;refine⟨vs.getD off undef,?_,?_⟩
    ·simp[part,G9 w hk,hag,Array.getD_eq_getD_getElem?,show off<vs.size by omega]
    ·obtain⟨dd,hu,rfl⟩:=Al hk;simp only[lay,hu]at hl;cases dd<;>simp at hl<;>first
      |(simp[Instr.checkKey,AA w hu];done)
      |exact absurd rfl (hs _)
   ·obtain⟨fs,rfl⟩:∃fs,k=.struct fs:=Classical.byContradiction fun hn=>hs fun fs e=>hn ⟨fs,e⟩;obtain⟨fa,hun,_⟩:=Di hk;simp only[lay,hun]at hl;split at hl
    ·rename_i l hlf;split at hl
     ·rename_i hsz;cases hl;refine⟨.agg (vs.extract off (off+ks.length)),by simp[part,G9 w hk,Sc,Ib w hsz],?_⟩;generalize hvs' : vs.extract off (off+ks.length)=vs';have hsz' : vs'.size=0+ks.length:=by rw[<- hvs'];simp;omega
      simp only[Instr.checkKey,Sem.run_bind,AA w hun,Result.andThen_ok];rw[<- Array.forIn_toList];have hin:∀(fl:List Field) (o:Nat) (l:List TK),YZ (lay P n) fl o=some l->vs'.size=o+l.length ->
       (forIn fl PUnit.unit (fun f _=>(do
        if f.name ≠ "_" then do
         Instr.checkKey b D f.type (<- part f.type vs' f.offset)
         pure (ForInStep.yield PUnit.unit)
        else pure (ForInStep.yield PUnit.unit):Sem (ForInStep PUnit)))).run P w=.ok PUnit.unit w:=by
       intro fl
       induction fl with
       |nil=>intro o l _ _;simp
       |cons f fl ihf=>
        intro o l h1 h2;simp only[YZ]at h1;split at h1
        ·cases h1
        ·rename_i hoff;have hoff:f.offset=o:=Classical.byContradiction hoff;split at h1
         ·rename_i ka hka;split at h1
          ·rename_i kb hkb;cases h1;simp only[List.length_append]at h2;obtain⟨x,hx,hc⟩:=ih f.type ka hka vs' o D (by omega) (by omega);have hrec:=ihf (o+ka.length) kb hkb (by omega);rw[List.forIn_cons];by_cases hn:f.name ≠ "_"
           ·simp only[Sem.run_bind,if_pos hn,hoff,hx,hc,Result.andThen_ok,Sem.run_pure];exact hrec
           ·simp only[Sem.run_bind,if_neg hn,Result.andThen_ok,Sem.run_pure];exact hrec
          ·cases h1
         ·cases h1
      have:=hin fa.toList 0 ks hlf hsz'
      simp only[ne_eq]at this⊢
      first
       |exact this
       |(simp only[this];done)
       |(rw[this];rfl)
     ·cases hl
    ·cases hl
theorem Jp {Pi:Nat->Nat->Prop}{b:Bool}{t:TypeId}{v:Value}{x:PV}(hk:ID P t x=true)(hv:RepP w Pi v x):(Instr.checkKey b 10000 t v).run P w=.ok () w:=by
 unfold ID at hk;split at hk
 ·rename_i fs ht;split at hk
  ·rename_i ks cs hl;simp only[beq_iff_eq]at hk;cases hv with
   |agg vs _ hs _ _=>
    obtain⟨y,hy,hc⟩:=MY (P:=P) (w:=w) (b:=b) 10 t ks hl vs 0 10000 (by omega) (by omega);have hl':=hl;obtain⟨fa,hun,_⟩:=Di ht;simp only[lay,hun]at hl';split at hl'
    ·split at hl'
     ·rename_i hsz;cases hl'
      have:vs.extract 0 ks.length=vs:=by rw[<- hk,<- hs];simp
      have e1:(part t vs 0).run P w=.ok (.agg vs) w:=by simp[part,G9 w ht,Sc,Ib w hsz,this]
      rw[e1]at hy;cases hy;exact hc
     ·cases hl'
    ·cases hl'
  ·cases hk
 ·rename_i k hns ht;obtain⟨dd,hu,rfl⟩:=Al ht;show (Instr.checkKey b (9999+1) t v).run P w=.ok () w;generalize 9999=D;cases dd<;>simp[Qp,keyK]at hk<;>simp[Instr.checkKey,AA w hu]
 ·cases hk
def EntL (w:World)(Pi:Nat->Nat->Prop)(ents:List MapEntry)(es:List (PV×PV)):Prop:=
 ents.length=es.length/\∀i,i<es.length->RepP w Pi (ents.getD i default).key (es.getD i default).1/\RepP w Pi (ents.getD i default).val (es.getD i default).2
theorem EntL.cons {Pi:Nat->Nat->Prop}{e:MapEntry}{ents:List MapEntry}{p:PV×PV}{es:List (PV×PV)}(h:EntL w Pi (e::ents) (p::es)):RepP w Pi e.key p.1/\RepP w Pi e.val p.2/\EntL w Pi ents es:=
 ⟨by simpa using (h.2 0 (by simp)).1,by simpa using (h.2 0 (by simp)).2,by simpa using h.1,fun i hi=>by simpa using h.2 (i+1) (by simpa using hi)⟩
def Ey (cmp:PV->PV->Option Bool)(k:PV):List (PV×PV)->Option (Option Nat)
 |[]=>some none
 |(a,_)::r=>match cmp k a with
  |some true=>some (some 0)
  |some false=>(Ey cmp k r).map fun q=>q.map (· + 1)
  |none=>none
theorem LZ {cmp:PV->PV->Option Bool}{k:PV}:∀{es:List (PV×PV)}{r:Option PV},find cmp k es=some r->∃q,Ey cmp k es=some q/\r=q.map fun j=>(es.getD j default).2
 |[],r,h=>by simp only[find,Option.some.injEq]at h;subst h;exact⟨none,rfl,rfl⟩
 |(a,x)::es,r,h=>by
  simp only[find]at h;split at h
  ·rename_i hc;cases h;exact⟨some 0,by simp[Ey,hc],by simp⟩
  ·rename_i hc;obtain⟨q,h1,h2⟩:=LZ h;refine⟨q.map (· + 1),by simp[Ey,hc,h1],?_⟩;rw[h2];cases q<;>simp
  ·cases h
theorem OQ {cmp:PV->PV->Option Bool}{k x:PV}:∀{es es' : List (PV×PV)},upd cmp k x es=some es' -> ∃q,Ey cmp k es=some q/\(q=none->es' = es++[(k,x)])/\∀j,q=some j->es' = es.set j (k,x)
 |[],es',h=>by simp only[upd,Option.some.injEq]at h;subst h;exact⟨none,rfl,fun _=>rfl,fun j h=>by cases h⟩
 |(a,y)::es,es',h=>by
  simp only[upd]at h;split at h
  ·rename_i hc;cases h;exact⟨some 0,by simp[Ey,hc],fun h=>(by cases h),fun j hj=>by cases hj;simp⟩
  ·rename_i hc;rw[Option.map_eq_some_iff]at h;obtain⟨e1,he1,rfl⟩:=h;obtain⟨q,h1,h2,h3⟩:=OQ he1;refine⟨q.map (· + 1),by simp[Ey,hc,h1],fun hq=>?_,fun j hj=>?_⟩
   ·cases q with
    |none=>rw[h2 rfl];rfl
    |some j=>simp at hq
   ·cases q with
    |none=>simp at hj
    |some j'=>simp at hj;subst hj;rw[h3 j' rfl];rfl
  ·cases h
theorem HE {cmp:PV->PV->Option Bool}{k:PV}:∀{es:List (PV×PV)}{j:Nat},Ey cmp k es=some (some j)->j<es.length/\cmp k (es.getD j default).1=some true
 |[],j,h=>by simp[Ey]at h
 |(a,y)::es,j,h=>by
  simp only[Ey]at h;split at h
  ·rename_i hc;cases h;exact⟨by simp,by simpa using hc⟩
  ·rename_i hc;rw[Option.map_eq_some_iff]at h;obtain⟨q,h1,h2⟩:=h;cases q with
   |none=>simp at h2
   |some j'=>simp at h2;subst h2;obtain⟨h3,h4⟩:=HE h1;exact⟨by simpa using h3,by simpa using h4⟩
  ·cases h
theorem Eg {Pi:Nat->Nat->Prop}{kt:TypeId}{k:Value}{x:PV}(hk:RepP w Pi k x)(hc:D0 (MO P kt)):∀(es:List (PV×PV)) (ents:List MapEntry) (i:Nat) (r:Option Nat),EntL w Pi ents es->Ey (KW P kt) x es=some r ->
 (Instr.findAsking kt k ents i).run P w=.ok (r.map fun j=>(i+j,(ents.getD j default).val)) w
 |[],ents,i,r,he,hf=>by obtain rfl:ents=[]:=List.eq_nil_of_length_eq_zero (by simpa using he.1);simp only[Ey,Option.some.injEq]at hf;subst hf;simp[Instr.findAsking]
 |(a,b)::es,[],i,r,he,hf=>by simp[EntL]at he
 |(a,b)::es,e::ents,i,r,he,hf=>by
  obtain⟨h1,h2,h3⟩:=he.cons;simp only[Ey]at hf;split at hf
  ·rename_i hcmp;cases hf
   have:=(HA hk h1 hcmp hc).1
   simp[Instr.findAsking,this]
  ·rename_i hcmp
   have:=(HA hk h1 hcmp hc).1
   rw[Option.map_eq_some_iff]at hf;obtain⟨q,hq,rfl⟩:=hf;have hr:=Eg hk hc es ents (i+1) q h3 hq;simp only[Instr.findAsking,Sem.run_bind,this,Result.andThen_ok,Bool.false_eq_true,if_false,hr];cases q with
   |none=>rfl
   |some j=>simp;omega
  ·cases hf
theorem Jq {Pi:Nat->Nat->Prop}{kt:TypeId}{dd:TypeDesc}(hu:P.underlying kt=some dd){k e:Value}{x a:PV}(hk:RepP w Pi k x)(he:RepP w Pi e a){r q:Bool}(hc:KW P kt x a=some r)(hs:Instr.sameNow dd k e=some q):q=r:=by
 have htk:tk P kt=some (Qp dd):=by simp[tk,hu]
 unfold KW at hc;rw[htk]at hc;unfold Instr.sameNow at hs;split at hs
 ·simp only[Qp]at hc;cases hk;cases he;simp only[Qs]at hc;split at hs
  ·rename_i hkk;rw[if_pos hkk]at hc;cases hs;cases hc;rfl
  ·cases hs
 ·simp only[Qp]at hc;cases hk with
  |v=>simp[Qs]at hc
  |str l=>
   cases he with
   |v=>simp[Qs]at hc
   |str m=>simp only[Qs,Option.some.injEq]at hc;simp only[Option.some.injEq]at hs;rw[<- hs,<- hc,beq_toListBytes];simp
 ·simp only[Qp]at hc;cases hk<;>cases he<;>simp only[Qs,Ov,Option.some.injEq]at hc hs<;>exact hs.symm.trans hc
 ·cases hs
theorem GE {Pi:Nat->Nat->Prop}{kt:TypeId}{dd:TypeDesc}(hu:P.underlying kt=some dd){k:Value}{x:PV}(hk:RepP w Pi k x):∀(es:List (PV×PV)) (ents:List MapEntry) (i:Nat) (r:Option Nat) (q:Option (Nat×Value)),EntL w Pi ents es->Ey (KW P kt) x es=some r ->
 Instr.findNow dd k ents i=some q->q=r.map fun j=>(i+j,(ents.getD j default).val)
 |[],ents,i,r,q,he,hf,hn=>by obtain rfl:ents=[]:=List.eq_nil_of_length_eq_zero (by simpa using he.1);simp only[Ey,Option.some.injEq]at hf;simp only[Instr.findNow,Option.some.injEq]at hn;subst hf;subst hn;rfl
 |(a,b)::es,[],i,r,q,he,hf,hn=>by simp[EntL]at he
 |(a,b)::es,e::ents,i,r,q,he,hf,hn=>by
  obtain⟨h1,h2,h3⟩:=he.cons;simp only[Ey]at hf;simp only[Instr.findNow]at hn;split at hn
  ·rename_i hs;cases hn;split at hf
   ·cases hf;simp
   ·rename_i hcmp
    have:=Jq hu hk h1 hcmp hs;cases this
   ·cases hf
  ·rename_i hs;split at hf
   ·rename_i hcmp
    have:=Jq hu hk h1 hcmp hs;cases this
   ·rw[Option.map_eq_some_iff]at hf;obtain⟨r',hr',rfl⟩:=hf
    have:=GE hu hk es ents (i+1) r' q h3 hr' hn
    rw[this];cases r' with
    |none=>rfl
    |some j=>simp;omega
   ·cases hf
  ·cases hn
theorem GF {Pi:Nat->Nat->Prop}{kt:TypeId}{k:Value}{x:PV}(hk:RepP w Pi k x)(hok:ID P kt x=true)(hc:D0 (MO P kt)){es:List (PV×PV)}{ents:List MapEntry}{r:Option Nat}(he:EntL w Pi ents es)(hf:Ey (KW P kt) x es=some r) :(Instr.findKey kt k ents).run P w=.ok (r.map fun j=>(j,(ents.getD j default).val)) w:=by
 have hu:∃dd,P.underlying kt=some dd:=by
  unfold ID at hok;split at hok
  ·rename_i ht;obtain⟨dd,hu,_⟩:=Al ht;exact⟨dd,hu⟩
  ·rename_i ht;obtain⟨dd,hu,_⟩:=Al ht;exact⟨dd,hu⟩
  ·cases hok
 obtain⟨dd,hu⟩:=hu;cases hn:Instr.findNow dd k ents 0 with
 |some q=>
  have:=GE hu hk es ents 0 r q he hf hn
  rw[this]at hn;simp[Instr.findKey,AA w hu,hn]
 |none=>
  have:=Eg hk hc es ents 0 r he hf
  simp[Instr.findKey,AA w hu,hn,this]
theorem OR {Pi:Nat->Nat->Prop}{v:Value}{x:PV}{b:Bool}(h:RepP w Pi v x)(hb:Ov x=some b):v=.bool b:=by
 unfold Ov at hb;split at hb
 ·cases hb;cases h;rfl
 ·cases hb;cases h;rfl
 ·cases hb
theorem QC {Pi:Nat->Nat->Prop}{k:TK}{v u:Value}{x y:PV}(hv:RepP w Pi v x)(hu:RepP w Pi u y)(he:Qs k x y=some true):v=u/\∀n,Instr.sameBits n v u=true:=by
 unfold Qs at he;split at he
 ·split at he
  ·rename_i hkk;subst hkk;cases hv;cases hu;simp only[Option.some.injEq,beq_iff_eq]at he;subst he;exact⟨rfl,fun n=>by cases n<;>simp[Instr.sameBits]⟩
  ·cases he
 ·split at he
  ·rename_i a b h1 h2;simp only[Option.some.injEq,beq_iff_eq]at he;subst he;have e1:=OR hv h1;have e2:=OR hu h2;subst e1;subst e2;exact⟨rfl,fun n=>by cases n<;>simp[Instr.sameBits]⟩
  ·cases he
 ·cases hv with
  |str l=>
   cases hu with
   |str m=>simp only[Option.some.injEq,beq_iff_eq]at he;subst he;exact⟨rfl,fun n=>by cases n<;>(simp only[Instr.sameBits];rw[beq_toListBytes];simp)⟩
 ·cases he
theorem Si {Pi:Nat->Nat->Prop}:∀{ks:List TK}{xs ys:List PV}(f g:Nat->Value),(∀i,i<xs.length->RepP w Pi (f i) (xs.getD i default))->(∀i,i<ys.length->RepP w Pi (g i) (ys.getD i default))->R7 ks xs ys=some true ->
 xs.length=ys.length/\∀i,i<xs.length->f i=g i/\∀n,Instr.sameBits n (f i) (g i)=true
 |ks,[],ys,f,g,hf,hg,he=>by cases ks<;>cases ys<;>simp[R7]at he⊢
 |[],x::xs,ys,f,g,hf,hg,he=>by simp[R7]at he
 |k::ks,x::xs,[],f,g,hf,hg,he=>by simp[R7]at he
 |k::ks,x::xs,y::ys,f,g,hf,hg,he=>by
  have hx:RepP w Pi (f 0) x:=by simpa using hf 0 (by simp)
  have hy:RepP w Pi (g 0) y:=by simpa using hg 0 (by simp)
  simp only[R7]at he;split at he
  ·split at he
   ·obtain⟨h1,h2⟩:=QC hx hy he;refine⟨rfl,fun i hi=>?_⟩;simp only[List.length_singleton]at hi;obtain rfl:i=0:=by omega
    exact⟨h1,h2⟩
   ·cases he
  ·split at he
   ·rename_i p q hp hq;simp only[Option.some.injEq,Bool.and_eq_true]at he;obtain⟨rfl,rfl⟩:=he;obtain⟨h1,h2⟩:=QC hx hy hp;obtain⟨h3,h4⟩:=Si (fun i=>f (i+1)) (fun i=>g (i+1)) (fun i hi=>by simpa using hf (i+1) (by simpa using hi)) (fun i hi=>by simpa using hg (i+1) (by simpa using hi)) hq;refine⟨by simpa using h3,fun i hi=>?_⟩;cases i with
    |zero=>exact⟨h1,h2⟩
    |succ i=>exact h4 i (by simpa using hi)
   ·cases he
theorem Zu {Pi:Nat->Nat->Prop}{t:TypeId}{v u:Value}{x y:PV}(hv:RepP w Pi v x)(hu:RepP w Pi u y)(he:KW P t x y=some true):v=u/\Instr.sameBits 10000 v u=true:=by
 unfold KW at he;split at he
 ·split at he
  ·rename_i ks xs ys hl;cases hv with
   |agg vs _ hs _ hr=>
    cases hu with
    |agg us _ hs' _ hr'=>
     obtain⟨h1,h2⟩:=Si (fun i=>vs.getD i undef) (fun i=>us.getD i undef) hr hr' he;have e:vs=us:=by
      refine Array.ext (by omega) fun i hi hi'=>?_
      have:=(h2 i (by omega)).1
      simpa[Array.getD_eq_getD_getElem?,hi,hi']using this
     subst e;refine⟨rfl,?_⟩
     have:∀n,Instr.sameBits (n+1) (.agg vs) (.agg vs)=true:=by
      intro n;simp only[Instr.sameBits,BEq.rfl,Bool.true_and,List.all_eq_true];intro p hp;obtain⟨i,hi,rfl⟩:=List.mem_iff_getElem.1 hp;have hi' : i<vs.size:=by simpa using hi
      have:=(h2 i (by omega)).2 n
      simpa[Array.getD_eq_getD_getElem?,hi']using this
     exact this 9999
  ·cases he
 ·obtain⟨h1,h2⟩:=QC hv hu he;exact⟨h1,h2 _⟩
 ·cases he
end
end Go.AM
namespace Go.AM
section
variable {P:Program}{C:Ctx}{st:St}{a:Act}{w:World}{rho:Nat->Value}{o:Oper}{out:Out}{d:Nat}
theorem OT {Pi:Nat->Nat->Prop}{e:TypeId}{z:PV}(hz:Jc P e=some z):∃v,(zeroValue e).run P w=.ok v w/\RepP w Pi v z:=by
 unfold Jc at hz;split at hz
 ·rename_i v hv;rw[Option.bind_eq_some_iff]at hv;obtain⟨i,hi,hiz⟩:=hv;refine⟨v,Zm w hi hiz,?_⟩;split at hz
  ·rename_i cs;split at hz
   ·rename_i hall;cases hz;simp only[List.all_map,List.all_eq_true,Function.comp]at hall;refine .agg cs _ (by simp) (fun i hi=>?_) fun i hi=>?_
    ·have hi' : i<cs.size:=by simpa using hi
     have:cs.getD i undef=cs[i]:=by simp[Array.getD_eq_getD_getElem?,hi']
     rw[this];exact (O7 w Pi _).cell (hall _ (by simp))
    ·have hi' : i<cs.size:=by simpa using hi
     have:cs.getD i undef=cs[i]:=by simp[Array.getD_eq_getD_getElem?,hi']
     rw[this];have e:(cs.toList.map LO).getD i default=LO cs[i]:=by simp[hi']
     rw[e];exact O7 w Pi _
   ·cases hz
  ·cases hz;exact O7 w Pi _
 ·cases hz
theorem Vz (h:Sat C st a w rho){t:TypeId}{m k:Operand}{ok:Bool}(ho:o.op=.lookup t m k ok)(he:aop P st.env st.regs d o.op=some out)(hc:D0 out.cond):OpOk P C o st a w rho out:=by
 rw[ho]at he;simp only[aop]at he;split at he
 ·rename_i x R' hv;split at he
  ·rename_i c y hl;cases he;obtain⟨h1,h2,h3⟩:=Dh h (h.aev k) hv;have hm:=h3.av (h.aev m);unfold Hw at hl;split at hl
   ·rename_i kt e ht;have fin:∀(ents:Array MapEntry) (es:List (PV×PV)) (r:Option PV),((a.eval m=.map none/\ents = #[]) \/ ∃r clock,a.eval m=.map (some r)/\w.heap[r]? = some (.map ents clock))->EntL w (Prv C.X (A1 R') rho) ents.toList es->ID P kt x=true->find (KW P kt) x es=some r ->
     (match (some r:Option (Option PV))with
      |some (some x)=>some (MO P kt,if ok then AV.tup [.p x,.bool true]else .p x)
      |some none=>match Jc P e with
       |some z=>some (MO P kt,if ok then AV.tup [.p z,.bool false]else .p z)
       |none=>none
      |none=>none)=some (c,y)->OpOk P C o st a w rho ⟨c,y,R'⟩:=by
     intro ents es r hget hent hkey hf hres;have hcc:D0 (MO P kt):=by
      cases r with
      |some x=>simp only[Option.some.injEq,Prod.mk.injEq]at hres;rw[hres.1];exact hc
      |none=>
       simp only at hres;split at hres
       ·simp only[Option.some.injEq,Prod.mk.injEq]at hres;rw[hres.1];exact hc
       ·cases hres
     obtain⟨q,hq,hrq⟩:=LZ hf;have hfk:=GF h2 hkey hcc hent hq;have hck:=Jp (b:=ents.isEmpty) hkey h2;have last:∀(v:Value) (b:Bool) (z:PV),RepP w (Prv C.X (A1 R') rho) v z->(Instr.lookup t (a.eval m) (a.eval k) ok).run P w=.ok (if ok then .tuple #[v,.bool b]else v) w->y=(if ok then AV.tup [.p z,.bool b]else .p z)->OpOk P C o st a w rho ⟨c,y,R'⟩:=by
      intro v b z hv hr hy;refine⟨_,_,w,rho,by simp[execOp,ho,hr];rfl,.inl rfl,h1,h3,?_⟩;rw[hy];cases ok
      ·exact .p _ _ hv
      ·refine .tup _ _ rfl fun i hi=>?_;simp only[List.length_cons,List.length_nil]at hi
       match i,hi with
       |0,_=>exact .p _ _ hv
       |1,_=>exact .p _ _ (.bb b)
     have hrun:∀(v:Value) (b:Bool),(q.map fun j=>(j,(ents.toList.getD j default).val))=(if b then some (q.getD 0,v)else none)->(b=false->(zeroValue e).run P w=.ok v w)->(Instr.lookup t (a.eval m) (a.eval k) ok).run P w=.ok (if ok then .tuple #[v,.bool b]else v) w:=by
      intro v b hqb hz;unfold Instr.lookup;rcases hget with⟨hm',rfl⟩ | ⟨r,clock,hm',hheap⟩
      ·simp only[Sem.run_bind,AA w (LS ht),Result.andThen_ok,hm',Sem.run_pure,hck,hfk,hqb];cases b
       ·simp[hz rfl]
       ·simp
      ·have hg:(getObj r).run P w=.ok (.map ents clock) w:=by simp[getObj,Sem.run,hheap]
       simp only[Sem.run_bind,AA w (LS ht),Result.andThen_ok,hm',hg,Sem.run_pure,hck,hfk,hqb];cases b
       ·simp[hz rfl]
       ·simp
     cases q with
     |none=>
      simp only[Option.map_none]at hrq;subst hrq;simp only at hres;split at hres
      ·rename_i z hz;simp only[Option.some.injEq,Prod.mk.injEq]at hres;obtain⟨v,hv1,hv2⟩:=OT (w:=w) (Pi:=Prv C.X (A1 R') rho) hz;exact last v false z hv2 (hrun v false rfl fun _=>hv1) hres.2.symm
      ·cases hres
     |some j=>simp only[Option.map_some]at hrq;subst hrq;simp only[Option.some.injEq,Prod.mk.injEq]at hres;obtain⟨hj,_⟩:=HE hq;exact last _ true _ (hent.2 j hj).2 (hrun _ true rfl (fun h=>by cases h)) hres.2.symm
    split at hl
    ·rename_i x' hsome;split at hsome
     ·cases hsome
     ·rename_i j hko hm1;split at hsome
      ·rename_i es hj;rw[hm1]at hm;have hh:=h1.hp.holds j _ hj;obtain⟨b,ents,clock,hr,hb,hs,hrep⟩:=hh;have hmv:a.eval m=.map (some b):=by
        generalize a.eval m=mv at hm;cases hm with
        |mref _ r hl' hr'=>rw[hr]at hr';cases hr';rfl
       exact fin ents es (some x') (.inr ⟨b,clock,hmv,hb⟩) ⟨by simpa using hs,fun i hi=>by simpa using hrep i hi⟩ hko hsome hl
      ·cases hsome
     ·cases hsome
    ·rename_i hnone;split at hnone
     ·rename_i hko hm1;rw[hm1]at hm;exact fin #[] [] none (.inl ⟨hm.toP.toV,rfl⟩) ⟨rfl,fun i hi=>absurd hi (by simp)⟩ hko rfl hl
     ·rename_i j hko hm1;split at hnone
      ·rename_i es hj;rw[hm1]at hm;have hh:=h1.hp.holds j _ hj;obtain⟨b,ents,clock,hr,hb,hs,hrep⟩:=hh;have hmv:a.eval m=.map (some b):=by
        generalize a.eval m=mv at hm;cases hm with
        |mref _ r hl' hr'=>rw[hr]at hr';cases hr';rfl
       exact fin ents es none (.inr ⟨b,clock,hmv,hb⟩) ⟨by simpa using hs,fun i hi=>by simpa using hrep i hi⟩ hko hnone hl
      ·cases hnone
     ·cases hnone
    ·cases hl
   ·cases hl
  ·cases he
 ·cases he
theorem OU (h:Sat C st a w rho){t:TypeId}{m k x:Operand}(ho:o.op=.mapUpdate t m k x)(he:aop P st.env st.regs d o.op=some out)(hc:D0 out.cond):OpOk P C o st a w rho out:=by
 rw[ho]at he;simp only[aop]at he;split at he
 ·rename_i kt e j kp ht hm0 hk0;split at he
  ·rename_i y R' hv;split at he
   ·rename_i es hj;split at he
    ·rename_i es' hko hupd;cases he;have hkr:=h.aev k;rw[hk0]at hkr;obtain⟨h1,h2,h3⟩:=Dh h (h.aev x) hv;have hm:=h3.av (h.aev m);rw[hm0]at hm;have hkr':=(h3.p hkr.toP).nP;obtain⟨b,ents,clock,hr,hb,hs,hrep⟩:=h1.hp.holds j _ hj;have hmv:a.eval m=.map (some b):=by
      generalize a.eval m=mv at hm;cases hm with
      |mref _ r hl' hr'=>rw[hr]at hr';cases hr';rfl
     obtain⟨q,hq,hqn,hqs⟩:=OQ hupd;have hent:EntL w (Prv C.X (A1 R') rho) ents.toList es:=⟨by simpa using hs,fun i hi=>by simpa using hrep i hi⟩;have hfk:=GF hkr' hko hc hent hq;have hck:=Jp (b:=false) hko hkr';have hg:(getObj b).run P w=.ok (.map ents clock) w:=by simp[getObj,Sem.run,hb]
     have hlt:b<w.heap.size:=(Array.getElem?_eq_some_iff.1 hb).1;have hset:∀ob:Go.Obj,(setObj b ob).run P w=.ok () { w with heap:=w.heap.setIfInBounds b ob }:=fun ob=>by simp[setObj,Sem.run,hb]
     obtain⟨ents',clock',hrun,hsz',hrep'⟩:∃(ents' : Array MapEntry) (clock' : Nat),(Instr.mapUpdate t (a.eval m) (a.eval k) (a.eval x)).run P w=.ok () { w with heap:=w.heap.setIfInBounds b (.map ents' clock') }/\ents'.size=es'.length /\
      ∀i,i<es'.length->RepP w (Prv C.X (A1 R') rho) (ents'.getD i default).key (es'.getD i default).1/\RepP w (Prv C.X (A1 R') rho) (ents'.getD i default).val (es'.getD i default).2:=by
      cases q with
      |none=>
       have e:=hqn rfl;subst e;refine⟨ents.push { key:=a.eval k,val:=a.eval x,born:=clock },clock+1,?_,by simp[hs],fun i hi=>?_⟩
       ·unfold Instr.mapUpdate;simp only[Sem.run_bind,AA w (LS ht),Result.andThen_ok,hmv,hg,hck,hfk,Option.map_none,hset]
       ·simp only[List.length_append,List.length_singleton]at hi;by_cases hi' : i<es.length
        ·have:=hrep i hi'
         simpa[Array.getD_eq_getD_getElem?,Array.getElem?_push,show i≠ents.size by omega,List.getElem?_append_left hi']using this
        ·obtain rfl:i=es.length:=by omega
         have h4:(ents.push { key:=a.eval k,val:=a.eval x,born:=clock }).getD es.length default={ key:=a.eval k,val:=a.eval x,born:=clock }:=by simp[Array.getD_eq_getD_getElem?,<- hs]
         rw[h4];simp only[List.getD_eq_getElem?_getD,List.getElem?_concat_length,Option.getD_some];exact⟨hkr',h2⟩
      |some j'=>
       have e:=hqs j' rfl;subst e;obtain⟨hj',hcmp⟩:=HE hq;have hjs:j' < ents.size:=by omega
       obtain⟨heq,hbits⟩:=Zu hkr' (hrep j' hj').1 hcmp;have hold:(((ents[j']?).map (·.key)).getD (a.eval k))=(ents.getD j' default).key:=by simp[Array.getD_eq_getD_getElem?,hjs]
       refine⟨ents.modify j' fun e=>{ e with key:=a.eval k,val:=a.eval x },clock,?_,by simp[hs],fun i hi=>?_⟩
       ·unfold Instr.mapUpdate;have hks:Instr.keyThatStays (((ents[j']?).map (·.key)).getD (a.eval k)) (a.eval k)=(pure (a.eval k):Sem Value):=by rw[hold,<- heq];unfold Instr.keyThatStays;rw[<- heq]at hbits;rw[if_pos hbits]
        simp only[Sem.run_bind,AA w (LS ht),Result.andThen_ok,hmv,hg,hck,hfk,Option.map_some,hks,Sem.run_pure,hset]
       ·simp only[List.length_set]at hi;by_cases hij:i=j'
        ·subst hij;have h4:((ents.modify i fun e=>{ e with key:=a.eval k,val:=a.eval x }).getD i default)={ (ents[i])with key:=a.eval k,val:=a.eval x }:=by simp[Array.getD_eq_getD_getElem?,hjs,Array.getElem_modify]
         rw[h4];simp only[List.getD_eq_getElem?_getD,List.getElem?_set_self hi,Option.getD_some];exact⟨hkr',h2⟩
        ·have h4:((ents.modify j' fun e=>{ e with key:=a.eval k,val:=a.eval x }).getD i default)=ents.getD i default:=by simp[Array.getD_eq_getD_getElem?,Array.getElem?_modify,Ne.symm hij]
         rw[h4]
         have:=hrep i hi
         simpa[List.getElem?_set_ne (Ne.symm hij)]using this
     obtain⟨g1,g2,g3⟩:=h1.modify (o:=.map es) (ob:=.map es') hj (b:=b) (by simp[D8,O5,hr]) (fun _=>trivial) (fun b' hb'=>by simp[D8,O5,hr]at hb';exact hb'.symm)
      (w':={ w with heap:=w.heap.setIfInBounds b (.map ents' clock') }) (by simp) (fun b' hb'=>by simp[Array.getElem?_setIfInBounds_ne (Ne.symm hb')])
      (fun hk'=>⟨b,ents',clock',hr,by simp[hlt],hsz',fun i hi=>⟨(hrep' i hi).1.keeps hk',(hrep' i hi).2.keeps hk'⟩⟩)
     exact⟨_,undef,_,_,by simp[execOp,ho,hrun],.inr ⟨rfl,rfl⟩,g1,h3.trans ⟨g2,g3⟩,.p _ _ (.v _)⟩
    ·cases he
   ·cases he
  ·cases he
 ·cases he
end
end Go.AM
namespace Go.AM
section
variable {P:Program}{C:Ctx}{st:St}{a:Act}{w:World}{rho:Nat->Value}{o:Oper}{out:Out}{d:Nat}
theorem VA (h:Sat C st a w rho)(he:aop P st.env st.regs d o.op=some out)(hc:D0 out.cond):OpOk P C o st a w rho out:=by
 cases ho:o.op with
 |move x=>rw[ho]at he;simp only[aop,Option.some.injEq]at he;subst he;exact Vp h (.inl ho) rfl rfl
 |assign x=>rw[ho]at he;simp only[aop,Option.some.injEq]at he;subst he;exact Vp h (.inr ho) rfl rfl
 |pick c x y=>exact Zn h ho he
 |alloc t=>exact Xa h ho he
 |box t x=>exact Ae1 h ho he
 |build t ps=>exact Xi h ho he
 |buildSlice t n ps=>exact MX h ho he hc
 |load t x=>exact Zo h ho he hc
 |store t x y=>exact Xb h ho he hc
 |nilCheck x=>exact Qx h ho he
 |binOp op t x y yt=>exact Xh h ho he hc
 |unOp op t x=>exact Zp h ho he
 |convert s t x=>exact Tt h ho he hc
 |makeInterface t x=>exact IE h ho he
 |makeFunc f x y=>
  cases f with
  |func f=>exact Qy h ho he
  |_=>rw[ho]at he;simp[aop]at he
 |makeMap t r=>
  cases r with
  |none=>exact Tr h ho he
  |some r=>rw[ho]at he;simp[aop]at he
 |makeSlice t l c=>exact OO h ho he hc
 |slice t x lo hi mx=>
  cases mx with
  |none=>exact Xf h ho he hc
  |some r=>rw[ho]at he;simp[aop]at he
 |fieldAddr t x f=>exact OH h ho he
 |field t x f=>exact Xc h ho he hc
 |indexAddr t x i=>exact OK h ho he hc
 |index t x i=>exact Xe h ho he hc
 |lookup t m k ok=>exact Vz h ho he hc
 |mapUpdate t m k x=>exact OU h ho he hc
 |extract x i=>exact Tq h ho he
 |call c=>
  obtain⟨callee,args,types⟩:=c;cases callee with
  |builtin b=>
   cases b with
   |len=>exact Ae2 (c:=⟨.builtin .len,args,types⟩) h rfl ho he
   |append=>exact Vu (c:=⟨.builtin .append,args,types⟩) h rfl ho he hc
   |min=>exact OI (c:=⟨.builtin .min,args,types⟩) h (.inl rfl) ho he
   |max=>exact OI (c:=⟨.builtin .max,args,types⟩) h (.inr rfl) ho he
   |_=>rw[ho]at he;simp[aop]at he
  |_=>rw[ho]at he;simp[aop]at he
 |_=>rw[ho]at he;simp[aop]at he
end
structure Rel (C:Ctx) (w:World) (O:Nat->Prop) (V:Nat->Nat->Prop):Prop where
 ext:Ext C.w0 w
 size:C.w0.heap.size<=w.heap.size
 same:∀b,b<C.w0.heap.size->¬C.E0 b->w.heap[b]? = C.w0.heap[b]?
 keep:Keeps C.w0 C.Pi0 w (fun b o=>C.X b o \/ V b o)
 own:∀b,O b->C.E0 b \/ C.w0.heap.size<=b
 out:∀b off,O b->¬C.X b off
 lt:∀b,O b->b<w.heap.size
 bnd:∀b off,C.X b off->b<w.heap.size
 vo:∀b o,V b o->O b
def Ae3 (P:Program)(yv:Value)(vs:Array Value)(w:World)(R:Bool->World->Prop):Prop:=
 ∃l fn tmps assign body,yv=.func (.yield l) #[] #[]/\(Instr.yield l vs).run P w=.ok (.round l fn tmps assign body) w /\
  RoundIn Fence.wide 0 P l fn tmps assign body w fun e w'=>∃b:Bool,e=.returned (.bool b)/\R b w'
def Sj (s:String):List Value:=if s == "math/bits.deBruijn64tab" then Lib.deBruijn64tab.map fun n=>.int .u8 (n:Nat)else []
def TabOk (P:Program)(w:World)(Pi:Nat->Nat->Prop):Prop:=∀(g:Nat) (s:Global) (j:Nat) (v:Value),P.globals[g]? = some s->(Sj s.name)[j]? = some v->w.cell? ⟨g,j,none⟩=some v/\¬Pi g j
theorem TabOk.keeps {P:Program}{w w' : World}{Pi Pi' : Nat->Nat->Prop}(h:TabOk P w Pi)(hk:Keeps w Pi w' Pi'):TabOk P w' Pi':=fun g s j v hs hv=>hk g j v (h g s j v hs hv).2 (h g s j v hs hv).1
structure Prot (P:Program) where
 G:Ctx->Prop
 tab:∀C,G C->TabOk P C.w0 C.Pi0
 call:∀(C:Ctx) (w:World) (O:Nat->Prop) (V:Nat->Nat->Prop) (ys:List PV) (rest:List (List PV)) (vs:Array Value),G C->Rel C w O V->C.Y (ys::rest) true->vs.size=ys.length ->
  (∀i,i<ys.length->RepP w (fun b o=>C.X b o \/ V b o) (vs.getD i undef) (ys.getD i default)) ->
  Ae3 P C.yv vs w fun b w'=>∃C',G C' /\ C'.yv=C.yv/\C'.rho0=C.rho0/\C'.Y (if b then rest else []) b/\C'.w0=w' /\ C'.E0=O/\(C'.Pi0=fun b o=>C'.X b o \/ V b o)/\Rel C' w' O V /\
   (∀b,O b->w'.heap[b]? = w.heap[b]?)/\Keeps w (fun b o=>C.X b o \/ V b o) w' (fun b o=>C'.X b o \/ V b o)/\w.heap.size<=w'.heap.size/\Ext w w'
def Prot.triv (P:Program)(C:Ctx)(hY:∀r b,¬C.Y r b)(hT:TabOk P C.w0 C.Pi0):Prot P:=
 ⟨fun C'=>C' = C,fun C' h=>h ▸ hT,fun C' w O V ys rest vs hG hR hC=>by subst hG;exact absurd hC (hY _ _)⟩
def QD (l:List Deferred)(b:Nat):Prop:=({ target:=.collected b,args:=#[] }:Deferred)∈l
def PvR (R:C4)(rho:Nat->Value)(b off:Nat):Prop:=∃j o,A1 R j=some o/\D8 (rho j) o b/\Gw o off
def Qq (R:C4)(rho:Nat->Value)(l:List Deferred)(b:Nat):Prop:=Own (A1 R) rho b \/ QD l b
def CallF (P:Program)(f:FuncId)(vs:Array Value)(w:World)(R:Ending->World->Prop):Prop:=
 ∃nx w1,(callFunc f vs).run P w=.ok nx w1/\match nx with
  |.enter f' as=>CallsIn Fence.wide 0 P f' as w1 R
  |.value v=>R (.returned v) w1
  |.row row as=>RowsIn Fence.wide 0 P row as w1 fun v w'=>R (.returned v) w'
  |_=>False
theorem CallF.mono {P:Program}{f:FuncId}{vs:Array Value}{w:World}{R R' : Ending->World->Prop}(h:CallF P f vs w R)(hr:∀e w',R e w' -> R' e w'):CallF P f vs w R':=by
 obtain⟨nx,w1,h1,h2⟩:=h;refine⟨nx,w1,h1,?_⟩;cases nx with
 |enter f' as=>exact h2.mono hr
 |value v=>exact hr _ _ h2
 |row row as=>exact RowsIn.mono h2 fun v w'=>hr _ _
 |_=>exact h2
def Zv (w:World)(Pi:Nat->Nat->Prop)(live:Nat->Prop)(rho:Nat->Value)(e:Ending):Je->Prop
 |.ret a=>∃v,e=.returned v/\RepA w Pi live rho v a
 |.panic x=>∃v,e=.panicked [{ v,recovered:=false }]/\RepP w Pi v x
def SemF (P:Program)(f:FuncId)(args:List AV)(objs:List Obj)(Q:Je->List Obj->List Bool->Prop):Prop:=
 ∀(𝒢 : Prot P) (C:Ctx) (w:World) (vs:Array Value) (rho:Nat->Value),𝒢.G C->Sat C ⟨argEnv args,objRegs objs⟩ ⟨vs,[]⟩ w rho->vs.size=args.length ->
  CallF P f vs w fun e w'=>∃C' r objs' ks rho', 𝒢.G C' /\ Q r objs' ks/\SatE C' (objRegs objs') w' rho' /\
   Zv w' (Prv C'.X (A1 (objRegs objs')) rho') (Lv (A1 (objRegs objs'))) rho' e r/\∀i:Nat,ks[i]? = some true->i<objs'.length/\rho' i=rho i
def semUp (st:St)(K:St->Prop):Prop:=∀C a w rho,Sat C st a w rho->∃st' rho',K st' /\ (∀b off,Prv C.X (A1 st'.regs) rho' b off->Prv C.X (A1 st.regs) rho b off)/\Sat C st' a w rho'
def Ft (P:Program):X1:=⟨SemF P,semUp⟩
end Go.AM
namespace Go.AM
section
variable {w w' : World}{Pi Pi' : Nat->Nat->Prop}{live live' : Nat->Prop}{rho rho' : Nat->Value}
theorem I6:∀{ids:List Nat}{j p:Nat},idx ids j=some p->ids[p]? = some j
 |[],j,p,h=>by simp[idx]at h
 |i::r,j,p,h=>by
  simp only[idx]at h;split at h
  ·rename_i e;cases h;simp[e]
  ·split at h
   ·rename_i n hn;cases h;simpa using I6 hn
   ·cases h
theorem AS {ids:List Nat}:∀{l l' : List AV},BN ids l=some l' -> l.length=l'.length/\∀i,i<l.length->Ot ids (l.getD i .top)=some (l'.getD i .top)
 |[],l',h=>by simp only[BN,Option.some.injEq]at h;subst h;exact⟨rfl,fun i hi=>absurd hi (by simp)⟩
 |a::r,l',h=>by
  simp only[BN]at h;split at h
  ·rename_i a' r' ha hr;cases h;obtain⟨h1,h2⟩:=AS hr;refine⟨by simp[h1],fun i hi=>?_⟩;cases i with
   |zero=>simpa using ha
   |succ i=>simpa using h2 i (by simpa using hi)
  ·cases h
theorem Ma {ids:List Nat}:∀{l:List AV},unL ids l=l.map (unA ids)
 |[]=>rfl
 |a::r=>by simp only[unL,List.map_cons,Ma]
theorem RepA.ren {ids:List Nat}(hk:Keeps w Pi w' Pi')(hr:∀p j,ids[p]? = some j->live j->live' p/\rho' p=rho j){v:Value}{a:AV}(h:RepA w Pi live rho v a):∀{a' : AV},Ot ids a=some a' -> RepA w' Pi' live' rho' v a':=by
 induction h with
 |p v x h=>intro a' he;simp only[Ot,Option.some.injEq]at he;subst he;exact .p _ _ (h.nP.keeps hk)
 |reg j off b hl h=>
  intro a' he;simp only[Ot]at he;split at he
  ·rename_i p hp;cases he;obtain⟨h1,h2⟩:=hr p j (I6 hp) hl;exact .reg p off b h1 (h2.trans h)
  ·cases he
 |vec j base n cap hl h=>
  intro a' he;simp only[Ot]at he;split at he
  ·rename_i p hp;cases he;obtain⟨h1,h2⟩:=hr p j (I6 hp) hl;exact .vec p base n cap h1 (h2.trans h)
  ·cases he
 |vecp j m base n cap hl h hm=>
  intro a' he;simp only[Ot]at he;split at he
  ·rename_i p hp;cases he;obtain⟨h1,h2⟩:=hr p j (I6 hp) hl;exact .vecp p m base n cap h1 (h2.trans h) hm
  ·cases he
 |elt j k i off b n cap hl h=>
  intro a' he;simp only[Ot]at he;split at he
  ·rename_i p hp;cases he;obtain⟨h1,h2⟩:=hr p j (I6 hp) hl;exact .elt p k i off b n cap h1 (h2.trans h)
  ·cases he
 |mref j r hl h=>
  intro a' he;simp only[Ot]at he;split at he
  ·rename_i p hp;cases he;obtain⟨h1,h2⟩:=hr p j (I6 hp) hl;exact .mref p r h1 (h2.trans h)
  ·cases he
 |clo f x y a b hx hy ha hb iha ihb=>
  intro a' he;simp only[Ot]at he;split at he
  ·rename_i a2 b2 h1 h2;cases he;obtain⟨l1,g1⟩:=AS h1;obtain⟨l2,g2⟩:=AS h2;exact .clo f x y a2 b2 (hx.trans l1) (hy.trans l2) (fun i hi=>iha i (by omega) (g1 i (by omega))) fun i hi=>ihb i (by omega) (g2 i (by omega))
  ·cases he
 |tup x a hx ha ih=>
  intro a' he;simp only[Ot]at he;split at he
  ·rename_i a2 h1;cases he;obtain⟨l1,g1⟩:=AS h1;exact .tup x a2 (hx.trans l1) fun i hi=>ih i (by omega) (g1 i (by omega))
  ·cases he
 |agr x a hx h1' ha ih=>
  intro a' he;simp only[Ot]at he;split at he
  ·rename_i a2 h1;cases he;obtain⟨l1,g1⟩:=AS h1;exact .agr x a2 (hx.trans l1) (fun i hi=>h1' i (by omega)) fun i hi=>ih i (by omega) (g1 i (by omega))
  ·cases he
 |yf j l hl h=>
  intro a' he;simp only[Ot]at he;split at he
  ·rename_i p hp;cases he;obtain⟨h1,h2⟩:=hr p j (I6 hp) hl;exact .yf p l h1 (h2.trans h)
  ·cases he
 |top v=>intro a' he;simp only[Ot,Option.some.injEq]at he;subst he;exact .top _
theorem RepA.un {ids:List Nat}(hk:Keeps w Pi w' Pi')(hr:∀p,live p->live' (ids.getD p 0)/\rho' (ids.getD p 0)=rho p){v:Value}{a:AV}(h:RepA w Pi live rho v a):RepA w' Pi' live' rho' v (unA ids a):=by
 induction h with
 |p v x h=>exact .p _ _ (h.keeps hk)
 |reg j off b hl h=>obtain⟨h1,h2⟩:=hr j hl;exact .reg _ off b h1 (h2.trans h)
 |vec j base n cap hl h=>obtain⟨h1,h2⟩:=hr j hl;exact .vec _ base n cap h1 (h2.trans h)
 |vecp j m base n cap hl h hm=>obtain⟨h1,h2⟩:=hr j hl;exact .vecp _ m base n cap h1 (h2.trans h) hm
 |elt j k i off b n cap hl h=>obtain⟨h1,h2⟩:=hr j hl;exact .elt _ k i off b n cap h1 (h2.trans h)
 |mref j r hl h=>obtain⟨h1,h2⟩:=hr j hl;exact .mref _ r h1 (h2.trans h)
 |clo f x y a b hx hy ha hb iha ihb=>
  simp only[unA,Ma];refine .clo f x y _ _ (by simpa using hx) (by simpa using hy) (fun i hi=>?_) fun i hi=>?_
  ·have hi' : i<a.length:=by simpa using hi
   have:=iha i hi'
   simpa[List.getD_eq_getElem?_getD,List.getElem?_map,List.getElem?_eq_getElem hi']using this
  ·have hi' : i<b.length:=by simpa using hi
   have:=ihb i hi'
   simpa[List.getD_eq_getElem?_getD,List.getElem?_map,List.getElem?_eq_getElem hi']using this
 |tup x a hx ha ih=>
  simp only[unA,Ma];refine .tup x _ (by simpa using hx) fun i hi=>?_;have hi' : i<a.length:=by simpa using hi
  have:=ih i hi'
  simpa[List.getD_eq_getElem?_getD,List.getElem?_map,List.getElem?_eq_getElem hi']using this
 |agr x a hx h1' ha ih=>
  simp only[unA,Ma];refine .agr x _ (by simpa using hx) (fun i hi=>h1' i (by simpa using hi)) fun i hi=>?_;have hi' : i<a.length:=by simpa using hi
  have:=ih i hi'
  simpa[List.getD_eq_getElem?_getD,List.getElem?_map,List.getElem?_eq_getElem hi']using this
 |yf j l hl h=>obtain⟨h1,h2⟩:=hr j hl;exact .yf _ l h1 (h2.trans h)
 |top v=>exact .top v
theorem HoldsO.ren {ids:List Nat}(hk:Keeps w Pi w' Pi')(hr:∀p j,ids[p]? = some j->live j->live' p/\rho' p=rho j){h:Value}{o o' : Obj}(hb:∀b,D8 h o b->w'.heap[b]? = w.heap[b]?)(he:MQ ids o=some o')(hh:HoldsO w Pi live rho h o):HoldsO w' Pi' live' rho' h o':=by
 cases o with
 |cells cs=>
  simp only[MQ]at he;split at he
  ·rename_i cs' hcs;cases he;obtain⟨l1,g1⟩:=AS hcs;obtain⟨b,c,T,rfl,h1,h2,h3⟩:=hh;exact⟨b,c,T,rfl,(hb b rfl).trans h1,h2.trans l1,fun i hi=>⟨(h3 i (by omega)).1.ren hk hr (g1 i (by omega)),(h3 i (by omega)).2⟩⟩
  ·cases he
 |vec e k n f vw=>
  simp only[MQ,Option.some.injEq]at he;subst he;rcases hh with hn|⟨b,cap,c,rfl,h1,h2,h3,h4,h5,h6⟩
  ·exact .inl hn
  ·exact .inr ⟨b,cap,c,rfl,(hb b rfl).trans h1,h2,h3,h4,h5,fun i j hi hj=>⟨(h6 i j hi hj).1.keeps hk,(h6 i j hi hj).2⟩⟩
 |map es=>simp only[MQ,Option.some.injEq]at he;subst he;obtain⟨b,ents,clock,rfl,h1,h2,h3⟩:=hh;exact⟨b,ents,clock,rfl,(hb b rfl).trans h1,h2,fun i hi=>⟨(h3 i hi).1.keeps hk,(h3 i hi).2.keeps hk⟩⟩
 |arr n f=>simp only[MQ,Option.some.injEq]at he;subst he;obtain⟨b,c,T,rfl,h1,h2,h3⟩:=hh;exact⟨b,c,T,rfl,(hb b rfl).trans h1,h2,fun i hi=>⟨(h3 i hi).1.keeps hk,(h3 i hi).2⟩⟩
 |ghost cs=>
  simp only[MQ]at he;split at he
  ·rename_i cs' hcs;cases he;obtain⟨l1,g1⟩:=AS hcs;obtain⟨vs,rfl,h1,h2⟩:=hh;exact⟨vs,rfl,h1.trans l1,fun i hi=>(h2 i (by omega)).ren hk hr (g1 i (by omega))⟩
  ·cases he
 |yld r b=>simp only[MQ,Option.some.injEq]at he;subst he;exact hh
 |dead=>simp only[MQ,Option.some.injEq]at he;subst he;trivial
 |fam e n jr x=>
  simp only[MQ]at he;split at he
  ·rename_i jr' hj;cases he;obtain⟨rv,g1,g2,hv⟩:=hh;obtain⟨g3,g4⟩:=hr _ _ (I6 hj) g1;refine⟨rv,g3,g4.trans g2,?_⟩;rcases hv with hv|⟨b,cap,c,rfl,h1,h2,h3,h4,h5,h6⟩
   ·exact .inl hv
   ·exact .inr ⟨b,cap,c,rfl,(hb b rfl).trans h1,h2,h3,h4,h5,trivial⟩
  ·cases he
 |rows n g=>simp only[MQ,Option.some.injEq]at he;subst he;exact Fj hk hb hh
theorem T9 {ids:List Nat}{h:Value}{o o' : Obj}(he:MQ ids o=some o'):D8 h o' = D8 h o:=by
 cases o<;>simp only[MQ]at he
 case fam=>split at he<;>cases he;rfl
 case cells=>split at he<;>cases he;rfl
 case ghost=>split at he<;>cases he;rfl
 all_goals (cases he;rfl)
theorem GG {ids:List Nat}{o o' : Obj}(he:MQ ids o=some o')(off:Nat):Gw o' off↔Gw o off:=by
 cases o<;>simp only[MQ]at he
 case fam=>split at he<;>cases he;exact Iff.rfl
 case cells=>split at he<;>cases he;exact Iff.rfl
 case ghost=>split at he<;>cases he;exact Iff.rfl
 all_goals (cases he;exact Iff.rfl)
theorem HoldsO.un {ids:List Nat}(hk:Keeps w Pi w' Pi')(hr:∀p,live p->live' (ids.getD p 0)/\rho' (ids.getD p 0)=rho p){h:Value}{o:Obj}(hb:∀b,D8 h o b->w'.heap[b]? = w.heap[b]?)(hh:HoldsO w Pi live rho h o):HoldsO w' Pi' live' rho' h (unO ids o):=by
 cases o with
 |cells cs=>
  obtain⟨b,c,T,rfl,h1,h2,h3⟩:=hh;simp only[unO,Ma];refine⟨b,c,T,rfl,(hb b rfl).trans h1,by simpa using h2,fun i hi=>?_⟩;have hi' : i<cs.length:=by simpa using hi
  refine⟨?_,(h3 i hi').2⟩
  have:=(h3 i hi').1.un hk hr
  simpa[List.getD_eq_getElem?_getD,List.getElem?_map,List.getElem?_eq_getElem hi']using this
 |vec e k n f vw=>
  rcases hh with hn|⟨b,cap,c,rfl,h1,h2,h3,h4,h5,h6⟩
  ·exact .inl hn
  ·exact .inr ⟨b,cap,c,rfl,(hb b rfl).trans h1,h2,h3,h4,h5,fun i j hi hj=>⟨(h6 i j hi hj).1.keeps hk,(h6 i j hi hj).2⟩⟩
 |map es=>obtain⟨b,ents,clock,rfl,h1,h2,h3⟩:=hh;exact⟨b,ents,clock,rfl,(hb b rfl).trans h1,h2,fun i hi=>⟨(h3 i hi).1.keeps hk,(h3 i hi).2.keeps hk⟩⟩
 |arr n f=>obtain⟨b,c,T,rfl,h1,h2,h3⟩:=hh;exact⟨b,c,T,rfl,(hb b rfl).trans h1,h2,fun i hi=>⟨(h3 i hi).1.keeps hk,(h3 i hi).2⟩⟩
 |ghost cs=>
  obtain⟨vs,rfl,h1,h2⟩:=hh;simp only[unO,Ma];refine⟨vs,rfl,by simpa using h1,fun i hi=>?_⟩;have hi' : i<cs.length:=by simpa using hi
  have:=(h2 i hi').un hk hr
  simpa[List.getD_eq_getElem?_getD,List.getElem?_map,List.getElem?_eq_getElem hi']using this
 |yld r b=>exact hh
 |dead=>trivial
 |fam e n jr x=>
  obtain⟨rv,g1,g2,hv⟩:=hh;obtain⟨g3,g4⟩:=hr _ g1;refine⟨rv,g3,g4.trans g2,?_⟩;rcases hv with hv|⟨b,cap,c,rfl,h1,h2,h3,h4,h5,h6⟩
  ·exact .inl hv
  ·cases x with
   |none=>exact .inr ⟨b,cap,c,rfl,(hb b rfl).trans h1,h2,h3,h4,h5,trivial⟩
   |some q=>exact .inr ⟨b,cap,c,rfl,(hb b rfl).trans h1,h2,h3,h4,h5,h6.un hk hr⟩
 |rows n g=>exact Fj hk hb hh
theorem MZ {ids:List Nat}{h:Value}{o:Obj}:D8 h (unO ids o)=D8 h o:=by cases o<;>rfl
theorem VB {ids:List Nat}{o:Obj}(off:Nat):Gw (unO ids o) off↔Gw o off:=by cases o<;>exact Iff.rfl
theorem C6 (objs:List Obj)(j:Nat):A1 (objRegs objs) j=objs[j]?:=by
 have hin:∀(objs:List Obj) (n:Nat) (acc:C4),A1 (objRegs.go n objs acc) j=if n<=j/\j<n+objs.length then objs[j-n]? else A1 acc j:=by
  intro objs
  induction objs with
  |nil=>intro n acc;simp[objRegs.go];intro h1 h2;omega
  |cons o r ih=>
   intro n acc;simp only[objRegs.go,ih,A1,List.length_cons];by_cases h:n=j
   ·subst h;rw[if_neg (by omega),if_pos rfl,if_pos ⟨by omega,by omega⟩];simp
   ·by_cases h1:n+1<=j/\j<n+1+r.length
    ·rw[if_pos h1,if_pos ⟨by omega,by omega⟩];obtain⟨i,rfl⟩:∃i,j=n+1+i:=⟨j-(n+1),by omega⟩;rw[show n+1+i-(n+1)=i by omega,show n+1+i-n=i+1 by omega];simp
    ·rw[if_neg h1,if_neg h,if_neg (by omega)]
 unfold objRegs;rw[hin];by_cases h:j<objs.length
 ·rw[if_pos ⟨by omega,by omega⟩];simp
 ·rw[if_neg (by omega),List.getElem?_eq_none (by omega)];rfl
theorem Ab (args:List AV)(j:Nat):get (argEnv args) j=args.getD j .top:=by
 have hin:∀(objs:List AV) (n:Nat) (acc:Env),get (argEnv.go n objs acc) j=if n<=j/\j<n+objs.length then objs.getD (j-n) .top else get acc j:=by
  intro objs
  induction objs with
  |nil=>intro n acc;simp[argEnv.go];intro h1 h2;omega
  |cons o r ih=>
   intro n acc;simp only[argEnv.go,ih,get,List.length_cons];by_cases h:n=j
   ·subst h;rw[if_neg (by omega),if_pos rfl,if_pos ⟨by omega,by omega⟩];simp
   ·by_cases h1:n+1<=j/\j<n+1+r.length
    ·rw[if_pos h1,if_pos ⟨by omega,by omega⟩];obtain⟨i,rfl⟩:∃i,j=n+1+i:=⟨j-(n+1),by omega⟩;rw[show n+1+i-(n+1)=i by omega,show n+1+i-n=i+1 by omega];simp
    ·rw[if_neg h1,if_neg h,if_neg (by omega)]
 unfold argEnv;rw[hin];by_cases h:j<args.length
 ·rw[if_pos ⟨by omega,by omega⟩];simp
 ·rw[if_neg (by omega)];simp[get,List.getD_eq_getElem?_getD,List.getElem?_eq_none (show args.length<=j by omega)]
theorem U0 {ids:List Nat}{regs:C4}:∀{l:List Nat}{objs:List Obj},H8 ids regs l=some objs->objs.length=l.length/\∀(p j:Nat),l[p]? = some j->∃o o',A1 regs j=some o/\MQ ids o=some o' /\ objs[p]? = some o'
 |[],objs,h=>by simp only[H8,Option.some.injEq]at h;subst h;exact⟨rfl,fun p j hp=>by simp at hp⟩
 |j::l,objs,h=>by
  simp only[H8]at h;split at h
  ·rename_i o ho;split at h
   ·rename_i o' l' h1 h2;cases h;obtain⟨h3,h4⟩:=U0 h2;refine⟨by simp[h3],fun p i hp=>?_⟩;cases p with
    |zero=>simp only[List.getElem?_cons_zero,Option.some.injEq]at hp;subst hp;exact⟨o,o',ho,h1,by simp⟩
    |succ p=>simpa using h4 p i (by simpa using hp)
   ·cases h
  ·cases h
theorem AD:∀{l:List Nat},F0 l=true->l.Nodup
 |[],_=>List.nodup_nil
 |a::r,h=>by simp only[F0,Bool.and_eq_true,Bool.not_eq_true',List.contains_eq_mem,decide_eq_false_iff_not]at h;exact List.nodup_cons.2 ⟨h.1,AD h.2⟩
theorem Dk:∀{l:List Nat}(h:l.Nodup) {p q j:Nat}(hp:l[p]? = some j) (hq:l[q]? = some j),p=q
 |[],h,p,q,j,hp,hq=>by simp at hp
 |a::l,h,p,q,j,hp,hq=>by
  obtain⟨h1,h2⟩:=List.nodup_cons.1 h;cases p with
  |zero=>
   cases q with
   |zero=>rfl
   |succ q=>simp only[List.getElem?_cons_zero,Option.some.injEq]at hp;simp only[List.getElem?_cons_succ]at hq;subst hp;exact absurd (List.mem_of_getElem? hq) h1
  |succ p=>
   cases q with
   |zero=>simp only[List.getElem?_cons_zero,Option.some.injEq]at hq;simp only[List.getElem?_cons_succ]at hp;subst hq;exact absurd (List.mem_of_getElem? hp) h1
   |succ q=>exact congrArg (· + 1) (Dk (j:=j) h2 (by simpa using hp) (by simpa using hq))
theorem Mb:∀{l:List Obj},Df l=true->∀(p:Nat) (r:List (List PV)) (b:Bool),l[p]? ≠ some (.yld r b)
 |[],_,p,r,b=>by simp
 |o::l,h,p,r,b=>by
  cases p with
  |zero=>intro he;simp only[List.getElem?_cons_zero,Option.some.injEq]at he;subst he;simp[Df]at h
  |succ p=>simp only[List.getElem?_cons_succ];exact Mb (by cases o<;>simp[Df]at h<;>exact h) p r b
end
end Go.AM
namespace Go.AM
def Ac3 (C:Ctx)(R:C4)(rho:Nat->Value)(ids:List Nat)(b off:Nat):Prop:=
 C.X b off \/ ∃j o,j ∉ ids/\A1 R j=some o/\D8 (rho j) o b/\Gw o off
def Ctx.callee (C:Ctx)(R:C4)(w:World)(rho:Nat->Value)(ids:List Nat):Ctx where
 X:=Ac3 C R rho ids
 w0:=w
 E0:=fun b=>∃j o,j∈ids/\A1 R j=some o/\D8 (rho j) o b
 Pi0:=Prv C.X (A1 R) rho
 rho0:=fun p=>rho (ids.getD p 0)
 Y:=fun _ _=>False
 yv:=C.yv
section
variable {P:Program}{C:Ctx}{st:St}{a:Act}{w:World}{rho:Nat->Value}
theorem Bi {ids:List Nat}{p j:Nat}(h:ids[p]? = some j):ids.getD p 0=j:=by simp[List.getD_eq_getElem?_getD,h]
theorem Mc {R:C4}{ids:List Nat}{objs:List Obj}(hob:H8 ids R ids=some objs)(b off:Nat) :Prv (Ac3 C R rho ids) (A1 (objRegs objs)) (fun p=>rho (ids.getD p 0)) b off↔Prv C.X (A1 R) rho b off:=by
 obtain⟨hl,hg⟩:=U0 hob;constructor
 ·rintro ((hX|⟨j,o,_,hj,hb,hp⟩)|⟨p,o',hp,hb,hpr⟩)
  ·exact .inl hX
  ·exact .inr ⟨j,o,hj,hb,hp⟩
  ·rw[C6]at hp;have hlt:p<ids.length:=by rw[<- hl];exact (List.getElem?_eq_some_iff.1 hp).1
   obtain⟨o,o2,h1,h2,h3⟩:=hg p _ (List.getElem?_eq_getElem hlt);rw[hp]at h3;cases h3;simp only[Bi (List.getElem?_eq_getElem hlt),T9 h2]at hb;exact .inr ⟨_,o,h1,hb,(GG h2 off).1 hpr⟩
 ·rintro (hX|⟨j,o,hj,hb,hp⟩)
  ·exact .inl (.inl hX)
  ·by_cases hm:j∈ids
   ·obtain⟨p,hlt,rfl⟩:=List.mem_iff_getElem.1 hm;obtain⟨o1,o2,h1,h2,h3⟩:=hg p _ (List.getElem?_eq_getElem hlt);rw[hj]at h1;cases h1;refine .inr ⟨p,o2,by rw[C6];exact h3,?_,(GG h2 off).2 hp⟩;simp only[Bi (List.getElem?_eq_getElem hlt),T9 h2];exact hb
   ·exact .inl (.inr ⟨j,o,hm,hj,hb,hp⟩)
theorem Id (h:Sat C st a w rho){ids:List Nat}{objs:List Obj}{as args:List AV}{vs:Array Value}(hd:F0 ids=true)(hob:H8 ids st.regs ids=some objs)(hny:Df objs=true)(hlt1000:True)
 (hr:BN ids as=some args) (hvs:vs.size=as.length) (hv:∀i,i<as.length->RS C st w rho (vs.getD i undef) (as.getD i .top)) :
 Sat (C.callee st.regs w rho ids) ⟨argEnv args,objRegs objs⟩ ⟨vs,[]⟩ w (fun p=>rho (ids.getD p 0)):=by
 obtain⟨hl,hg⟩:=U0 hob;have hdup:=AD hd;have hpi:=Mc (C:=C) (rho:=rho) hob;have hk:Keeps w (Prv C.X (A1 st.regs) rho) w (Prv (Ac3 C st.regs rho ids) (A1 (objRegs objs)) (fun p=>rho (ids.getD p 0))):=
  fun b o v hp hc=>⟨hc,fun hp'=>hp ((hpi b o).1 hp')⟩
 have hfrom:∀p o',A1 (objRegs objs) p=some o' -> ∃j o,ids[p]? = some j/\A1 st.regs j=some o/\MQ ids o=some o' /\ rho (ids.getD p 0)=rho j:=by
  intro p o' hp;rw[C6]at hp;have hlt:p<ids.length:=by rw[<- hl];exact (List.getElem?_eq_some_iff.1 hp).1
  obtain⟨o,o2,h1,h2,h3⟩:=hg p _ (List.getElem?_eq_getElem hlt);rw[hp]at h3;cases h3;exact⟨_,o,List.getElem?_eq_getElem hlt,h1,h2,by rw[Bi (List.getElem?_eq_getElem hlt)]⟩
 have hren:∀p j,ids[p]? = some j->Lv (A1 st.regs) j->Lv (A1 (objRegs objs)) p/\rho (ids.getD p 0)=rho j:=by intro p j hp _;obtain⟨o,o2,h1,h2,h3⟩:=hg p j hp;exact⟨by simp[Lv,C6,h3],by rw[Bi hp]⟩
 refine⟨⟨⟨?_,?_,?_,?_⟩,Ext.refl _,Nat.le_refl _,fun b _ _=>rfl,hk,?_,?_⟩,?_,fun j _ _=>rfl,List.nodup_nil,fun d hd=>by simp at hd⟩
 ·intro p o' hp;obtain⟨j,o,h1,h2,h3,h4⟩:=hfrom p o' hp;show HoldsO w _ _ _ (rho (ids.getD p 0)) o';rw[h4];exact (h.hp.holds j o h2).ren hk hren (fun b _=>rfl) h3
 ·intro p q op oq b hp hq hbp hbq;obtain⟨j,o,h1,h2,h3,h4⟩:=hfrom p op hp;obtain⟨j',o',h1',h2',h3',h4'⟩:=hfrom q oq hq;simp only[h4,h4',T9 h3,T9 h3']at hbp hbq
  have:=h.hp.sep j j' o o' b h2 h2' hbp hbq
  subst this;exact Dk hdup h1 h1'
 ·intro p o' b off hp hb hX;obtain⟨j,o,h1,h2,h3,h4⟩:=hfrom p o' hp;simp only[h4,T9 h3]at hb;rcases hX with hX|⟨j',o2,hj',h5,h6,_⟩
  ·exact h.hp.out j o b off h2 hb hX
  ·have:=h.hp.sep j j' o o2 b h2 h5 hb h6
   subst this;exact hj' (List.mem_of_getElem? h1)
 ·rintro b off (hX|⟨j,o,_,hj,hb,_⟩)
  ·exact h.hp.bound b off hX
  ·exact (h.hp.holds j o hj).lt hb
 ·rintro b ⟨p,o',hp,hb⟩;obtain⟨j,o,h1,h2,h3,h4⟩:=hfrom p o' hp;simp only[h4,T9 h3]at hb;exact .inl ⟨j,o,List.mem_of_getElem? h1,h2,hb⟩
 ·intro p r b hp;rw[C6]at hp;exact absurd hp (Mb hny p r b)
 ·intro t;show RepA w _ _ _ (vs.getD t undef) (get (argEnv args) t);rw[Ab];obtain⟨h1,h2⟩:=AS hr;by_cases ht:t<as.length
  ·exact (hv t ht).ren hk hren (h2 t ht)
  ·rw[List.getD_eq_getElem?_getD,List.getElem?_eq_none (by omega)];exact .top _
theorem Sk (all:List Nat)(j:Nat):∀(ids:List Nat) (objs:List Obj) (regs:C4),ids.Nodup->ids.length=objs.length ->
 A1 (UR all ids objs regs) j=match idx ids j with
  |some p=>(objs[p]?).map (unO all)
  |none=>A1 regs j
 |[],objs,regs,_,hl=>by
  cases objs with
  |nil=>rfl
  |cons=>simp at hl
 |i::ids,[],regs,_,hl=>by simp at hl
 |i::ids,o::objs,regs,hn,hl=>by
  obtain⟨h1,h2⟩:=List.nodup_cons.1 hn;simp only[UR];rw[Sk all j ids objs _ h2 (by simpa using hl)];simp only[idx];by_cases e:i=j
  ·subst e
   have:idx ids i=none:=by
    cases hx:idx ids i with
    |none=>rfl
    |some p=>exact absurd (List.mem_of_getElem? (I6 hx)) h1
   simp[this,A4]
  ·simp only[e,if_false];cases hx:idx ids j with
   |none=>simp[A4,e]
   |some p=>simp
theorem Dl (j:Nat):∀(ids:List Nat) (ks:List Bool) (regs:C4),ids.Nodup ->
 A1 (K9 ids ks regs) j=match idx ids j with
  |some p=>if ks[p]? = some true then A1 regs j else some .dead
  |none=>A1 regs j
 |[],ks,regs,_=>by cases ks<;>rfl
 |i::ids,[],regs,hn=>by
  obtain⟨h1,h2⟩:=List.nodup_cons.1 hn;simp only[K9];rw[Dl j ids [] _ h2];simp only[idx];by_cases e:i=j
  ·subst e
   have:idx ids i=none:=by
    cases hx:idx ids i with
    |none=>rfl
    |some p=>exact absurd (List.mem_of_getElem? (I6 hx)) h1
   simp[this,A4]
  ·simp only[e,if_false];cases hx:idx ids j with
   |none=>simp[A4,e]
   |some p=>simp
 |i::ids,k::ks,regs,hn=>by
  obtain⟨h1,h2⟩:=List.nodup_cons.1 hn;simp only[K9];have hnone:idx ids i=none:=by
   cases hx:idx ids i with
   |none=>rfl
   |some p=>exact absurd (List.mem_of_getElem? (I6 hx)) h1
  by_cases hk:k=true
  ·rw[if_pos hk,Dl j ids ks _ h2];simp only[idx];by_cases e:i=j
   ·subst e;simp[hnone,hk]
   ·simp only[e,if_false];cases hx:idx ids j with
    |none=>rfl
    |some p=>simp
  ·rw[if_neg hk,Dl j ids ks _ h2];simp only[idx];by_cases e:i=j
   ·subst e;simp[hnone,hk,A4]
   ·simp only[e,if_false];cases hx:idx ids j with
    |none=>simp[A4,e]
    |some p=>simp[A4,e]
theorem Na {ids:List Nat}{j:Nat}(h:j∈ids):∃p,idx ids j=some p:=by
 induction ids with
 |nil=>simp at h
 |cons i r ih=>
  simp only[idx];by_cases e:i=j
  ·exact⟨0,by simp[e]⟩
  ·rcases List.mem_cons.1 h with h' | h'
   ·exact absurd h'.symm e
   ·obtain⟨p,hp⟩:=ih h';exact⟨p+1,by simp[e,hp]⟩
theorem YG {ids:List Nat}(hn:ids.Nodup){p j:Nat}(h:ids[p]? = some j):idx ids j=some p:=by obtain⟨q,hq⟩:=Na (List.mem_of_getElem? h);rw[hq,Dk hn (I6 hq) h]
theorem Jr {n p:Nat}(h:p<n):(List.range n)[p]? = some p:=by simp[h]
theorem HF {d:Nat}{ids:List Nat}{ks:List Bool}{n p j:Nat}(h:(K8 d ids ks n)[p]? = some j):p<n/\((ids[p]? = some j/\ks[p]? = some true) \/ (j=nid d p/\∀i,ids[p]? = some i->ks[p]? ≠ some true)):=by
 unfold K8 at h;rw[List.getElem?_map,Option.map_eq_some_iff]at h;obtain⟨q,hq,hj⟩:=h;have hlt:p<n:=by simpa using (List.getElem?_eq_some_iff.1 hq).1
 rw[Jr hlt]at hq;cases hq;refine⟨hlt,?_⟩;split at hj
 ·rename_i j' h1 h2;subst hj;exact .inl ⟨h1,h2⟩
 ·rename_i hno;subst hj;exact .inr ⟨rfl,fun i hi hk=>hno i hi hk⟩
theorem Tv {d:Nat}{ids:List Nat}{ks:List Bool}{n:Nat}:(K8 d ids ks n).length=n:=by simp[K8]
theorem FZ {regs:C4}{ids:List Nat}{ks:List Bool}{d n p:Nat}(hf:BW regs ids ks d n=true)(hp:p<n)(hno:∀i,ids[p]? = some i->ks[p]? ≠ some true):A1 regs (nid d p)=none:=by
 unfold BW at hf;rw[List.all_eq_true]at hf
 have:=hf p (by simp[hp])
 split at this
 ·rename_i i h1 h2;exact absurd h2 (hno i h1)
 ·simpa using this
theorem Ie:∀{l:List Nat},(∀p q j:Nat,l[p]? = some j->l[q]? = some j->p=q)->l.Nodup
 |[],_=>List.nodup_nil
 |a::l,h=>by
  refine List.nodup_cons.2 ⟨fun hm=>?_,Ie fun p q j hp hq=>?_⟩
  ·obtain⟨p,hp⟩:=List.mem_iff_getElem?.1 hm
   have:=h 0 (p+1) a (by simp) (by simpa using hp)
   omega
  ·have:=h (p+1) (q+1) j (by simpa using hp) (by simpa using hq)
   omega
theorem OV {regs:C4}{ids:List Nat}{ks:List Bool}{d n:Nat}{objs:List Obj}(hob:H8 ids regs ids=some objs)(hd:ids.Nodup)(hf:BW regs ids ks d n=true):(K8 d ids ks n).Nodup:=by
 refine Ie fun p q j hp hq=>?_;obtain⟨h1,h2⟩:=HF hp;obtain⟨h3,h4⟩:=HF hq;obtain⟨_,hg⟩:=U0 hob;rcases h2 with⟨h2,h2'⟩ | ⟨h2e,h2⟩<;>rcases h4 with⟨h4,h4'⟩ | ⟨h4e,h4⟩
 ·exact Dk hd h2 h4
 ·obtain⟨o,_,ho,_⟩:=hg p _ h2
  have:=FZ hf h3 h4
  rw[<- h4e,ho]at this;cases this
 ·obtain⟨o,_,ho,_⟩:=hg q _ h4
  have:=FZ hf h1 h2
  rw[<- h2e,ho]at this;cases this
 ·have:nid d p=nid d q:=h2e.symm.trans h4e
  unfold nid at this;omega
def Sm (new:List Nat)(rho rho' : Nat->Value)(j:Nat):Value:=match idx new j with
 |some p=>rho' p
 |none=>rho j
theorem Tw (h:Sat C st a w rho){ids:List Nat}{objs objs' : List Obj}{ks:List Bool}{d:Nat}{w' : World}{rho' : Nat->Value}(hd:F0 ids=true)(hob:H8 ids st.regs ids=some objs)
 (hE:SatE (C.callee st.regs w rho ids) (objRegs objs') w' rho') (hks:∀i:Nat,ks[i]? = some true->i<objs'.length/\rho' i=rho (ids.getD i 0)) (hf:BW st.regs ids ks d objs'.length=true) :
 let new:=K8 d ids ks objs'.length
 let R':=UR new new objs' (K9 ids ks st.regs)
 Sat C { st with regs:=R' } a w' (Sm new rho rho')/\Kp C st.regs R' w w' rho (Sm new rho rho') /\
  Keeps w' (Prv (Ac3 C st.regs rho ids) (A1 (objRegs objs')) rho') w' (Prv C.X (A1 R') (Sm new rho rho')) /\
  ∀p,Lv (A1 (objRegs objs')) p->Lv (A1 R') (new.getD p 0)/\Sm new rho rho' (new.getD p 0)=rho' p:=by
 intro new R';have hdup:=AD hd;obtain⟨hl,hg⟩:=U0 hob;have hnd:new.Nodup:=OV hob hdup hf;have hnl:new.length=objs'.length:=Tv;have hR:∀j,A1 R' j=match idx new j with
  |some p=>(objs'[p]?).map (unO new)
  |none=>A1 (K9 ids ks st.regs) j:=fun j=>Sk new j new objs' _ hnd hnl
 have hD:∀j,A1 (K9 ids ks st.regs) j=match idx ids j with
  |some p=>if ks[p]? = some true then A1 st.regs j else some .dead
  |none=>A1 st.regs j:=fun j=>Dl j ids ks _ hdup
 have hnew:∀j p,idx new j=some p->p<objs'.length/\((ids[p]? = some j/\rho' p=rho j/\Lv (A1 st.regs) j) \/ (A1 st.regs j=none/\1000<=j)):=by
  intro j p hp;obtain⟨h1,h2⟩:=HF (I6 hp);refine⟨h1,?_⟩;rcases h2 with⟨h2,h3⟩ | ⟨rfl,h2⟩
  ·obtain⟨o,_,ho,_⟩:=hg p j h2;exact .inl ⟨h2,by rw[(hks p h3).2,Bi h2],by simp[Lv,ho]⟩
  ·exact .inr ⟨FZ hf h1 h2,Bz d p⟩
 have hold:∀j,idx new j=none->j∈ids->A1 R' j=some .dead:=by
  intro j hj hm;rw[hR j,hj];obtain⟨p,hp⟩:=Na hm;simp only[hD j,hp];by_cases hk:ks[p]? = some true
  ·exfalso;have hlt:=(hks p hk).1
   have:new[p]? = some j:=by show (K8 d ids ks objs'.length)[p]? = some j;unfold K8;rw[List.getElem?_map,Jr hlt];simp[I6 hp,hk]
   rw[YG hnd this]at hj;cases hj
  ·simp[hk]
 have hkeepR:∀j,idx new j=none->j ∉ ids->A1 R' j=A1 st.regs j:=by
  intro j hj hm;rw[hR j,hj]
  have:idx ids j=none:=by
   cases hx:idx ids j with
   |none=>rfl
   |some p=>exact absurd (List.mem_of_getElem? (I6 hx)) hm
  simp only[hD j,this]
 have hRs:∀j p,idx new j=some p->∃o',objs'[p]? = some o' /\ A1 R' j=some (unO new o')/\Sm new rho rho' j=rho' p:=by intro j p hp;obtain⟨h1,_⟩:=hnew j p hp;refine⟨objs'[p],List.getElem?_eq_getElem h1,?_,by simp[Sm,hp]⟩;rw[hR j,hp];simp[List.getElem?_eq_getElem h1]
 have hrn:∀j,idx new j=none->Sm new rho rho' j=rho j:=fun j hj=>by simp[Sm,hj]
 have hlive:∀j,Lv (A1 st.regs) j->Lv (A1 R') j/\Sm new rho rho' j=rho j:=by
  intro j hj;cases hx:idx new j with
  |some p=>
   obtain⟨o',_,h2,h3⟩:=hRs j p hx;refine⟨by simp[Lv,h2],?_⟩;rcases (hnew j p hx).2 with⟨_,h4,_⟩ | ⟨h4,_⟩
   ·rw[h3,h4]
   ·simp[Lv,h4]at hj
  |none=>
   refine⟨?_,hrn j hx⟩;by_cases hm:j∈ids
   ·simp[Lv,hold j hx hm]
   ·simpa[Lv,hkeepR j hx hm]using hj
 have hback:∀p,p<objs'.length->idx new (new.getD p 0)=some p:=by
  intro p hp
  have:new[p]? = some (new.getD p 0):=by rw[List.getD_eq_getElem?_getD,List.getElem?_eq_getElem (by omega)];rfl
  exact YG hnd this
 have hpi:∀b off,Prv C.X (A1 R') (Sm new rho rho') b off->Prv (Ac3 C st.regs rho ids) (A1 (objRegs objs')) rho' b off:=by
  rintro b off (hX|⟨j,o,hj,hb,hp⟩)
  ·exact .inl (.inl hX)
  ·cases hx:idx new j with
   |some p=>obtain⟨o',h1,h2,h3⟩:=hRs j p hx;rw[h2]at hj;cases hj;rw[h3,MZ]at hb;exact .inr ⟨p,o',by rw[C6];exact h1,hb,(VB off).1 hp⟩
   |none=>
    by_cases hm:j∈ids
    ·rw[hold j hx hm]at hj;cases hj;simp[D8,O5]at hb
    ·rw[hkeepR j hx hm]at hj;rw[hrn j hx]at hb;exact .inl (.inr ⟨j,o,hm,hj,hb,hp⟩)
 have hk2:Keeps w' (Prv (Ac3 C st.regs rho ids) (A1 (objRegs objs')) rho') w' (Prv C.X (A1 R') (Sm new rho rho')):=fun b o v hp hc=>⟨hc,fun hp'=>hp (hpi b o hp')⟩;have hlb:∀p,Lv (A1 (objRegs objs')) p->Lv (A1 R') (new.getD p 0)/\Sm new rho rho' (new.getD p 0)=rho' p:=by
  intro p hp;have hlt:p<objs'.length:=by simp only[Lv,C6]at hp;exact (List.getElem?_eq_some_iff.1 (Option.eq_some_of_isSome hp)).1
  obtain⟨o',_,h2,h3⟩:=hRs _ p (hback p hlt);exact⟨by rw[Lv,h2];rfl,h3⟩
 have hyld:∀(p:Nat) r b,objs'[p]? ≠ some (.yld r b):=by intro p r b hp;exact (hE.yld p r b (by rw[C6];exact hp)).1
 obtain⟨g1,g2⟩:=h.step (R':=R') (rho':=Sm new rho rho') (w':=w') (fun j=>j∈ids \/ ∃p,idx new j=some p)
  (fun j hj=>by
   have h1:j ∉ ids:=fun e=>hj (.inl e);have h2:idx new j=none:=by
    cases hx:idx new j with
    |none=>rfl
    |some p=>exact absurd (.inr ⟨p,hx⟩) hj
   exact hkeepR j h2 h1)
  hlive hE.size
  (fun j hj hj'=>by
   cases hx:idx new j with
   |some p=>
    rcases (hnew j p hx).2 with⟨_,_,h4⟩ | ⟨_,h4⟩
    ·exact absurd h4 hj
    ·exact h4
   |none=>
    by_cases hm:j∈ids
    ·obtain⟨p,hp⟩:=Na hm;obtain⟨o,_,ho,_⟩:=hg p j (I6 hp);exact absurd (by simp[Lv,ho]) hj
    ·rw[Lv,hkeepR j hx hm]at hj';exact absurd hj' hj)
  (fun j r b hDj hj=>by
   cases hx:idx new j with
   |some p=>
    obtain⟨o',h1,h2,h3⟩:=hRs j p hx;rw[h2]at hj
    have:o' = .yld r b:=by cases o'<;>simp[unO]at hj⊢;exact hj
    subst this;exact hyld p r b h1
   |none=>
    rcases hDj with hm|⟨p,hp⟩
    ·rw[hold j hx hm]at hj;cases hj
    ·rw[hx]at hp;cases hp)
  (fun b hb hno=>hE.same b hb (by rintro⟨j,o,hm,hj,hbo⟩;exact hno j o (.inl hm) hj hbo))
  (fun j o b hDj hj hbo=>by
   cases hx:idx new j with
   |some p=>
    obtain⟨o',h1,h2,h3⟩:=hRs j p hx;rw[h2]at hj;cases hj;rw[h3,MZ]at hbo;rcases hE.own b ⟨p,o',by rw[C6];exact h1,hbo⟩with⟨i,oi,hm,hi,hbi⟩ | hge
    ·exact .inl ⟨i,oi,.inl hm,hi,hbi⟩
    ·exact .inr hge
   |none=>
    rcases hDj with hm|⟨p,hp⟩
    ·rw[hold j hx hm]at hj;cases hj;simp[D8,O5]at hbo
    ·rw[hx]at hp;cases hp)
  (fun i j oi oj b hDi hDj hi hj hbi hbj=>by
   have key:∀i oi,(i∈ids \/ ∃p,idx new i=some p)->A1 R' i=some oi->D8 (Sm new rho rho' i) oi b->∃p o',idx new i=some p/\A1 (objRegs objs') p=some o' /\ D8 (rho' p) o' b:=by
    intro i oi hDi hi hbi;cases hx:idx new i with
    |some p=>obtain⟨o',h1,h2,h3⟩:=hRs i p hx;rw[h2]at hi;cases hi;rw[h3,MZ]at hbi;exact⟨p,o',rfl,by rw[C6];exact h1,hbi⟩
    |none=>
     rcases hDi with hm|⟨p,hp⟩
     ·rw[hold i hx hm]at hi;cases hi;simp[D8,O5]at hbi
     ·rw[hx]at hp;cases hp
   obtain⟨p,o1,h1,h2,h3⟩:=key i oi hDi hi hbi;obtain⟨q,o2,h4,h5,h6⟩:=key j oj hDj hj hbj
   have:=hE.hp.sep p q o1 o2 b h2 h5 h3 h6
   subst this;have e1:=I6 h1;have e2:=I6 h4;rw[e1]at e2;cases e2;rfl)
  (fun i oi b off v hDi hi hbi hnp hc=>by
   obtain⟨h1,h2⟩:=hE.keep b off v hnp hc;refine⟨h1,fun j o hDj hj hbo hp=>h2 ?_⟩;cases hx:idx new j with
   |some p=>obtain⟨o',h4,h5,h6⟩:=hRs j p hx;rw[h5]at hj;cases hj;rw[h6,MZ]at hbo;exact .inr ⟨p,o',by rw[C6];exact h4,hbo,(VB off).1 hp⟩
   |none=>
    rcases hDj with hm|⟨p,hp'⟩
    ·rw[hold j hx hm]at hj;cases hj;simp[D8,O5]at hbo
    ·rw[hx]at hp';cases hp')
  (fun hk j o hDj hj=>by
   cases hx:idx new j with
   |some p=>obtain⟨o',h4,h5,h6⟩:=hRs j p hx;rw[h5]at hj;cases hj;rw[h6];exact (hE.hp.holds p o' (by rw[C6];exact h4)).un hk2 hlb (fun b _=>rfl)
   |none=>
    rcases hDj with hm|⟨p,hp'⟩
    ·rw[hold j hx hm]at hj;cases hj;trivial
    ·rw[hx]at hp';cases hp') hE.ext
 exact⟨g1,⟨g2,hlive⟩,hk2,hlb⟩
end
end Go.AM
namespace Go.AM
section
variable {P:Program}{C:Ctx}{st t:St}{a:Act}{w:World}{rho:Nat->Value}
theorem semUp.refl {st:St}{K:St->Prop}(h:K st):semUp st K:=fun C a w rho hs=>⟨st,rho,h,fun _ _ h=>h,hs⟩
theorem semUp.trans {st:St}{K:St->Prop}(h:semUp st fun t=>semUp t K):semUp st K:=fun C a w rho hs=>
 let ⟨st',rho',h1,hp,h2⟩:=h C a w rho hs
 let ⟨st2,rho2,h3,hp',h4⟩:=h1 C a w rho' h2
 ⟨st2,rho2,h3,fun b o hx=>hp b o (hp' b o hx),h4⟩
theorem semUp.mono {st:St}{K K' : St->Prop}(hk:∀t,K t->K' t)(h:semUp st K):semUp st K':=fun C a w rho hs=>
 let ⟨st',rho',h1,h2⟩:=h C a w rho hs
 ⟨st',rho',hk _ h1,h2⟩
theorem Sat.slot (h:Sat C st a w rho){t:Nat}{x:AV}(hx:RS C st w rho (a.tmps.getD t undef) x):Sat C ⟨ins t x st.env,st.regs⟩ a w rho:=by
 refine⟨h.toSatE,fun i=>?_,h.pin,h.marks⟩;show RepA w _ _ rho _ (get (ins t x st.env) i);rw[Qu];split
 ·rename_i e;subst e;exact hx
 ·exact h.env i
theorem semUp.bool {st:St}{t:Nat}{b:Bool}{K:St->Prop}(hg:get st.env t=.p (.bb b))(h:K ⟨ins t (.p (.v (.bool b))) st.env,st.regs⟩):semUp st K:=fun C a w rho hs=>by
 refine⟨_,rho,h,fun _ _ h=>h,hs.slot ?_⟩
 have:=hs.env t
 rw[hg]at this;rw[this.toP.toBool];exact .p _ _ (.v _)
theorem semUp.nil {st:St}{t k n:Nat}{f:Nat->List PV}{K:St->Prop}(hg:get st.env t=.p (.sl false k n f))
 (h1:n=0->K ⟨ins t (.p (.v (.slice none 0 0))) st.env,st.regs⟩) (h2:K ⟨ins t (.p (.sl true k n f)) st.env,st.regs⟩):semUp st K:=fun C a w rho hs=>by
 have:=hs.env t
 rw[hg]at this
 have:=this.toP
 generalize hv:a.tmps.getD t undef=v at this;cases this with
 |slnil=>exact⟨_,rho,h1 rfl,fun _ _ h=>h,hs.slot (by rw[hv];exact .p _ _ (.v _))⟩
 |sl _ b off cap _ _ _ c hn hk hc h sp hsp=>exact⟨_,rho,h2,fun _ _ h=>h,hs.slot (by rw[hv];exact .p _ _ (.sl true b off cap k n f c hn hk hc h sp hsp))⟩
theorem Sn (n:Nat)(f:Nat->PV){i:Nat}(hi:i<n):(Vf n f).getD i .top=.p (f i):=by simp[Vf,List.getD_eq_getElem?_getD,hi]
theorem Nb (n:Nat)(f:Nat->PV):(Vf n f).length=n:=by simp[Vf]
theorem semUp.swap {st:St}{j:Nat}{o o' : Obj}{K:St->Prop}(hj:A1 st.regs j=some o)(hb:∀v,D8 v o' = D8 v o)(hp:∀off,Gw o' off↔Gw o off)(hy:∀r b,o' ≠ .yld r b)
 (hh:∀{w:World}{Pi:Nat->Nat->Prop}{live:Nat->Prop}{rho:Nat->Value}{v:Value},HoldsO w Pi live rho v o->HoldsO w Pi live rho v o') (hK:K ⟨st.env,ins j o' st.regs⟩):semUp st K:=fun C a w rho hs=>by
 have hget:∀i,A1 (ins j o' st.regs) i=if j=i then some o' else A1 st.regs i:=fun i=>A4 _ _ _ _
 have hlv:∀i,Lv (A1 (ins j o' st.regs)) i↔Lv (A1 st.regs) i:=fun i=>by
  unfold Lv;rw[hget];split
  ·rename_i e;subst e;rw[hj];simp
  ·rfl
 have hpr:∀b off,Prv C.X (A1 (ins j o' st.regs)) rho b off↔Prv C.X (A1 st.regs) rho b off:=fun b off=>by
  unfold Prv;refine or_congr Iff.rfl ⟨?_,?_⟩
  ·rintro⟨i,oi,h1,h2,h3⟩;rw[hget]at h1;split at h1
   ·rename_i e;subst e;cases h1;exact⟨j,o,hj,by rw[<- hb];exact h2,(hp off).1 h3⟩
   ·exact⟨i,oi,h1,h2,h3⟩
  ·rintro⟨i,oi,h1,h2,h3⟩;by_cases e:j=i
   ·subst e;rw[hj]at h1;cases h1;exact⟨j,o',by rw[hget,if_pos rfl],by rw[hb];exact h2,(hp off).2 h3⟩
   ·exact⟨i,oi,by rw[hget,if_neg e];exact h1,h2,h3⟩
 have hk:Keeps w (Prv C.X (A1 st.regs) rho) w (Prv C.X (A1 (ins j o' st.regs)) rho):=fun b off v h1 h2=>⟨h2,fun h=>h1 ((hpr b off).1 h)⟩;have hl:∀i,Lv (A1 st.regs) i->Lv (A1 (ins j o' st.regs)) i/\rho i=rho i:=fun i hi=>⟨(hlv i).2 hi,rfl⟩;refine⟨_,rho,hK,fun b off h=>(hpr b off).1 h,⟨⟨⟨fun i oi hi0=>?_,fun i i' oi oi' b hi hi' hbi hbi'=>?_,fun i oi b off hi0 hbi=>?_,hs.hp.bound⟩,hs.ext,hs.size,hs.same,hs.keep.trans hk,fun b hbo=>?_,fun i r b hi0=>?_⟩,fun t=>(hs.env t).keeps hk hl,fun i hi hli=>hs.pin i hi ((hlv i).1 hli),hs.marks⟩⟩
 ·have hi:A1 (ins j o' st.regs) i=some oi:=hi0;clear hi0;rw[hget]at hi;split at hi
  ·rename_i e;subst e;cases hi;exact hh ((hs.hp.holds j o hj).keeps hk hl fun _ _=>rfl)
  ·exact (hs.hp.holds i oi hi).keeps hk hl fun _ _=>rfl
 ·have own:∀{i:Nat}{oi:Obj}{b:Nat},A1 (ins j o' st.regs) i=some oi->D8 (rho i) oi b->∃o2,A1 st.regs i=some o2/\D8 (rho i) o2 b:=by
   intro i oi b hi hbi;rw[hget]at hi;split at hi
   ·rename_i e;subst e;cases hi;exact⟨o,hj,by rw[<- hb];exact hbi⟩
   ·exact⟨oi,hi,hbi⟩
  obtain⟨o2,h1,h2⟩:=own hi hbi;obtain⟨o3,h3,h4⟩:=own hi' hbi';exact hs.hp.sep i i' o2 o3 b h1 h3 h2 h4
 ·have hi:A1 (ins j o' st.regs) i=some oi:=hi0;clear hi0;rw[hget]at hi;split at hi
  ·rename_i e;subst e;cases hi;exact hs.hp.out j o b off hj (by rw[<- hb];exact hbi)
  ·exact hs.hp.out i oi b off hi hbi
 ·obtain⟨i,oi,hi0,hbi⟩:=hbo;have hi:A1 (ins j o' st.regs) i=some oi:=hi0;clear hi0;rw[hget]at hi;split at hi
  ·rename_i e;subst e;cases hi;exact hs.own b ⟨j,o,hj,by rw[<- hb];exact hbi⟩
  ·exact hs.own b ⟨i,oi,hi,hbi⟩
 ·have hi:A1 (ins j o' st.regs) i=some (.yld r b):=hi0;clear hi0;rw[hget]at hi;split at hi
  ·cases hi;exact absurd rfl (hy r b)
  ·exact hs.yld i r b hi
theorem semUp.toArr {st:St}{j n:Nat}{f:Nat->PV}{K:St->Prop}(hj:A1 st.regs j=some (.cells (Vf n f)))(hK:K ⟨st.env,ins j (.arr n f) st.regs⟩):semUp st K:=
 semUp.swap (o':=.arr n f) hj (fun _=>rfl) (fun _=>Iff.rfl) (fun _ _ h=>by cases h) (fun hh=>by obtain⟨b,c,T,h1,h2,h3,h4⟩:=hh;rw[Nb]at h3 h4;exact⟨b,c,T,h1,h2,h3,fun i hi=>⟨by have:=(h4 i hi).1;rw[Sn n f hi]at this;exact this.toP,(h4 i hi).2⟩⟩) hK
theorem semUp.ofArr {st:St}{j n:Nat}{f:Nat->PV}{K:St->Prop}(hj:A1 st.regs j=some (.arr n f))(hK:K ⟨st.env,ins j (.cells (Vf n f)) st.regs⟩):semUp st K:=
 semUp.swap (o':=.cells (Vf n f)) hj (fun _=>rfl) (fun _=>Iff.rfl) (fun _ _ h=>by cases h) (fun hh=>by obtain⟨b,c,T,h1,h2,h3,h4⟩:=hh;exact⟨b,c,T,h1,h2,by rw[Nb];exact h3,fun i hi=>by rw[Nb]at hi;rw[Sn n f hi];exact⟨.p _ _ (h4 i hi).1,(h4 i hi).2⟩⟩) hK
theorem semUp.vecq {st:St}{j n k:Nat}{e:TypeId}{f g:Nat->List PV}{vw:Bool}{K:St->Prop}(hj:A1 st.regs j=some (.vec e k n f vw))(hq:∀i,i<n->leC (f i) (g i))(hK:K ⟨st.env,ins j (.vec e k n g vw) st.regs⟩):semUp st K:=
 semUp.swap (o':=.vec e k n g vw) hj (fun _=>rfl) (fun _=>by cases vw<;>exact Iff.rfl) (fun _ _ h=>by cases h) (fun hh=>by
  rcases hh with⟨h1,h2⟩ | ⟨b,cap,c,h1,h2,h3,h4,h5,h6,h7⟩
  ·exact .inl ⟨h1,h2⟩
  ·exact .inr ⟨b,cap,c,h1,h2,h3,h4,h5,fun i hi=>by rw[<- (hq i hi).1];exact h6 i hi,fun i q hi hq'=>⟨(h7 i q hi hq').1.leP ((hq i hi).2 q),(h7 i q hi hq').2⟩⟩) hK
theorem Xj (j:Nat)(ps:List PV)(env:Env)(t:Nat):get (US j ps env) t=frzA j ps (get env t):=by
 induction env with
 |nil=>rfl
 |cons p r ih=>
  obtain⟨i,a⟩:=p;simp only[US,get];split
  ·rfl
  ·exact ih
theorem semUp.frz {st:St}{j:Nat}{ps:List PV}{K:St->Prop}(hj:A1 st.regs j=some (.cells (ps.map .p)))(hK:K ⟨US j ps st.env,ins j .dead st.regs⟩):semUp st K:=fun C a w rho hs=>by
 have hget:∀i,A1 (ins j .dead st.regs) i=if j=i then some .dead else A1 st.regs i:=fun i=>A4 _ _ _ _
 obtain⟨h1,hk⟩:=hs.step (D:=(· = j)) (R':=ins j .dead st.regs) (rho':=rho) (w':=w)
  (fun i hi=>by rw[hget,if_neg (fun e=>hi e.symm)])
  (fun i hi=>⟨by
   unfold Lv at hi⊢;rw[hget];split
   ·rfl
   ·exact hi,rfl⟩) (Nat.le_refl _)
  (fun i hi hl=>by
   unfold Lv at hi hl;rw[hget]at hl;split at hl
   ·rename_i e;subst e;rw[hj]at hi;exact absurd rfl hi
   ·exact absurd hl hi)
  (fun i r b hi=>by subst hi;rw[hget,if_pos rfl];simp)
  (fun _ _ _=>rfl)
  (fun i o b hi ho hb=>by subst hi;rw[hget,if_pos rfl]at ho;cases ho;cases hb)
  (fun i i' oi oj b hi hi' _ _ _ _=>hi.trans hi'.symm)
  (fun i oi b off v hi ho hb hp hc=>⟨hc,fun i' o hi' ho' hb'=>by subst hi';rw[hget,if_pos rfl]at ho';cases ho';cases hb'⟩)
  (fun _ i o hi ho=>by subst hi;rw[hget,if_pos rfl]at ho;cases ho;trivial)
 have hprv:∀b off,Prv C.X (A1 (ins j .dead st.regs)) rho b off->Prv C.X (A1 st.regs) rho b off:=by
  rintro b off (hX|⟨i,o,hi,hb,hp⟩)
  ·exact .inl hX
  ·rw[hget]at hi;split at hi
   ·cases hi;cases hb
   ·exact .inr ⟨i,o,hi,hb,hp⟩
 refine⟨_,rho,hK,hprv,⟨h1.toSatE,fun t=>?_,h1.pin,h1.marks⟩⟩;show RepA w _ _ rho (a.tmps.getD t undef) (get (US j ps st.env) t);rw[Xj];have he:=h1.env t;have he:RepA w (Prv C.X (A1 (ins j .dead st.regs)) rho) (Lv (A1 (ins j .dead st.regs))) rho (a.tmps.getD t undef) (get st.env t):=he;have ho:=hs.env t;generalize get st.env t=x at he ho⊢;cases x with
 |reg i o=>
  simp only[frzA];split
  ·rename_i e;subst e;generalize a.tmps.getD t undef=v at ho⊢;cases ho with
   |reg _ _ b hl hr=>
    obtain⟨b',c,T,e1,e2,e3,e4⟩:=hs.hp.holds i _ hj;rw[hr]at e1;cases e1;have hsz:c.size=ps.length:=by simpa using e3
    refine .p _ _ (.ptr b o (ps.drop o) (fun q=>c.getD (o+q) undef) (fun q hq=>?_) fun q hq=>?_)
    ·have hlt:o+q<ps.length:=by simp only[List.length_drop]at hq;omega
     refine⟨cell_of_heap e2 (by omega),?_,(e4 (o+q) (by simpa using hlt)).2⟩;rintro (hX|⟨i',o',hi',hb',hp'⟩)
     ·exact hs.hp.out i _ b _ hj (by simp[D8,O5,hr]) hX
     ·rw[hget]at hi';split at hi'
      ·cases hi';cases hb'
      ·rename_i hne;exact hne (hs.hp.sep i i' _ o' b hj hi' (by simp[D8,O5,hr]) hb')
    ·have hlt:o+q<ps.length:=by simp only[List.length_drop]at hq;omega
     have h4:=(e4 (o+q) (by simpa using hlt)).1;have e5:(ps.map AV.p).getD (o+q) .top=.p (ps.getD (o+q) default):=by simp[List.getD_eq_getElem?_getD,hlt]
     rw[e5]at h4;have e6:(ps.drop o).getD q default=ps.getD (o+q) default:=by simp[List.getD_eq_getElem?_getD,List.getElem?_drop]
     rw[e6];exact h4.toP.keeps hk
  ·exact he
 |_=>exact he
theorem Sat.congr {s t:St}(h:Sat C s a w rho)(h1:∀x,get s.env x=get t.env x)(h2:∀j,A1 s.regs j=A1 t.regs j):Sat C t a w rho:=by have e1:get s.env=get t.env:=funext h1;have e2:A1 s.regs=A1 t.regs:=funext h2;obtain⟨⟨g1,g0,g2,g3,g4,g5,g6⟩,g7,g8,g9⟩:=h;rw[e2]at g1 g4 g5 g6 g7 g8;rw[e1]at g7;exact⟨⟨g1,g0,g2,g3,g4,g5,g6⟩,g7,g8,g9⟩
theorem semUp.eqv {s t:St}{K:St->Prop}(h1:∀x,get s.env x=get t.env x)(h2:∀j,A1 s.regs j=A1 t.regs j)(h:K t):semUp s K:=fun C a w rho hs=>
 ⟨t,rho,h,fun b o hp=>by rw[funext h2];exact hp,hs.congr h1 h2⟩
theorem semUp.less {s t:St}{K:St->Prop}(h1:∀x,MR (get t.env x) (get s.env x))(h2:∀j,A1 s.regs j=A1 t.regs j)(h:K t):semUp s K:=fun C a w rho hs=>by
 have hs2:Sat C ⟨s.env,t.regs⟩ a w rho:=hs.congr (fun _=>rfl) h2;refine⟨t,rho,h,fun b o hp=>by rw[funext h2];exact hp,hs2.toSatE,fun x=>?_,hs2.pin,hs2.marks⟩
 have:=hs2.env x
 rcases h1 x with e|e|⟨y,e1,e2⟩
 ·rw[e];exact .top _
 ·rw[e];exact this
 ·rw[e1];rw[show get (St.mk s.env t.regs).env x=_ from e2]at this;exact .p _ _ (this.toP.leP (.inr (.inr (.inr (.inl ⟨y,rfl,rfl⟩)))))
theorem YH {ids:List (Nat×Nat)}{j i:Nat}(h:lk ids j=some i):(j,i)∈ids:=by
 induction ids with
 |nil=>simp[lk]at h
 |cons p r ih=>
  obtain⟨x,y⟩:=p;simp only[lk]at h;split at h
  ·rename_i e;cases h;subst e;simp
  ·exact List.mem_cons_of_mem _ (ih h)
theorem Ae4 {ids:List (Nat×Nat)}(hn:F0 (ids.map (·.2))=true){j j' i:Nat}(h:lk ids j=some i)(h' : lk ids j' = some i):j=j':=by
 have hd:=AD hn;obtain⟨p,hp⟩:=List.mem_iff_getElem?.1 (YH h);obtain⟨q,hq⟩:=List.mem_iff_getElem?.1 (YH h')
 have:p=q:=Dk (j:=i) hd (by rw[List.getElem?_map,hp];rfl) (by rw[List.getElem?_map,hq];rfl)
 subst this;rw[hp]at hq;cases hq;rfl
theorem Ae5 {ids:List (Nat×Nat)}(hp:Tn ids=true){j i:Nat}(h:lk ids j=some i)(hj:j<1000):i=j:=by
 induction ids with
 |nil=>simp[lk]at h
 |cons p r ih=>
  obtain⟨x,y⟩:=p;simp only[Tn,Bool.and_eq_true,Bool.or_eq_true,beq_iff_eq,decide_eq_true_eq]at hp;simp only[lk]at h;split at h
  ·rename_i e;cases h;omega
  ·exact ih hp.2 h
theorem Nc {regs:C4}{j:Nat}{o:Obj}(h:A1 regs j=some o):(j,o)∈regs:=by
 induction regs with
 |nil=>simp[A1]at h
 |cons p r ih=>
  obtain⟨x,y⟩:=p;simp only[A1]at h;split at h
  ·rename_i e;cases h;subst e;simp
  ·exact List.mem_cons_of_mem _ (ih h)
theorem Xk {regs:C4}{j:Nat}(h:j∈regs.map (·.1)):(A1 regs j).isSome=true:=by
 induction regs with
 |nil=>simp at h
 |cons p r ih=>
  obtain⟨x,y⟩:=p;simp only[A1];split
  ·rfl
  ·rename_i e;simp only[List.map_cons,List.mem_cons]at h;rcases h with h|h
   ·exact absurd h.symm e
   ·exact ih h
theorem Dm {regs:C4}{ids:List (Nat×Nat)}:∀{r:C4},OA regs ids r->∀{j:Nat}{p:Obj},A1 r j=some p ->
 (∃i o,lk ids j=some i/\A1 regs i=some o/\leO regs ids o p) \/ (lk ids j=none/\∃e k f vw,p=.vec e k 0 f vw)
 |[],_,j,p,h=>by simp[A1]at h
 |(x,y)::r,hl,j,p,h=>by
  simp only[A1]at h;split at h
  ·rename_i e;cases h;subst e;exact hl.1
  ·exact Dm hl.2 h
theorem OW {regs:C4}{ids:List (Nat×Nat)}{env:Env}:∀{r:Env},Ve regs ids env r->∀(t:Nat),(∃b,(t,b)∈r/\get r t=b/\leA regs ids (get env t) b/\∀i∈Gy (get env t) b,i∈WU env r) \/ get r t=.top
 |[],_,t=>.inr rfl
 |(x,y)::r,hl,t=>by
  simp only[get];split
  ·rename_i e;subst e;exact .inl ⟨y,by simp,rfl,hl.1,fun i hi=>by simp only[WU];exact List.mem_append_left _ hi⟩
  ·rcases OW hl.2 t with⟨b,h1,h2,h3,h4⟩ | h
   ·exact .inl ⟨b,List.mem_cons_of_mem _ h1,h2,h3,fun i hi=>by simp only[WU];exact List.mem_append_right _ (h4 i hi)⟩
   ·exact .inr h
theorem Md {ids:List (Nat×Nat)}{js:List Nat}:∀{r:C4},Ia ids js r=true->∀{j e k n f i},(j,Obj.vec e k n f false)∈r->lk ids j=some i->i ∉ js
 |[],_,j,e,k,n,f,i,h,_=>by simp at h
 |p::r,hs,j,e,k,n,f,i,h,hi=>by
  rcases List.mem_cons.1 h with h|h
  ·subst h;simp only[Ia,hi,Bool.and_eq_true,Bool.not_eq_true',List.contains_eq_mem,decide_eq_false_iff_not]at hs;exact hs.1
  ·refine Md (r:=r) ?_ h hi;obtain⟨x,o⟩:=p;cases o with
   |vec _ _ _ _ b=>cases b<;>simp only[Ia,Bool.and_eq_true]at hs<;>first|exact hs.2|exact hs
   |_=>exact hs
theorem Ga {regs:C4}{ids:List (Nat×Nat)}:∀{l m:List AV},leL regs ids l m->l.length=m.length/\∀i,i<l.length->leA regs ids (l.getD i .top) (m.getD i .top)/\∀x∈Gy (l.getD i .top) (m.getD i .top),x∈Jh l m
 |l,[],h=>by unfold leL at h;subst h;exact⟨rfl,fun i hi=>absurd hi (by simp)⟩
 |l,y::m,h=>by
  unfold leL at h;obtain⟨x,r,rfl,h1,h2⟩:=h;obtain⟨h3,h4⟩:=Ga h2;refine⟨by simp[h3],fun i hi=>?_⟩;cases i with
  |zero=>exact⟨by simpa using h1,fun z hz=>by unfold Jh;exact List.mem_append_left _ (by simpa using hz)⟩
  |succ i=>obtain⟨h5,h6⟩:=h4 i (by simpa using hi);exact⟨by simpa using h5,fun z hz=>by unfold Jh;exact List.mem_append_right _ (h6 z (by simpa using hz))⟩
theorem Gb {js:List Nat}:∀{m:List AV},inL js m=true->∀i,i<m.length->inA js (m.getD i .top)=true
 |[],_,i,hi=>absurd hi (by simp)
 |y::m,h,i,hi=>by
  unfold inL at h;rw[Bool.and_eq_true]at h;cases i with
  |zero=>simpa using h.1
  |succ i=>simpa using Gb h.2 i (by simpa using hi)
section
variable {Pi Pi' : Nat->Nat->Prop}{live live' : Nat->Prop}{rho' : Nat->Value}{regs:C4}{ids:List (Nat×Nat)}{js:List Nat}
theorem RepA.viewP (hk:Keeps w Pi w Pi'){seenP:Nat->Prop}
 (hv:∀i,seenP i->∀e k n f vw base n' cap,A1 regs i=some (.vec e k n f vw)->rho i=.slice base n' cap->n' = n/\∀m,m<=n->RepP w Pi' (.slice base m cap) (.sl false k m f))
 {v:Value}{a:AV}(h:RepA w Pi live rho v a) {x y:PV}(hx:AM.viewP regs a=some x) (hs:∀i∈Gy a (.p y),seenP i):RepP w Pi' v x:=by
 cases h with
 |p _ z hz=>simp only[AM.viewP,Option.some.injEq]at hx;subst hx;exact hz.keeps hk
 |vec j base n' cap hl hr=>
  simp only[AM.viewP]at hx;split at hx
  ·rename_i e k n f vw hj;cases hx;obtain⟨rfl,h2⟩:=hv j (hs j (by simp[Gy])) _ _ _ _ _ _ _ _ hj hr;exact h2 _ (Nat.le_refl _)
  ·cases hx
 |vecp j m base n' cap hl hr hm=>
  simp only[AM.viewP]at hx;split at hx
  ·rename_i e k n f vw hj;cases hx;obtain⟨rfl,h2⟩:=hv j (hs j (by simp[Gy])) _ _ _ _ _ _ _ _ hj hr;rw[Nat.min_eq_left hm];exact h2 _ hm
  ·cases hx
 |clo f x' y' l r hx' hy' hl hr=>
  have gen:(match Oq l,Oq r with
   |some a,some b=>some (PV.fn f a b)
   |_,_=>none)=some x->RepP w Pi' (.func (.func f) x' y') x:=by
   intro he;split at he
   ·rename_i a' b' ha hb;cases he;exact (RepA.clo_fn ha hb (.clo f x' y' l r hx' hy' hl hr)).keeps hk
   ·cases he
  cases l with
  |cons _ _=>exact gen hx
  |nil=>
   cases r with
   |cons _ _=>exact gen hx
   |nil=>simp only[AM.viewP,Option.some.injEq]at hx;subst hx;have e1:x' = #[]:=Array.size_eq_zero_iff.1 (by simpa using hx');have e2:y' = #[]:=Array.size_eq_zero_iff.1 (by simpa using hy');subst e1;subst e2;exact .v _
 |_=>simp[AM.viewP]at hx
theorem RepA.le (hk:Keeps w Pi w Pi')(hlk:∀j i,lk ids j=some i->rho' j=rho i)(hnil:∀j,lk ids j=none->rho' j=.slice none 0 0)(hjs:∀j,js.contains j=true->live' j){seenP:Nat->Prop}
 (hv:∀i,seenP i->∀e k n f vw base n' cap,A1 regs i=some (.vec e k n f vw)->rho i=.slice base n' cap->n' = n/\∀m,m<=n->RepP w Pi' (.slice base m cap) (.sl false k m f))
 {v:Value}{a:AV}(h:RepA w Pi live rho v a):∀{b:AV},leA regs ids a b->inA js b=true->(∀i∈Gy a b,seenP i)->RepA w Pi' live' rho' v b:=by
 induction h with
 |p v x h=>
  intro b' hle hin hs;cases b' with
  |top=>exact .top _
  |p y'=>unfold leA at hle;obtain⟨x',hx',hl'⟩:=hle;exact .p _ _ (((RepA.p (live:=live) v x h).viewP hk hv hx' hs).leP hl')
  |vec j'=>
   unfold leA at hle;rcases hle with⟨i',_,he⟩ | ⟨hn,he⟩
   ·cases he
   ·cases he;rw[h.toV];exact .vec j' none 0 0 (hjs j' (by unfold inA at hin;exact hin)) (hnil j' hn)
  |_=>simp[leA]at hle
 |reg j off b hl h=>
  intro b' hle hin hs;cases b' with
  |top=>exact .top _
  |p y'=>unfold leA at hle;obtain⟨x',hx',hl'⟩:=hle;exact .p _ _ (((RepA.reg j off b hl h).viewP hk hv hx' hs).leP hl')
  |reg j' off'=>unfold leA at hle;obtain⟨i',hi',he⟩:=hle;cases he;exact .reg j' off b (hjs j' (by unfold inA at hin;exact hin)) ((hlk _ _ hi').trans h)
  |_=>simp[leA]at hle
 |vec j base n cap hl h=>
  intro b' hle hin hs;cases b' with
  |top=>exact .top _
  |p y'=>unfold leA at hle;obtain⟨x',hx',hl'⟩:=hle;exact .p _ _ (((RepA.vec j base n cap hl h).viewP hk hv hx' hs).leP hl')
  |vec j'=>
   unfold leA at hle;rcases hle with⟨i',hi',he⟩ | ⟨hn,he⟩
   ·cases he;exact .vec j' base n cap (hjs j' (by unfold inA at hin;exact hin)) ((hlk _ _ hi').trans h)
   ·cases he
  |_=>simp[leA]at hle
 |vecp j m base n cap hl h hm=>
  intro b' hle hin hs;cases b' with
  |top=>exact .top _
  |p y'=>unfold leA at hle;obtain⟨x',hx',hl'⟩:=hle;exact .p _ _ (((RepA.vecp j m base n cap hl h hm).viewP hk hv hx' hs).leP hl')
  |vecp j' m'=>unfold leA at hle;obtain⟨i',hi',he⟩:=hle;cases he;exact .vecp j' m base n cap (hjs j' (by unfold inA at hin;exact hin)) ((hlk _ _ hi').trans h) hm
  |_=>simp[leA]at hle
 |elt j k i off b n cap hl h=>
  intro b' hle hin hs;cases b' with
  |top=>exact .top _
  |p y'=>unfold leA at hle;obtain⟨x',hx',hl'⟩:=hle;exact .p _ _ (((RepA.elt j k i off b n cap hl h).viewP hk hv hx' hs).leP hl')
  |elt j' k' i2 off'=>unfold leA at hle;obtain⟨i',hi',he⟩:=hle;cases he;exact .elt j' k i off b n cap (hjs j' (by unfold inA at hin;exact hin)) ((hlk _ _ hi').trans h)
  |_=>simp[leA]at hle
 |mref j r hl h=>
  intro b' hle hin hs;cases b' with
  |top=>exact .top _
  |p y'=>unfold leA at hle;obtain⟨x',hx',hl'⟩:=hle;exact .p _ _ (((RepA.mref j r hl h).viewP hk hv hx' hs).leP hl')
  |mref j'=>unfold leA at hle;obtain⟨i',hi',he⟩:=hle;cases he;exact .mref j' r (hjs j' (by unfold inA at hin;exact hin)) ((hlk _ _ hi').trans h)
  |_=>simp[leA]at hle
 |clo f x y a b hx hy ha hb iha ihb=>
  intro b' hle hin hs;cases b' with
  |top=>exact .top _
  |p y'=>unfold leA at hle;obtain⟨x',hx',hl'⟩:=hle;exact .p _ _ (((RepA.clo f x y a b hx hy ha hb).viewP hk hv hx' hs).leP hl')
  |clo f' x2 y2=>
   unfold leA at hle;obtain⟨x3,y3,he,h1,h2⟩:=hle;cases he;unfold inA at hin;rw[Bool.and_eq_true]at hin;obtain⟨l1,g1⟩:=Ga h1;obtain⟨l2,g2⟩:=Ga h2;exact .clo f x y x2 y2 (hx.trans l1) (hy.trans l2)
    (fun i hi=>iha i (by omega) (g1 i (by omega)).1 (Gb hin.1 i hi) fun z hz=>hs z (by unfold Gy;exact List.mem_append_left _ ((g1 i (by omega)).2 z hz)))
    fun i hi=>ihb i (by omega) (g2 i (by omega)).1 (Gb hin.2 i hi) fun z hz=>hs z (by unfold Gy;exact List.mem_append_right _ ((g2 i (by omega)).2 z hz))
  |_=>simp[leA]at hle
 |tup x a hx ha ih=>
  intro b' hle hin hs;cases b' with
  |top=>exact .top _
  |p y'=>unfold leA at hle;obtain⟨x',hx',hl'⟩:=hle;exact .p _ _ (((RepA.tup x a hx ha).viewP hk hv hx' hs).leP hl')
  |tup l2=>unfold leA at hle;obtain⟨l3,he,h1'⟩:=hle;cases he;unfold inA at hin;obtain⟨l1,g1⟩:=Ga h1';exact .tup x l2 (hx.trans l1) fun i hi=>ih i (by omega) (g1 i (by omega)).1 (Gb hin i hi) fun z hz=>hs z (by unfold Gy;exact (g1 i (by omega)).2 z hz)
  |_=>simp[leA]at hle
 |agr x a hx h1 ha ih=>
  intro b' hle hin hs;cases b' with
  |top=>exact .top _
  |p y'=>unfold leA at hle;obtain⟨x',hx',hl'⟩:=hle;exact .p _ _ (((RepA.agr x a hx h1 ha).viewP hk hv hx' hs).leP hl')
  |agr l2=>unfold leA at hle;obtain⟨l3,he,h1'⟩:=hle;cases he;unfold inA at hin;obtain⟨l1,g1⟩:=Ga h1';exact .agr x l2 (hx.trans l1) (fun i hi=>h1 i (by omega)) fun i hi=>ih i (by omega) (g1 i (by omega)).1 (Gb hin i hi) fun z hz=>hs z (by unfold Gy;exact (g1 i (by omega)).2 z hz)
  |_=>simp[leA]at hle
 |yf j l hl h=>
  intro b' hle hin hs;cases b' with
  |top=>exact .top _
  |p y'=>unfold leA at hle;obtain⟨x',hx',hl'⟩:=hle;exact .p _ _ (((RepA.yf j l hl h).viewP hk hv hx' hs).leP hl')
  |yf j'=>unfold leA at hle;obtain⟨i',hi',he⟩:=hle;cases he;exact .yf j' l (hjs j' (by unfold inA at hin;exact hin)) ((hlk _ _ hi').trans h)
  |_=>simp[leA]at hle
 |top v=>
  intro b' hle hin hs;cases b' with
  |top=>exact .top _
  |p y'=>unfold leA at hle;obtain⟨x',hx',hl'⟩:=hle;exact .p _ _ (((RepA.top (live:=live) v).viewP hk hv hx' hs).leP hl')
  |_=>simp[leA]at hle
end
def UT (ids:List (Nat×Nat))(rho:Nat->Value)(j:Nat):Value:=match lk ids j with
 |some i=>rho i
 |none=>.slice none 0 0
theorem Zw {regs:C4}{ids:List (Nat×Nat)}{o p:Obj}(h:leO regs ids o p){v:Value}{b:Nat}(hb:D8 v p b):D8 v o b/\∀off,Gw p off->Gw o off:=by
 cases p with
 |cells cs=>obtain⟨cs',rfl,_⟩:=h;exact⟨hb,fun _ h=>h⟩
 |vec e k n f vw=>
  obtain⟨g,vw',rfl,h1,h2⟩:=h;refine⟨hb,fun off hp=>?_⟩;cases vw'
  ·trivial
  ·rw[h2 rfl]at hp;exact hp
 |map es=>subst h;exact⟨hb,fun _ h=>h⟩
 |arr n f=>obtain⟨g,rfl,_⟩:=h;exact⟨hb,fun _ h=>h⟩
 |fam e n jr x=>obtain⟨_,_,rfl,_⟩:=h;exact⟨hb,fun _ h=>h⟩
 |rows n g=>obtain⟨g',rfl,h1⟩:=h;obtain⟨rv,he,i,hi,hb⟩:=hb;exact⟨⟨rv,he,i,hi,by rw[h1 i hi];exact hb⟩,fun _ _=>trivial⟩
 |_=>simp[D8,O5]at hb
theorem Sat.le (h:Sat C st a w rho){ids:List (Nat×Nat)}(hle:Le ids st t):Sat C t a w (UT ids rho)/\∀b off,Prv C.X (A1 t.regs) (UT ids rho) b off->Prv C.X (A1 st.regs) rho b off:=by
 obtain⟨⟨hwf,hnd,hpin,hpn,hseen⟩,hE,hR⟩:=hle;have hlk:∀j i,lk ids j=some i->UT ids rho j=rho i:=fun j i hj=>by simp[UT,hj]
 have hnil:∀j,lk ids j=none->UT ids rho j=.slice none 0 0:=fun j hj=>by simp[UT,hj]
 simp only[wf,Bool.and_eq_true,List.all_eq_true]at hwf;obtain⟨⟨⟨_,_⟩,hwe⟩,hwr⟩:=hwf;have hjs:∀j,(t.regs.map (·.1)).contains j=true->Lv (A1 t.regs) j:=fun j hj=>Xk (by simpa using hj);have hown:∀j p b,A1 t.regs j=some p->D8 (UT ids rho j) p b->∃i o,lk ids j=some i/\A1 st.regs i=some o/\D8 (rho i) o b/\leO st.regs ids o p/\∀off,Gw p off->Gw o off:=by
  intro j p b hj hb;rcases Dm hR hj with⟨i,o,h1,h2,h3⟩ | ⟨h1,e,k,f,vw,rfl⟩
  ·rw[hlk j i h1]at hb;obtain⟨h4,h5⟩:=Zw h3 hb;exact⟨i,o,h1,h2,h4,h3,h5⟩
  ·rw[hnil j h1]at hb;simp[D8,O5]at hb
 have hpi:∀b off,Prv C.X (A1 t.regs) (UT ids rho) b off->Prv C.X (A1 st.regs) rho b off:=by
  rintro b off (hX|⟨j,p,hj,hb,hp⟩)
  ·exact .inl hX
  ·obtain⟨i,o,_,h2,h3,_,h5⟩:=hown j p b hj hb;exact .inr ⟨i,o,h2,h3,h5 off hp⟩
 have hk:Keeps w (Prv C.X (A1 st.regs) rho) w (Prv C.X (A1 t.regs) (UT ids rho)):=fun b o v hp hc=>⟨hc,fun hp'=>hp (hpi b o hp')⟩;have hv:∀i,i∈WU st.env t.env++Gz ids st.regs t.regs->∀e k n f vw base n' cap,A1 st.regs i=some (.vec e k n f vw)->rho i=.slice base n' cap->n' = n/\∀m,m<=n->RepP w (Prv C.X (A1 t.regs) (UT ids rho)) (.slice base m cap) (.sl false k m f):=by
  intro i hi e k n f vw base n' cap hri hrho;have hh:=h.hp.holds i _ hri;rw[hrho]at hh;rcases hh with⟨he,rfl⟩ | ⟨b,cap',c,he,h1,h2,h3,h4,h5,h6⟩
  ·cases he;refine⟨rfl,fun m hm=>?_⟩;obtain rfl:m=0:=by omega
   exact .slnil k f
  ·cases he;refine⟨rfl,fun m hm=>?_⟩;refine .sl false b 0 cap k m f (fun i j=>c.getD (i*k+j) undef) (by omega) (fun i hi=>h5 i (by omega)) (fun x y hx hy=>?_) (fun x y hx hy=>((h6 x y (by omega) hy).1).keeps hk) none (fun _=>rfl);have hlt:=H2 (show x<n by omega) hy;have hle' : n*k<=c.size:=by rw[h3];exact Nat.mul_le_mul_right k h2
   rw[Nat.zero_add];refine⟨cell_of_heap h1 (by omega),?_,(h6 x y (by omega) hy).2⟩;rintro (hX|⟨j,p,hj,hb,hp⟩)
   ·exact h.hp.out i _ b _ hri (by simp[D8,O5,hrho]) hX
   ·obtain⟨i',o,h7,h8,h9,h10,h11⟩:=hown j p b hj hb
    have:=h.hp.sep i' i o _ b h8 hri h9 (by simp[D8,O5,hrho])
    subst this;rw[hri]at h8;cases h8;cases p with
    |vec e2 k2 n2 f2 vw2=>
     obtain⟨g,vw',he,h12,h13⟩:=h10;cases he;cases vw2
     ·exact Md hseen (Nc hj) h7 hi
     ·simp only[Gw]at hp;omega
    |cells cs=>obtain⟨cs',he,_⟩:=h10;cases he
    |map es=>cases h10
    |arr n f=>obtain⟨g,he,_⟩:=h10;cases he
    |ghost cs=>obtain⟨cs',he,_⟩:=h10;cases he
    |yld r b=>cases h10
    |fam e n jr x=>obtain⟨_,_,he,_⟩:=h10;cases he
    |rows n g=>obtain⟨_,he,_⟩:=h10;cases he
    |dead=>simp[D8,O5]at hb
 have hA:∀{v:Value}{x:AV},RS C st w rho v x->∀{y:AV},leA st.regs ids x y->inA (t.regs.map (·.1)) y=true->(∀i∈Gy x y,i∈WU st.env t.env++Gz ids st.regs t.regs)->RepA w (Prv C.X (A1 t.regs) (UT ids rho)) (Lv (A1 t.regs)) (UT ids rho) v y:=
  fun hx y hle hin hs=>hx.le (live':=Lv (A1 t.regs)) hk hlk hnil hjs hv hle hin hs
 have hseenR:∀{r:C4}{j i:Nat}{cs cs' : List AV},(∀(q:Nat) (p:Obj),(q,p)∈r->(q,p)∈t.regs)->lk ids j=some i->((j,Obj.cells cs)∈r/\A1 st.regs i=some (.cells cs') \/ (j,Obj.ghost cs)∈r/\A1 st.regs i=some (.ghost cs'))->∀x∈Jh cs' cs,x∈Gz ids st.regs r:=by
  intro r
  induction r with
  |nil=>intro j i cs cs' _ _ h;simp at h
  |cons p r ih=>
   intro j i cs cs' hsub hi hm x hx;obtain⟨q,p⟩:=p;have hrec:((j,Obj.cells cs)∈r/\A1 st.regs i=some (.cells cs') \/ (j,Obj.ghost cs)∈r/\A1 st.regs i=some (.ghost cs'))->x∈Gz ids st.regs r:=fun hm'=>ih (fun q p hqp=>hsub q p (List.mem_cons_of_mem _ hqp)) hi hm' x hx;rcases hm with⟨hm,hr⟩ | ⟨hm,hr⟩
   ·rcases List.mem_cons.1 hm with he|hm
    ·cases he;simp only[Gz,hi,hr];exact List.mem_append_left _ hx
    ·have:=hrec (.inl ⟨hm,hr⟩)
     cases p<;>simp only[Gz]<;>first|exact List.mem_append_right _ this|exact this
   ·rcases List.mem_cons.1 hm with he|hm
    ·cases he;simp only[Gz,hi,hr];exact List.mem_append_left _ hx
    ·have:=hrec (.inr ⟨hm,hr⟩)
     cases p<;>simp only[Gz]<;>first|exact List.mem_append_right _ this|exact this
 refine⟨⟨⟨⟨?_,?_,?_,fun b off hX=>h.hp.bound b off hX⟩,h.ext,h.size,h.same,h.keep.trans hk,?_,?_⟩,?_,?_,h.marks⟩,hpi⟩
 ·intro j p hj;rcases Dm hR hj with⟨i,o,h1,h2,h3⟩ | ⟨h1,e,k,f,vw,rfl⟩
  ·rw[hlk j i h1];have hh:=h.hp.holds i o h2;have hmem:=Nc hj;have hin:=hwr _ hmem;cases p with
   |cells cs=>obtain⟨cs',rfl,hl⟩:=h3;obtain⟨l1,g1⟩:=Ga hl;obtain⟨b,c,T,hb,h4,h5,h6⟩:=hh;refine⟨b,c,T,hb,h4,h5.trans l1,fun q hq=>⟨?_,(h6 q (by omega)).2⟩⟩;refine hA (h6 q (by omega)).1 (g1 q (by omega)).1 (Gb hin q hq) fun z hz=>List.mem_append_right _ ?_;exact hseenR (fun _ _ h=>h) h1 (.inl ⟨hmem,h2⟩) z ((g1 q (by omega)).2 z hz)
   |vec e k n f vw=>
    obtain⟨g,vw',rfl,h4,h5⟩:=h3;rcases hh with hn|⟨b,cap,c,hb,h6,h7,h8,h9,h10,h11⟩
    ·exact .inl hn
    ·exact .inr ⟨b,cap,c,hb,h6,h7,h8,h9,fun q hq=>by rw[<- h4 q hq];exact h10 q hq,fun q r hq hr=>by rw[<- h4 q hq];exact⟨(h11 q r hq hr).1.keeps hk,(h11 q r hq hr).2⟩⟩
   |map es=>have h3:o=.map es:=h3;subst h3;obtain⟨b,ents,clock,hb,h4,h5,h6⟩:=hh;exact⟨b,ents,clock,hb,h4,h5,fun q hq=>⟨(h6 q hq).1.keeps hk,(h6 q hq).2.keeps hk⟩⟩
   |arr n f=>obtain⟨g,rfl,h7⟩:=h3;obtain⟨b,c,T,hb,h4,h5,h6⟩:=hh;exact⟨b,c,T,hb,h4,h5,fun q hq=>by rw[<- h7 q hq];exact⟨(h6 q hq).1.keeps hk,(h6 q hq).2⟩⟩
   |ghost cs=>obtain⟨cs',rfl,hl⟩:=h3;obtain⟨l1,g1⟩:=Ga hl;obtain⟨vs,hb,h5,h6⟩:=hh;refine⟨vs,hb,h5.trans l1,fun q hq=>?_⟩;refine hA (h6 q (by omega)) (g1 q (by omega)).1 (Gb hin q hq) fun z hz=>List.mem_append_right _ ?_;exact hseenR (fun _ _ h=>h) h1 (.inr ⟨hmem,h2⟩) z ((g1 q (by omega)).2 z hz)
   |yld r b=>have h3:o=.yld r b:=h3;subst h3;exact hh
   |fam e n jr x=>
    obtain⟨jr',x',rfl,h4,h5⟩:=h3;obtain⟨rv,g1,g2,hv2⟩:=hh;simp only[inO,Bool.and_eq_true]at hin;refine⟨rv,hjs jr hin.1,(hlk _ _ h4).trans g2,?_⟩;rcases hv2 with hv2|⟨b,cap,c,hb,k1,k2,k3,k4,k5,k6⟩
    ·exact .inl hv2
    ·refine .inr ⟨b,cap,c,hb,k1,k2,k3,k4,?_,?_⟩
     ·intro q hq;refine⟨(k5 q hq).1,fun hx=>(k5 q hq).2 ?_⟩;cases x with
      |none=>subst h5;exact hx
      |some y=>obtain⟨a',rfl,_⟩:=h5;exact hx
     ·cases x with
      |none=>trivial
      |some q=>obtain⟨i,a⟩:=q;obtain⟨a',rfl,h6,h7⟩:=h5;refine hA k6 h7 hin.2 fun z hz=>?_;cases a<;>cases a'<;>first|(simp[nov]at h6;done)|(unfold Gy at hz;simp at hz)
   |rows n g=>obtain⟨g',rfl,h4⟩:=h3;obtain⟨rv,hb,k1,k2⟩:=hh;refine⟨rv,hb,fun q hq=>by rw[<- h4 q hq];exact (k1 q hq).keeps' hk fun _ _=>rfl,fun q l b hq hl h8 h9=>?_⟩;rw[<- h4 q hq]at h8;rw[<- h4 l hl]at h9;exact k2 q l b hq hl h8 h9
   |dead=>trivial
  ·rw[hnil j h1];exact .inl ⟨rfl,rfl⟩
 ·intro i j oi oj b hi hj hbi hbj;obtain⟨i',o1,h1,h2,h3,_⟩:=hown i oi b hi hbi;obtain⟨j',o2,h4,h5,h6,_⟩:=hown j oj b hj hbj
  have:=h.hp.sep i' j' o1 o2 b h2 h5 h3 h6
  subst this;exact Ae4 hnd h1 h4
 ·intro j p b off hj hb;obtain⟨i,o,_,h2,h3,_⟩:=hown j p b hj hb;exact h.hp.out i o b off h2 h3
 ·rintro b ⟨j,p,hj,hb⟩;obtain⟨i,o,_,h2,h3,_⟩:=hown j p b hj hb;exact h.own b ⟨i,o,h2,h3⟩
 ·intro j r b hj;rcases Dm hR hj with⟨i,o,h1,h2,h3⟩ | ⟨h1,e,k,f,vw,he⟩
  ·have h3:o=.yld r b:=h3;subst h3;rw[hlk j i h1];exact h.yld i r b h2
  ·cases he
 ·intro x;rcases OW hE x with⟨b,h1,h2,h3,h4⟩ | h1
  ·rw[h2];exact hA (h.env x) h3 (hwe _ h1) fun z hz=>List.mem_append_left _ (h4 z hz)
  ·rw[h1];exact .top _
 ·intro j hj hl;obtain⟨p,hp⟩:=Option.isSome_iff_exists.1 hl;rcases Dm hR hp with⟨i,o,h1,h2,h3⟩ | ⟨h1,_⟩
  ·have:=Ae5 hpin h1 hj
   subst this;rw[hlk _ _ h1];exact h.pin _ hj (by simp[Lv,h2])
  ·exfalso
   have:∀{r:C4},LQ ids r=true->(j,p)∈r->False:=by
    intro r
    induction r with
    |nil=>intro _ hm;simp at hm
    |cons q r ih=>
     intro hq hm;obtain⟨x,y⟩:=q;simp only[LQ,Bool.and_eq_true,Bool.or_eq_true,decide_eq_true_eq]at hq;rcases List.mem_cons.1 hm with he|hm
     ·cases he;rcases hq.1 with h5|h5
      ·rw[h1]at h5;cases h5
      ·omega
     ·exact ih hq.2 hm
   exact this hpn (Nc hp)
theorem semUp.le {ids:List (Nat×Nat)}{K:St->Prop}(hle:Le ids st t)(hK:K t):semUp st K:=fun C a w rho hs=>⟨t,_,hK,(hs.le hle).2,(hs.le hle).1⟩
end
end Go.AM
namespace Go.AM
theorem Xl (j n j' : Nat)(env:Env)(t:Nat):get (YA j n j' env) t=WV j n j' (get env t):=by
 induction env with
 |nil=>rfl
 |cons p r ih=>
  obtain⟨i,b⟩:=p;simp only[YA,get];split
  ·rfl
  ·exact ih
theorem VC (j n j' : Nat)(regs:C4)(t:Nat):A1 (Sd j n j' regs) t=(A1 regs t).map (Ac2 j n j'):=by
 induction regs with
 |nil=>rfl
 |cons p r ih=>
  obtain⟨i,b⟩:=p;simp only[Sd,A1];split
  ·rfl
  ·exact ih
theorem Nd (j n j' : Nat):∀l:List AV,(YB j n j' l).length=l.length
 |[]=>rfl
 |_::r=>congrArg (· + 1) (Nd j n j' r)
theorem So (j n j' : Nat):∀(l:List AV) (i:Nat),(YB j n j' l).getD i .top=WV j n j' (l.getD i .top)
 |[],i=>by simp[YB,WV]
 |a::r,0=>rfl
 |a::r,i+1=>by simpa[YB]using So j n j' r i
theorem Sp {w:World}{Pi Pi' : Nat->Nat->Prop}{live live' : Nat->Prop}{rho rho' : Nat->Value}{j n j' : Nat}(hk:Keeps w Pi w Pi')(hl:∀i,live i->live' i/\rho' i=rho i)(hj:live' j')
 (hh:∀base N cap,rho j=.slice base N cap->rho' j' = .slice base n cap) {v:Value}{x:AV}(h:RepA w Pi live rho v x):RepA w Pi' live' rho' v (WV j n j' x):=by
 have h2:=h.keeps hk hl;cases h with
 |vecp i m base N cap hl' hr hm=>
  simp only[WV];split
  ·rename_i e;obtain⟨rfl,rfl⟩:=e;exact .vec j' base _ cap hj (hh _ _ _ hr)
  ·exact h2
 |_=>exact h2
theorem semUp.trunc {st:St}{j j' n N k:Nat}{e:TypeId}{f:Nat->List PV}{K:St->Prop}(hj:A1 st.regs j=some (.vec e k N f false))(hn:n<=N)(hf:A1 st.regs j' = none)(h1:1000<=j')
 (hK:K ⟨YA j n j' st.env,ins j' (.vec e k n f false) (ins j .dead (Sd j n j' st.regs))⟩):semUp st K:=fun C a w rho hs=>by
 have hne:j≠j':=by rintro rfl;rw[hj]at hf;cases hf
 obtain⟨rho',hr1,hr2⟩:∃rho' : Nat->Value,(∀i,i≠j' -> rho' i=rho i)/\∀base M cap,rho j=.slice base M cap->rho' j' = .slice base n cap:=
  ⟨fun i=>if i=j' then (match rho j with | .slice b _ c=>.slice b n c|v=>v)else rho i,fun i hi=>if_neg hi,fun base M cap h=>by simp only[if_true,h]⟩
 have hget:∀i,A1 (ins j' (.vec e k n f false) (ins j .dead (Sd j n j' st.regs))) i=if j' = i then some (.vec e k n f false)else if j=i then some .dead else (A1 st.regs i).map (Ac2 j n j'):=fun i=>by rw[A4,A4,VC]
 have hold:=hs.hp.holds j _ hj;have hblk:D8 (rho' j') (.vec e k n f false)=D8 (rho j) (.vec e k N f false):=by rcases hold with⟨h,_⟩ | ⟨b,cap,c,h,_⟩<;>rw[hr2 _ _ _ h,h]<;>rfl
 have hpriv:∀i oi b off,(i=j \/ i=j' \/ ∃cs,A1 st.regs i=some (.cells cs))->A1 st.regs i=some oi->D8 (rho i) oi b->Prv C.X (A1 st.regs) rho b off:=by
  rintro i oi b off (rfl|rfl|⟨cs,hc⟩) ho hb
  ·rw[hj]at ho;cases ho;exact .inr ⟨_,_,hj,hb,trivial⟩
  ·rw[hf]at ho;cases ho
  ·rw[hc]at ho;cases ho;exact .inr ⟨_,_,hc,hb,trivial⟩
 have hwas:∀i o b,A1 (ins j' (.vec e k n f false) (ins j .dead (Sd j n j' st.regs))) i=some o->D8 (rho' i) o b ->
  ∃i0 o0,A1 st.regs i0=some o0/\D8 (rho i0) o0 b/\(i=j' /\ i0=j \/ i≠j' /\ i0=i)/\(∀off,Gw o off->Gw o0 off):=by
  intro i o b ho hb;rw[hget]at ho;split at ho
  ·rename_i e1;subst e1;cases ho;rw[hblk]at hb;exact⟨j,_,hj,hb,.inl ⟨rfl,rfl⟩,fun _ h=>h⟩
  ·rename_i e1;split at ho
   ·cases ho;cases hb
   ·obtain⟨o0,ho0,rfl⟩:=Option.map_eq_some_iff.1 ho;rw[hr1 i (fun h=>e1 h.symm)]at hb;refine⟨i,o0,ho0,?_,.inr ⟨fun h=>e1 h.symm,rfl⟩,?_⟩
    ·cases o0<;>exact hb
    ·cases o0<;>exact fun _ h=>h
 have hlive:∀i,Lv (A1 st.regs) i->Lv (A1 (ins j' (.vec e k n f false) (ins j .dead (Sd j n j' st.regs)))) i/\rho' i=rho i:=by
  intro i hi;have hij:i≠j':=by rintro rfl;unfold Lv at hi;rw[hf]at hi;cases hi
  refine⟨?_,hr1 i hij⟩;unfold Lv at hi⊢;rw[hget,if_neg (fun h=>hij h.symm)];split
  ·rfl
  ·simpa using hi
 have hlj:Lv (A1 (ins j' (.vec e k n f false) (ins j .dead (Sd j n j' st.regs)))) j':=by unfold Lv;rw[hget,if_pos rfl];rfl
 obtain⟨h2,hk⟩:=hs.step (D:=fun i=>i=j \/ i=j' \/ ∃cs,A1 st.regs i=some (.cells cs)) (R':=ins j' (.vec e k n f false) (ins j .dead (Sd j n j' st.regs))) (rho':=rho') (w':=w)
  (fun i hi=>by
   rw[hget,if_neg (fun h=>hi (.inr (.inl h.symm))),if_neg (fun h=>hi (.inl h.symm))];cases ho:A1 st.regs i with
   |none=>rfl
   |some o=>cases o<;>first|rfl|exact absurd (.inr (.inr ⟨_,ho⟩)) hi)
  hlive (Nat.le_refl _)
  (fun i hi hl=>by
   unfold Lv at hi hl;rw[hget]at hl;split at hl
   ·rename_i e1;omega
   ·split at hl
    ·rename_i e1 e2;subst e2;rw[hj]at hi;exact absurd rfl hi
    ·exact absurd (by simpa using hl) hi)
  (fun i r b hi=>by
   rw[hget];split
   ·simp
   ·rename_i e1;split
    ·simp
    ·rename_i e2;rcases hi with rfl|rfl|⟨cs,hc⟩
     ·exact absurd rfl e2
     ·exact absurd rfl e1
     ·rw[hc];simp[Ac2])
  (fun _ _ _=>rfl)
  (fun i o b hi ho hb=>by
   obtain⟨i0,o0,g1,g2,g3,_⟩:=hwas i o b ho hb;refine .inl ⟨i0,o0,?_,g1,g2⟩;rcases g3 with⟨rfl,rfl⟩ | ⟨g3,rfl⟩
   ·exact .inl rfl
   ·exact hi)
  (fun i i' oi oj b hi hi' ho ho' hb hb'=>by
   obtain⟨i0,o0,g1,g2,g3,_⟩:=hwas i oi b ho hb;obtain⟨i1,o1,g1',g2',g3',_⟩:=hwas i' oj b ho' hb';have hs':=hs.hp.sep i0 i1 o0 o1 b g1 g1' g2 g2';have hd:∀i o,A1 (ins j' (.vec e k n f false) (ins j .dead (Sd j n j' st.regs))) i=some o->D8 (rho' i) o b->i≠j:=by rintro i o ho hb rfl;rw[hget,if_neg (fun h=>hne h.symm),if_pos rfl]at ho;cases ho;cases hb
   have d1:=hd i oi ho hb;have d2:=hd i' oj ho' hb';rcases g3 with⟨rfl,rfl⟩ | ⟨g3,rfl⟩<;>rcases g3' with⟨rfl,rfl⟩ | ⟨g3',rfl⟩
   ·rfl
   ·exact absurd hs'.symm d2
   ·exact absurd hs' d1
   ·exact hs')
  (fun i oi b off v hi ho hb hp hc=>absurd (hpriv i oi b off hi ho hb) hp)
  (fun hk i o hi ho=>by
   rw[hget]at ho;split at ho
   ·rename_i e1;subst e1;cases ho;have hold:=hold.keeps (w':=w) hk (fun i hi=>hlive i hi) (fun _ _=>rfl);rcases hold with⟨h,h0⟩ | ⟨b,cap,c,h,g1,g2,g3,g4,g5,g6⟩
    ·refine .inl ⟨?_,by omega⟩
     have:=hr2 _ _ _ h
     rw[this]
     have:n=0:=by omega
     rw[this]
    ·exact .inr ⟨b,cap,c,hr2 _ _ _ h,g1,by omega,g3,g4,fun i hi=>g5 i (by omega),fun i l hi hl=>g6 i l (by omega) hl⟩
   ·rename_i e1;split at ho
    ·cases ho;trivial
    ·rename_i e2;obtain⟨o0,ho0,rfl⟩:=Option.map_eq_some_iff.1 ho;rw[hr1 i (fun h=>e1 h.symm)];have hh:=hs.hp.holds i _ ho0;cases o0 with
     |cells cs=>obtain⟨b,c,T,g0,g1,g2,g3⟩:=hh;refine⟨b,c,T,g0,g1,by rw[Nd];exact g2,fun l hl=>?_⟩;rw[Nd]at hl;rw[So];exact⟨Sp hk hlive hlj hr2 (g3 l hl).1,(g3 l hl).2⟩
     |_=>exact hh.keeps hk (fun i hi=>hlive i hi) (fun _ _=>rfl))
 refine⟨_,rho',hK,?_,⟨h2.toSatE,fun t=>?_,h2.pin,h2.marks⟩⟩
 ·rintro b off (hX|⟨i,o,hi,hb,hp⟩)
  ·exact .inl hX
  ·obtain⟨i0,o0,g1,g2,_,g4⟩:=hwas i o b hi hb;exact .inr ⟨i0,o0,g1,g2,g4 off hp⟩
 ·show RepA w _ _ rho' (a.tmps.getD t undef) (get (YA j n j' st.env) t);rw[Xl];exact Sp hk hlive hlj hr2 (hs.env t)
end Go.AM
namespace Go.AM
section
variable {C:Ctx}{st:St}{a:Act}{w:World}{rho:Nat->Value}
theorem Sat.re (hs:Sat C st a w rho)(D:Nat->Prop){R' : C4}{rho' : Nat->Value}
 (hsame:∀j,¬D j->A1 R' j=A1 st.regs j) (hlive:∀j,Lv (A1 st.regs) j->Lv (A1 R') j/\rho' j=rho j) (hnew:∀j,¬Lv (A1 st.regs) j->Lv (A1 R') j->1000<=j)
 (hyl:∀j r b,D j->A1 R' j≠some (.yld r b))
 (hown:∀j o b,D j->A1 R' j=some o->D8 (rho' j) o b->∃i oi,D i/\A1 st.regs i=some oi/\D8 (rho i) oi b)
 (hdist:∀i j oi oj b,D i->D j->A1 R' i=some oi->A1 R' j=some oj->D8 (rho' i) oi b->D8 (rho' j) oj b->i=j)
 (hprv:∀i oi,D i->A1 st.regs i=some oi->∀off,Gw oi off)
 (hh:(∀b off,Prv C.X (A1 R') rho' b off->Prv C.X (A1 st.regs) rho b off)->Keeps w (Prv C.X (A1 st.regs) rho) w (Prv C.X (A1 R') rho')->∀j o,D j->A1 R' j=some o->HoldsO w (Prv C.X (A1 R') rho') (Lv (A1 R')) rho' (rho' j) o) :
 Sat C ⟨st.env,R'⟩ a w rho' /\ ∀b off,Prv C.X (A1 R') rho' b off->Prv C.X (A1 st.regs) rho b off:=by
 have hpi:∀b off,Prv C.X (A1 R') rho' b off->Prv C.X (A1 st.regs) rho b off:=by
  rintro b off (hX|⟨j,o,hj,hb,hp⟩)
  ·exact .inl hX
  ·by_cases hD:D j
   ·obtain⟨i,oi,h1,h2,h3⟩:=hown j o b hD hj hb;exact .inr ⟨i,oi,h2,h3,hprv i oi h1 h2 off⟩
   ·rw[hsame j hD]at hj;rw[(hlive j (by simp[Lv,hj])).2]at hb;exact .inr ⟨j,o,hj,hb,hp⟩
 exact⟨(hs.step D hsame hlive (Nat.le_refl _) hnew hyl (fun _ _ _=>rfl) (fun j o b hD hj hb=>.inl (hown j o b hD hj hb)) hdist
  (fun i oi b off v hD hi hb hp hc=>absurd (.inr ⟨i,oi,hi,hb,hprv i oi hD hi off⟩) hp) (hh hpi)).1,hpi⟩
end
theorem Xm {w:World}{Pi Pi' : Nat->Nat->Prop}{live:Nat->Prop}{rho:Nat->Value}{v:Value}{o:Obj}{x:PV}(h:rowV w Pi live rho v o)(hp:Vh o=some x)(hk:Keeps w Pi w Pi')
 (hb:∀b,O5 v o=some b->∀off,¬Pi' b off):RepP w Pi' v x:=by
 unfold Vh at hp;split at hp
 ·rename_i e k n f;cases hp;rcases h with⟨rfl,rfl⟩ | ⟨b,cap,c,rfl,h1,h2,h3,h4,h5,h6⟩
  ·exact .slnil _ _
  ·refine .sl false b 0 cap k n f (fun i j=>c.getD (i*k+j) undef) h2 h5 (fun i l hi hl=>?_) (fun i l hi hl=>(h6 i l hi hl).1.keeps hk) none (fun _=>rfl);have hlt:=H2 hi hl;have hle:n*k<=c.size:=by rw[h3];exact Nat.mul_le_mul_right k h2
   rw[Nat.zero_add];exact⟨cell_of_heap h1 (by omega),hb b rfl _,(h6 i l hi hl).2⟩
 ·cases hp;exact h.keeps hk
 ·cases hp
theorem Ez {regs:C4}{j q:Nat}{o:Obj}(h:Lv (A1 regs) q):Lv (A1 (ins j o regs)) q:=by
 unfold Lv;rw[A4];split
 ·rfl
 ·exact h
theorem DE {regs:C4}{j q:Nat}{o:Obj}(h:Lv (A1 (ins j o regs)) q):j=q \/ Lv (A1 regs) q:=by
 unfold Lv at h;rw[A4]at h;split at h
 ·exact .inl ‹_›
 ·exact .inr h
theorem QE {regs:C4}{q:Nat}{o:Obj}(h:A1 regs q=some o):Lv (A1 regs) q:=by unfold Lv;rw[h];rfl
section
variable {st t:St}{j jr j' i:Nat}{g:Nat->Obj}{c:List Prop}{K:St->Prop}
theorem semUp.famF (he:Y7 (.fam j jr g) st=some (c,t))(hc:D0 c)(hK:K t):semUp st K:=fun C a w rho hs=>by
 simp only[Y7]at he;split at he
 ·rename_i e n f hj hf;cases he;obtain⟨h1,hrow⟩:=hc;have hne:j≠jr:=by rintro rfl;rw[hj]at hf;cases hf
  obtain⟨rv,hrv⟩:∃rv:Array Value,(rho j=.slice none 0 0/\n=0) \/ ∃b cap,rho j=.slice (some ⟨b,0,none⟩) n cap/\w.heap[b]? = some (.cells rv e (0,0))/\n<=cap/\rv.size=cap/\cap<=maxLen /\
   ∀i,i<n->(∃x,f i=[x]/\RepP w (PiS C st rho) (rv.getD i undef) x)/\(rv.getD i undef).oneCell' = true:=by
   rcases hs.hp.holds j _ hj with⟨h,h0⟩ | ⟨b,cap,c,h,g1,g2,g3,g4,g5,g6⟩
   ·exact⟨#[],.inl ⟨h,h0⟩⟩
   ·refine⟨c,.inr ⟨b,cap,h,g1,g2,by simpa using g3,g4,fun i hi=>?_⟩⟩;obtain⟨x,hx⟩:=List.length_eq_one_iff.1 (g5 i hi)
    have:=g6 i 0 hi (by omega)
    rw[hx,Nat.mul_one,Nat.add_zero]at this;exact⟨⟨x,hx,this.1⟩,this.2⟩
  have hnew:∀i,i<n->O5 (rv.getD i undef) (g i)=none/\∀{Pi' live' rho'},Keeps w (PiS C st rho) w Pi' -> rowV w Pi' live' rho' (rv.getD i undef) (g i):=by
   intro i hi;have hr:=hrow i hi;rcases hrv with⟨_,h0⟩ | ⟨b,cap,_,_,_,_,_,hx⟩
   ·omega
   ·obtain⟨⟨x,hfx,hx⟩,_⟩:=hx i hi;rw[hfx]at hr;unfold Vg at hr;split at hr
    ·rename_i hgi;cases hr;rw[hx.toV,hgi];exact⟨rfl,fun _=>.inl ⟨rfl,rfl⟩⟩
    ·rename_i y hgi;obtain⟨hr,_⟩:=hr;cases hr;rw[hgi];exact⟨rfl,fun hk=>hx.keeps hk⟩
    ·exact hr.elim
  have hget:∀q,A1 (ins jr (.rows n g) (ins j (.fam e n jr none) st.regs)) q=if jr=q then some (.rows n g)else if j=q then some (.fam e n jr none)else A1 st.regs q:=fun q=>by rw[A4,A4]
  obtain⟨rho',hr'⟩:∃rho' : Nat->Value,rho' = fun q=>if q=jr then .agg rv else rho q:=⟨_,rfl⟩
  have hr1:rho' jr=.agg rv:=by rw[hr'];exact if_pos rfl
  have hr2:∀q,q≠jr->rho' q=rho q:=fun q hq=>by rw[hr'];exact if_neg hq
  have hlive:∀q,Lv (A1 st.regs) q->Lv (A1 (ins jr (.rows n g) (ins j (.fam e n jr none) st.regs))) q/\rho' q=rho q:=fun q hq=>
   ⟨Ez (Ez hq),hr2 q (by rintro rfl;unfold Lv at hq;rw[hf]at hq;cases hq)⟩
  have hwas:∀q o b,(q=j \/ q=jr)->A1 (ins jr (.rows n g) (ins j (.fam e n jr none) st.regs)) q=some o->D8 (rho' q) o b->q=j/\D8 (rho j) (.vec e 1 n f false) b:=by
   intro q o b hq ho hb;rw[hget]at ho;split at ho
   ·rename_i e1;subst e1;cases ho;rw[hr1]at hb;obtain⟨rv',he,i,hi,hb⟩:=hb;cases he;rw[(hnew i hi).1]at hb;cases hb
   ·rename_i e1;obtain rfl:q=j:=hq.resolve_right fun e=>e1 e.symm;rw[if_pos rfl]at ho;cases ho;rw[hr2 q hne]at hb;exact⟨rfl,hb⟩
  obtain⟨h2,h3⟩:=hs.re (fun q=>q=j \/ q=jr) (R':=ins jr (.rows n g) (ins j (.fam e n jr none) st.regs)) (rho':=rho')
   (fun q hq=>by rw[hget,if_neg (fun e=>hq (.inr e.symm)),if_neg (fun e=>hq (.inl e.symm))]) hlive
   (fun q hq hq'=>by
    rcases DE hq' with rfl|hq'
    ·exact h1
    ·rcases DE hq' with rfl|hq'
     ·exact absurd (QE hj) hq
     ·exact absurd hq' hq)
   (fun q r b hq=>by rw[hget];rcases hq with rfl|rfl<;>simp[hne,Ne.symm hne])
   (fun q o b hq ho hb=>by obtain⟨rfl,h⟩:=hwas q o b hq ho hb;exact⟨q,_,.inl rfl,hj,h⟩)
   (fun q q' o o' b hq hq' ho ho' hb hb'=>by rw[(hwas q o b hq ho hb).1,(hwas q' o' b hq' ho' hb').1])
   (fun q o hq ho off=>by
    rcases hq with rfl|rfl
    ·rw[hj]at ho;cases ho;trivial
    ·rw[hf]at ho;cases ho)
   (fun _ hk q o hq ho=>by
    rw[hget]at ho;split at ho
    ·rename_i e1;subst e1;cases ho;rw[hr1];exact⟨rv,rfl,fun i hi=>(hnew i hi).2 hk,fun i l b hi hl hb _=>by rw[(hnew i hi).1]at hb;cases hb⟩
    ·rename_i e1;obtain rfl:q=j:=hq.resolve_right fun e=>e1 e.symm;rw[if_pos rfl]at ho;cases ho;rw[hr2 q hne];refine⟨rv,by unfold Lv;rw[hget,if_pos rfl];rfl,hr1,?_⟩;rcases hrv with h|⟨b,cap,g1,g2,g3,g4,g5,g6⟩
     ·exact .inl h
     ·exact .inr ⟨b,cap,rv,g1,g2,g3,g4,g5,fun i hi=>⟨(g6 i hi).2,fun _=>rfl⟩,trivial⟩)
  exact⟨_,rho',hK,h3,h2⟩
 ·cases he
theorem semUp.famO (he:Y7 (.over j i) st=some (c,t))(hc:D0 c)(hK:K t):semUp st K:=fun C a w rho hs=>by
 simp only[Y7]at he;split at he
 ·rename_i e n jr hj;split at he
  ·rename_i m g hjr;cases he;obtain⟨rfl,hi0⟩:=hc;have hne:j≠jr:=by rintro rfl;rw[hj]at hjr;cases hjr
   obtain⟨rv,l1,l2,hfam⟩:=hs.hp.holds j _ hj;obtain⟨rv',e1,hrow,hdis⟩:=hs.hp.holds jr _ hjr;rw[l2]at e1;cases e1;have hget:∀q,A1 (ins jr (.rows m fun l=>if l=i then .dead else g l) (ins j (.fam e m jr (some (i,.top))) st.regs)) q=if jr=q then some (.rows m fun l=>if l=i then .dead else g l)else if j=q then some (.fam e m jr (some (i,.top)))else A1 st.regs q:=fun q=>by rw[A4,A4]
   have hrowb:∀l b,O5 (rv.getD l undef) (if l=i then .dead else g l)=some b->O5 (rv.getD l undef) (g l)=some b:=by
    intro l b h;split at h
    ·cases h
    ·exact h
   have hwas:∀q o b,(q=j \/ q=jr)->A1 (ins jr (.rows m fun l=>if l=i then .dead else g l) (ins j (.fam e m jr (some (i,.top))) st.regs)) q=some o->D8 (rho q) o b->∃oi,A1 st.regs q=some oi/\D8 (rho q) oi b:=by
    intro q o b hq ho hb;rw[hget]at ho;split at ho
    ·rename_i e1;subst e1;cases ho;obtain⟨rv',he,l,hl,hb⟩:=hb;exact⟨_,hjr,rv',he,l,hl,by rw[l2]at he;cases he;exact hrowb l b hb⟩
    ·rename_i e1;obtain rfl:q=j:=hq.resolve_right fun e=>e1 e.symm;rw[if_pos rfl]at ho;cases ho;exact⟨_,hj,hb⟩
   obtain⟨h2,h3⟩:=hs.re (fun q=>q=j \/ q=jr) (R':=ins jr (.rows m fun l=>if l=i then .dead else g l) (ins j (.fam e m jr (some (i,.top))) st.regs)) (rho':=rho)
    (fun q hq=>by rw[hget,if_neg (fun e=>hq (.inr e.symm)),if_neg (fun e=>hq (.inl e.symm))]) (fun q hq=>⟨Ez (Ez hq),rfl⟩)
    (fun q hq hq'=>by
     rcases DE hq' with rfl|hq'
     ·exact absurd (QE hjr) hq
     ·rcases DE hq' with rfl|hq'
      ·exact absurd (QE hj) hq
      ·exact absurd hq' hq)
    (fun q r b hq=>by rw[hget];rcases hq with rfl|rfl<;>simp[hne,Ne.symm hne])
    (fun q o b hq ho hb=>by obtain⟨oi,h,h'⟩:=hwas q o b hq ho hb;exact⟨q,oi,hq,h,h'⟩)
    (fun q q' o o' b hq hq' ho ho' hb hb'=>by obtain⟨o1,g1,g2⟩:=hwas q o b hq ho hb;obtain⟨o2,g3,g4⟩:=hwas q' o' b hq' ho' hb';exact hs.hp.sep q q' o1 o2 b g1 g3 g2 g4)
    (fun q o hq ho off=>by
     rcases hq with rfl|rfl
     ·rw[hj]at ho;cases ho;trivial
     ·rw[hjr]at ho;cases ho;trivial)
    (fun _ hk q o hq ho=>by
     rw[hget]at ho;split at ho
     ·rename_i e1;subst e1;cases ho;refine⟨rv,l2,fun l hl=>?_,fun l l' b hl hl' hb hb'=>hdis l l' b hl hl' (hrowb l b hb) (hrowb l' b hb')⟩;by_cases e:l=i
      ·simp only[if_pos e];trivial
      ·simp only[if_neg e];exact (hrow l hl).keeps' hk fun _ _=>rfl
     ·rename_i e1;obtain rfl:q=j:=hq.resolve_right fun e=>e1 e.symm;rw[if_pos rfl]at ho;cases ho;refine⟨rv,Ez (Ez l1),l2,?_⟩;rcases hfam with h|⟨b,cap,c,g1,g2,g3,g4,g5,g6,g7⟩
      ·exact .inl h
      ·exact .inr ⟨b,cap,c,g1,g2,g3,g4,g5,fun l hl=>⟨(g6 l hl).1,fun _=>(g6 l hl).2 (by simp)⟩,.top _⟩)
   exact⟨_,rho,hK,h3,h2⟩
  ·cases he
 ·cases he
theorem semUp.famP (he:Y7 (.pub j) st=some (c,t))(hc:D0 c)(hK:K t):semUp st K:=fun C a w rho hs=>by
 simp only[Y7]at he;split at he
 ·rename_i e n jr hj;split at he
  ·rename_i m g hjr;cases he;obtain⟨rfl,hpr⟩:=hc;have hne:j≠jr:=by rintro rfl;rw[hj]at hjr;cases hjr
   obtain⟨rv,l1,l2,hfam⟩:=hs.hp.holds j _ hj;obtain⟨rv',e1,hrow,hdis⟩:=hs.hp.holds jr _ hjr;rw[l2]at e1;cases e1;have hget:∀q,A1 (ins jr .dead (ins j (.vec e 1 m (fun i=>[(Vh (g i)).getD default]) false) st.regs)) q=if jr=q then some .dead else if j=q then some (.vec e 1 m (fun i=>[(Vh (g i)).getD default]) false)else A1 st.regs q:=fun q=>by rw[A4,A4]
   have hwas:∀q o b,A1 (ins jr .dead (ins j (.vec e 1 m (fun i=>[(Vh (g i)).getD default]) false) st.regs)) q=some o->D8 (rho q) o b->q≠jr/\∃oi,A1 st.regs q=some oi/\D8 (rho q) oi b:=by
    intro q o b ho hb;rw[hget]at ho;split at ho
    ·cases ho;cases hb
    ·rename_i e1;refine⟨fun e=>e1 e.symm,?_⟩;split at ho
     ·rename_i e2;subst e2;cases ho;exact⟨_,hj,hb⟩
     ·exact⟨_,ho,hb⟩
   obtain⟨h2,h3⟩:=hs.re (fun q=>q=j \/ q=jr) (R':=ins jr .dead (ins j (.vec e 1 m (fun i=>[(Vh (g i)).getD default]) false) st.regs)) (rho':=rho)
    (fun q hq=>by rw[hget,if_neg (fun e=>hq (.inr e.symm)),if_neg (fun e=>hq (.inl e.symm))]) (fun q hq=>⟨Ez (Ez hq),rfl⟩)
    (fun q hq hq'=>by
     rcases DE hq' with rfl|hq'
     ·exact absurd (QE hjr) hq
     ·rcases DE hq' with rfl|hq'
      ·exact absurd (QE hj) hq
      ·exact absurd hq' hq)
    (fun q r b hq=>by rw[hget];rcases hq with rfl|rfl<;>simp[hne,Ne.symm hne])
    (fun q o b hq ho hb=>by obtain⟨_,oi,h,h'⟩:=hwas q o b ho hb;exact⟨q,oi,hq,h,h'⟩)
    (fun q q' o o' b hq hq' ho ho' hb hb'=>by obtain⟨_,o1,g1,g2⟩:=hwas q o b ho hb;obtain⟨_,o2,g3,g4⟩:=hwas q' o' b ho' hb';exact hs.hp.sep q q' o1 o2 b g1 g3 g2 g4)
    (fun q o hq ho off=>by
     rcases hq with rfl|rfl
     ·rw[hj]at ho;cases ho;trivial
     ·rw[hjr]at ho;cases ho;trivial)
    (fun _ hk q o hq ho=>by
     rw[hget]at ho;split at ho
     ·cases ho;trivial
     ·rename_i e1;obtain rfl:q=j:=hq.resolve_right fun e=>e1 e.symm;rw[if_pos rfl]at ho;cases ho;rcases hfam with h|⟨b,cap,c,g1,g2,g3,g4,g5,g6,g7⟩
      ·exact .inl h
      ·refine .inr ⟨b,cap,c,g1,g2,g3,by omega,g5,fun _ _=>rfl,fun i l hi hl=>?_⟩;obtain rfl:l=0:=by omega
       rw[Nat.mul_one,Nat.add_zero];refine⟨?_,(g6 i hi).1⟩;rw[(g6 i hi).2 (by simp)];obtain⟨x,hx⟩:=Option.isSome_iff_exists.1 (hpr i hi);show RepP w _ _ ((Vh (g i)).getD default);rw[hx];refine Xm (hrow i hi) hx hk fun b' hb' off hp=>?_;have hbr:D8 (rho jr) (.rows m g) b':=⟨rv,l2,i,hi,hb'⟩;rcases hp with hX|⟨q',o',h5,h6,_⟩
       ·exact hs.hp.out jr _ b' off hjr hbr hX
       ·obtain⟨h7,oi,h8,h9⟩:=hwas q' o' b' h5 h6;exact h7 (hs.hp.sep q' jr oi _ b' h8 hjr h9 hbr))
   exact⟨_,rho,hK,h3,h2⟩
  ·cases he
 ·cases he
theorem VD {o o' : Obj}{a:AV}(h:rowA j' o=some (a,o')):(∀v b,O5 v o' = some b->O5 v o=some b)/\(∀off,Gw o' off)/\(∀r b,o' ≠ .yld r b)/\(∀n g,o' ≠ .rows n g) /\
 ∀{w Pi Pi' live live' rho rho' v},Keeps w Pi w Pi' -> rowV w Pi live rho v o->live' j' -> rho' j' = v->HoldsO w Pi' live' rho' v o' /\ RepA w Pi' live' rho' v a:=by
 unfold rowA at h;split at h
 ·rename_i e k n f;cases h;refine⟨fun _ _ h=>h,fun _=>trivial,fun _ _ h=>(nomatch h),fun _ _ h=>(nomatch h),fun hk hr hl hv=>?_⟩;refine⟨hr.keeps' hk fun _ _=>rfl,?_⟩;obtain⟨base,cap,hs⟩:=GA (vw:=false) (e:=e) (k:=k) (n:=n) (f:=f) hr;rw[hs]at hv⊢;exact .vec j' _ _ _ hl hv
 ·rename_i es;cases h;refine⟨fun _ _ h=>h,fun _=>trivial,fun _ _ h=>(nomatch h),fun _ _ h=>(nomatch h),fun hk hr hl hv=>?_⟩;refine⟨hr.keeps' hk fun _ _=>rfl,?_⟩;obtain⟨b,ents,clock,hs,_⟩:=hr;rw[hs]at hv⊢;exact .mref j' b hl hv
 ·cases h;exact⟨fun _ _ h=>(nomatch h),fun _=>trivial,fun _ _ h=>(nomatch h),fun _ _ h=>(nomatch h),fun hk hr hl hv=>⟨trivial,.p _ _ (hr.keeps hk)⟩⟩
 ·cases h
theorem Xn {v:Value}{o:Obj}(h:∀n g,o ≠ .rows n g){b:Nat}(hb:D8 v o b):O5 v o=some b:=by
 cases o with
 |rows n g=>exact absurd rfl (h n g)
 |_=>exact hb
theorem semUp.famT (he:Y7 (.take j i j') st=some (c,t))(hc:D0 c)(hK:K t):semUp st K:=fun C a w rho hs=>by
 simp only[Y7]at he;split at he
 ·rename_i e n jr hj hf;split at he
  ·rename_i m g hjr;split at he
   ·rename_i av o' hra;cases he;obtain⟨⟨h1,rfl⟩,hi0⟩:=hc;obtain⟨s1,s2,s3,s4,s5⟩:=VD hra;have hne:j≠jr:=by rintro rfl;rw[hj]at hjr;cases hjr
    have hn1:j≠j':=by rintro rfl;rw[hj]at hf;cases hf
    have hn2:jr≠j':=by rintro rfl;rw[hjr]at hf;cases hf
    obtain⟨rv,l1,l2,hfam⟩:=hs.hp.holds j _ hj;obtain⟨rv',e1,hrow,hdis⟩:=hs.hp.holds jr _ hjr;rw[l2]at e1;cases e1;obtain⟨R',hR'⟩:∃R' : C4,R' = ins j' o' (ins jr (.rows m fun l=>if l=i then .dead else g l) (ins j (.fam e m jr (some (i,av))) st.regs)):=⟨_,rfl⟩;have hget:∀q,A1 R' q=if j' = q then some o' else if jr=q then some (.rows m fun l=>if l=i then .dead else g l)else if j=q then some (.fam e m jr (some (i,av)))else A1 st.regs q:=fun q=>by rw[hR',A4,A4,A4]
    obtain⟨rho',hr'⟩:∃rho' : Nat->Value,rho' = fun q=>if q=j' then rv.getD i undef else rho q:=⟨_,rfl⟩
    have hr1:rho' j' = rv.getD i undef:=by rw[hr'];exact if_pos rfl
    have hr2:∀q,q≠j' -> rho' q=rho q:=fun q hq=>by rw[hr'];exact if_neg hq
    have hlive:∀q,Lv (A1 st.regs) q->Lv (A1 R') q/\rho' q=rho q:=fun q hq=>
     ⟨by rw[hR'];exact Ez (Ez (Ez hq)),hr2 q (by rintro rfl;unfold Lv at hq;rw[hf]at hq;cases hq)⟩
    have hrowb:∀l b,O5 (rv.getD l undef) (if l=i then .dead else g l)=some b->l≠i/\O5 (rv.getD l undef) (g l)=some b:=by
     intro l b h;split at h
     ·cases h
     ·rename_i e;exact⟨e,h⟩
    have hlj:Lv (A1 R') j':=by unfold Lv;rw[hget,if_pos rfl];rfl
    have hwas:∀q o b,(q=j \/ q=jr \/ q=j')->A1 R' q=some o->D8 (rho' q) o b ->
     (q=j' /\ O5 (rv.getD i undef) (g i)=some b) \/ (q=jr/\∃l,l<m/\l≠i/\O5 (rv.getD l undef) (g l)=some b) \/ (q=j/\D8 (rho j) (.fam e m jr none) b):=by
     intro q o b hq ho hb;rw[hget]at ho;split at ho
     ·rename_i e1;subst e1;cases ho;rw[hr1]at hb;exact .inl ⟨rfl,s1 _ _ (Xn s4 hb)⟩
     ·rename_i e1;rw[hr2 q (fun e=>e1 e.symm)]at hb;split at ho
      ·rename_i e2;subst e2;cases ho;obtain⟨rv',he,l,hl,hb⟩:=hb;rw[l2]at he;cases he;obtain⟨h5,h6⟩:=hrowb l b hb;exact .inr (.inl ⟨rfl,l,hl,h5,h6⟩)
      ·rename_i e2;obtain rfl:q=j:=hq.resolve_right fun e=>e.elim (fun e=>e2 e.symm) fun e=>e1 e.symm;rw[if_pos rfl]at ho;cases ho;exact .inr (.inr ⟨rfl,hb⟩)
    have hrb:∀l b,l<m->O5 (rv.getD l undef) (g l)=some b->D8 (rho jr) (.rows m g) b:=fun l b hl hb=>⟨rv,l2,l,hl,hb⟩;obtain⟨h2,h3⟩:=hs.re (fun q=>q=j \/ q=jr \/ q=j') (R':=R') (rho':=rho')
     (fun q hq=>by rw[hget,if_neg (fun e=>hq (.inr (.inr e.symm))),if_neg (fun e=>hq (.inr (.inl e.symm))),if_neg (fun e=>hq (.inl e.symm))]) hlive
     (fun q hq hq'=>by
      rw[hR']at hq';rcases DE hq' with rfl|hq'
      ·exact h1
      ·rcases DE hq' with rfl|hq'
       ·exact absurd (QE hjr) hq
       ·rcases DE hq' with rfl|hq'
        ·exact absurd (QE hj) hq
        ·exact absurd hq' hq)
     (fun q r b hq=>by
      rw[hget];split
      ·simp only[ne_eq,Option.some.injEq];exact s3 r b
      ·split
       ·simp
       ·split
        ·simp
        ·rename_i x1 x2 x3;rcases hq with rfl|rfl|rfl<;>simp at x1 x2 x3)
     (fun q o b hq ho hb=>by
      rcases hwas q o b hq ho hb with⟨rfl,h⟩ | ⟨rfl,l,hl,_,h⟩ | ⟨rfl,h⟩
      ·exact⟨jr,_,.inr (.inl rfl),hjr,hrb i b hi0 h⟩
      ·exact⟨_,_,.inr (.inl rfl),hjr,hrb l b hl h⟩
      ·exact⟨_,_,.inl rfl,hj,h⟩)
     (fun q q' o o2 b hq hq' ho ho' hb hb'=>by
      rcases hwas q o b hq ho hb with⟨rfl,h⟩ | ⟨rfl,l,hl,hli,h⟩ | ⟨rfl,h⟩<;>rcases hwas q' o2 b hq' ho' hb' with⟨rfl,h'⟩ | ⟨rfl,l',hl',hli',h'⟩ | ⟨rfl,h'⟩
      ·rfl
      ·exact absurd (hdis l' i b hl' hi0 h' h) hli'
      ·exact absurd (hs.hp.sep _ _ _ _ b hj hjr h' (hrb i b hi0 h)) hne
      ·exact absurd (hdis l i b hl hi0 h h') hli
      ·rfl
      ·exact absurd (hs.hp.sep _ _ _ _ b hj hjr h' (hrb l b hl h)) hne
      ·exact absurd (hs.hp.sep _ _ _ _ b hj hjr h (hrb i b hi0 h')) hne
      ·exact absurd (hs.hp.sep _ _ _ _ b hj hjr h (hrb l' b hl' h')) hne
      ·rfl)
     (fun q o hq ho off=>by
      rcases hq with rfl|rfl|rfl
      ·rw[hj]at ho;cases ho;trivial
      ·rw[hjr]at ho;cases ho;trivial
      ·rw[hf]at ho;cases ho)
     (fun _ hk q o hq ho=>by
      rw[hget]at ho;split at ho
      ·rename_i e1;subst e1;cases ho;rw[hr1];exact (s5 hk (hrow i hi0) hlj hr1).1
      ·rename_i e1;rw[hr2 q (fun e=>e1 e.symm)];split at ho
       ·rename_i e2;subst e2;cases ho;refine⟨rv,l2,fun l hl=>?_,fun l l' b hl hl' hb hb'=>hdis l l' b hl hl' (hrowb l b hb).2 (hrowb l' b hb').2⟩;by_cases e:l=i
        ·simp only[if_pos e];trivial
        ·simp only[if_neg e];exact (hrow l hl).keeps' hk fun _ _=>rfl
       ·rename_i e2;obtain rfl:q=j:=hq.resolve_right fun e=>e.elim (fun e=>e2 e.symm) fun e=>e1 e.symm;rw[if_pos rfl]at ho;cases ho;refine⟨rv,(hlive jr l1).1,(hlive jr l1).2.trans l2,?_⟩;rcases hfam with h|⟨b,cap,c,g1,g2,g3,g4,g5,g6,g7⟩
        ·exact .inl h
        ·refine .inr ⟨b,cap,c,g1,g2,g3,g4,g5,fun l hl=>⟨(g6 l hl).1,fun _=>(g6 l hl).2 (by simp)⟩,?_⟩;show RepA w _ _ rho' (c.getD i undef) av;rw[(g6 i hi0).2 (by simp)];exact (s5 hk (hrow i hi0) hlj hr1).2)
    subst hR';exact⟨_,rho',hK,h3,h2⟩
   ·cases he
  ·cases he
 ·cases he
theorem Tx (jo:Option Nat)(regs:C4)(q:Nat):A1 (Vi jo regs) q=if jo=some q then some .dead else A1 regs q:=by
 cases jo with
 |none=>simp[Vi]
 |some j=>simp[Vi,A4]
theorem Xo {C:Ctx}{a:Act}{w:World}{rho:Nat->Value}(hs:Sat C st a w rho){x:AV}{jo:Option Nat}{o:Obj}(h:ofA st.regs x=some (jo,o)){v:Value}(hv:RS C st w rho v x) :(∀j',jo=some j' -> A1 st.regs j' = some o/\rho j' = v/\(∀off,Gw o off)/\(∀e n r y,o ≠ .fam e n r y)/\∀n g,o ≠ .rows n g)/\(∀b,O5 v o=some b->∃j',jo=some j' /\ D8 (rho j') o b) /\
 ∀{Pi' live' rho'},Keeps w (PiS C st rho) w Pi' -> rowV w Pi' live' rho' v o:=by
 unfold ofA at h;split at h
 ·rename_i j';split at h
  ·rename_i e k l f hj;cases h;have hh:=hs.hp.holds j' _ hj;have hr:rho j' = v:=by cases hv;assumption
   rw[hr]at hh;exact⟨fun q hq=>by cases hq;exact⟨hj,hr,fun _=>trivial,fun _ _ _ _ h=>(nomatch h),fun _ _ h=>(nomatch h)⟩,fun b hb=>⟨j',rfl,by rw[hr];exact hb⟩,fun hk=>rowV.keeps' (o:=.vec e k l f false) hk hh fun _ _=>rfl⟩
  ·cases h
 ·rename_i j';split at h
  ·rename_i es hj;cases h;have hh:=hs.hp.holds j' _ hj;have hr:rho j' = v:=by cases hv;assumption
   rw[hr]at hh;exact⟨fun q hq=>by cases hq;exact⟨hj,hr,fun _=>trivial,fun _ _ _ _ h=>(nomatch h),fun _ _ h=>(nomatch h)⟩,fun b hb=>⟨j',rfl,by rw[hr];exact hb⟩,fun hk=>rowV.keeps' (o:=.map es) hk hh fun _ _=>rfl⟩
  ·cases h
 ·cases h;exact⟨fun _ hq=>(nomatch hq),fun _ hb=>(nomatch hb),fun hk=>hv.toP.keeps hk⟩
 ·cases h
theorem semUp.famB (he:Y7 (.put j j') st=some (c,t))(hc:D0 c)(hK:K t):semUp st K:=fun C a w rho hs=>by
 simp only[Y7]at he;split at he
 ·rename_i e n jr i x hj hf;split at he
  ·rename_i m g jo o hjr ho;cases he;obtain⟨⟨h1,rfl⟩,hi0⟩:=hc;obtain⟨rv,l1,l2,hfam⟩:=hs.hp.holds j _ hj;obtain⟨rv',e1,hrow,hdis⟩:=hs.hp.holds jr _ hjr;rw[l2]at e1;cases e1;obtain⟨b0,cap,c,g1,g2,g3,g4,g5,g6,g7⟩:=hfam.resolve_left (fun h=>by omega);obtain⟨s1,s2,s3⟩:=Xo hs ho g7;have hne:j≠jr:=by rintro rfl;rw[hj]at hjr;cases hjr
   have hn1:j≠j':=by rintro rfl;rw[hj]at hf;cases hf
   have hn2:jr≠j':=by rintro rfl;rw[hjr]at hf;cases hf
   have hn3:∀q,jo=some q->q≠j/\q≠jr/\q≠j':=by intro q hq;obtain⟨k1,_,_,k4,k5⟩:=s1 q hq;exact⟨by rintro rfl;rw[hj]at k1;cases k1;exact k4 _ _ _ _ rfl,by rintro rfl;rw[hjr]at k1;cases k1;exact k5 _ _ rfl,by rintro rfl;rw[hf]at k1;cases k1⟩
   obtain⟨rn,hrn⟩:∃rn:Array Value,∀q,q<m->rn.getD q undef=if q=i then c.getD i undef else rv.getD q undef:=
    ⟨Array.ofFn (n:=m) fun q=>if q.1=i then c.getD i undef else rv.getD q.1 undef,fun q hq=>by simp[Array.getD_eq_getD_getElem?,hq]⟩
   obtain⟨R',hR'⟩:∃R' : C4,R' = ins j' (.rows m fun q=>if q=i then o else g q) (Vi jo (ins jr .dead (ins j (.fam e m j' none) st.regs))):=⟨_,rfl⟩;have hget:∀q,A1 R' q=if j' = q then some (.rows m fun q=>if q=i then o else g q)else if jo=some q then some .dead else if jr=q then some .dead else if j=q then some (.fam e m j' none)else A1 st.regs q:=fun q=>by rw[hR',A4,Tx,A4,A4]
   obtain⟨rho',hr'⟩:∃rho' : Nat->Value,rho' = fun q=>if q=j' then .agg rn else rho q:=⟨_,rfl⟩
   have hr1:rho' j' = .agg rn:=by rw[hr'];exact if_pos rfl
   have hr2:∀q,q≠j' -> rho' q=rho q:=fun q hq=>by rw[hr'];exact if_neg hq
   have hlv:∀q,Lv (A1 R') q↔q=j' \/ Lv (A1 st.regs) q:=by
    intro q;unfold Lv;rw[hget];constructor
    ·intro h;split at h
     ·exact .inl (Eq.symm ‹_›)
     ·split at h
      ·rename_i k;obtain⟨k1,_⟩:=s1 q k;right;rw[k1];rfl
      ·split at h
       ·rename_i k;subst k;right;rw[hjr];rfl
       ·split at h
        ·rename_i k;subst k;right;rw[hj];rfl
        ·exact .inr h
    ·rintro (rfl|h)
     ·rw[if_pos rfl];rfl
     ·split;rfl;split;rfl;split;rfl;split;rfl;exact h
   have hlive:∀q,Lv (A1 st.regs) q->Lv (A1 R') q/\rho' q=rho q:=fun q hq=>
    ⟨(hlv q).2 (.inr hq),hr2 q (by rintro rfl;unfold Lv at hq;rw[hf]at hq;cases hq)⟩
   have hwas:∀q o2 b,(q=j \/ q=jr \/ q=j' \/ jo=some q)->A1 R' q=some o2->D8 (rho' q) o2 b ->
    (q=j' /\ ((∃q',jo=some q' /\ D8 (rho q') o b) \/ ∃l,l<m/\O5 (rv.getD l undef) (g l)=some b)) \/ (q=j/\D8 (rho j) (.fam e m jr (some (i,x))) b):=by
    intro q o2 b hq ho2 hb;rw[hget]at ho2;split at ho2
    ·rename_i e1;subst e1;cases ho2;rw[hr1]at hb;obtain⟨rv',he,l,hl,hb⟩:=hb;cases he;rw[hrn l hl]at hb;refine .inl ⟨rfl,?_⟩;by_cases e:l=i
     ·simp only[if_pos e]at hb;exact .inl (s2 b hb)
     ·simp only[if_neg e]at hb;exact .inr ⟨l,hl,hb⟩
    ·rename_i e1;split at ho2
     ·cases ho2;cases hb
     ·rename_i e2;split at ho2
      ·cases ho2;cases hb
      ·rename_i e3;obtain rfl:q=j:=hq.resolve_right fun e=>e.elim (fun e=>e3 e.symm) fun e=>e.elim (fun e=>e1 e.symm) e2;rw[if_pos rfl]at ho2;cases ho2;rw[hr2 q hn1]at hb;exact .inr ⟨rfl,hb⟩
   have hrb:∀l b,l<m->O5 (rv.getD l undef) (g l)=some b->D8 (rho jr) (.rows m g) b:=fun l b hl hb=>⟨rv,l2,l,hl,hb⟩;have hcross:∀b,((∃q',jo=some q' /\ D8 (rho q') o b) \/ ∃l,l<m/\O5 (rv.getD l undef) (g l)=some b)->¬D8 (rho j) (.fam e m jr (some (i,x))) b:=by
    rintro b (⟨q',k1,k2⟩ | ⟨l,hl,k2⟩) hb
    ·exact (hn3 q' k1).1 (hs.hp.sep _ _ _ _ b (s1 q' k1).1 hj k2 hb)
    ·exact hne (hs.hp.sep _ _ _ _ b hj hjr hb (hrb l b hl k2))
   obtain⟨h2,h3⟩:=hs.re (fun q=>q=j \/ q=jr \/ q=j' \/ jo=some q) (R':=R') (rho':=rho')
    (fun q hq=>by rw[hget,if_neg (fun e=>hq (.inr (.inr (.inl e.symm)))),if_neg (fun e=>hq (.inr (.inr (.inr e)))),if_neg (fun e=>hq (.inr (.inl e.symm))),if_neg (fun e=>hq (.inl e.symm))]) hlive
    (fun q hq hq'=>by
     rcases (hlv q).1 hq' with rfl|h
     ·exact h1
     ·exact absurd h hq)
    (fun q r b hq=>by
     rw[hget];split
     ·simp
     ·split
      ·simp
      ·split
       ·simp
       ·split
        ·simp
        ·rename_i x1 x2 x3 x4;exact absurd hq (by simp[Ne.symm x1,x2,Ne.symm x3,Ne.symm x4]))
    (fun q o2 b hq ho2 hb=>by
     rcases hwas q o2 b hq ho2 hb with⟨rfl,⟨q',k1,k2⟩ | ⟨l,hl,k2⟩⟩ | ⟨rfl,h⟩
     ·exact⟨q',o,.inr (.inr (.inr k1)),(s1 q' k1).1,k2⟩
     ·exact⟨jr,_,.inr (.inl rfl),hjr,hrb l b hl k2⟩
     ·exact⟨_,_,.inl rfl,hj,h⟩)
    (fun q q' o2 o3 b hq hq' ho2 ho3 hb hb'=>by
     rcases hwas q o2 b hq ho2 hb with⟨rfl,h⟩ | ⟨rfl,h⟩<;>rcases hwas q' o3 b hq' ho3 hb' with⟨rfl,h'⟩ | ⟨rfl,h'⟩
     ·rfl
     ·exact absurd h' (hcross b h)
     ·exact absurd h (hcross b h')
     ·rfl)
    (fun q o2 hq ho2 off=>by
     rcases hq with rfl|rfl|rfl|hq
     ·rw[hj]at ho2;cases ho2;trivial
     ·rw[hjr]at ho2;cases ho2;trivial
     ·rw[hf]at ho2;cases ho2
     ·obtain⟨k1,_,k3,_⟩:=s1 q hq;rw[k1]at ho2;cases ho2;exact k3 off)
    (fun _ hk q o2 hq ho2=>by
     rw[hget]at ho2;split at ho2
     ·rename_i e1;subst e1;cases ho2;rw[hr1];refine⟨rn,rfl,fun l hl=>?_,fun l l' b hl hl' hb hb'=>?_⟩
      ·rw[hrn l hl];by_cases e:l=i
       ·simp only[if_pos e];exact s3 hk
       ·simp only[if_neg e];exact (hrow l hl).keeps' hk fun _ _=>rfl
      ·rw[hrn l hl]at hb;rw[hrn l' hl']at hb';by_cases e:l=i<;>by_cases e' : l' = i
       ·rw[e,e']
       ·simp only[if_pos e]at hb;simp only[if_neg e']at hb';obtain⟨q',k1,k2⟩:=s2 b hb;exact absurd (hs.hp.sep _ _ _ _ b (s1 q' k1).1 hjr k2 (hrb l' b hl' hb')) (hn3 q' k1).2.1
       ·simp only[if_neg e]at hb;simp only[if_pos e']at hb';obtain⟨q',k1,k2⟩:=s2 b hb';exact absurd (hs.hp.sep _ _ _ _ b (s1 q' k1).1 hjr k2 (hrb l b hl hb)) (hn3 q' k1).2.1
       ·simp only[if_neg e]at hb;simp only[if_neg e']at hb';exact hdis l l' b hl hl' hb hb'
     ·rename_i e1;split at ho2
      ·cases ho2;trivial
      ·rename_i e2;split at ho2
       ·cases ho2;trivial
       ·rename_i e3;obtain rfl:q=j:=hq.resolve_right fun e=>e.elim (fun e=>e3 e.symm) fun e=>e.elim (fun e=>e1 e.symm) e2;rw[if_pos rfl]at ho2;cases ho2;rw[hr2 q hn1];refine⟨rn,(hlv j').2 (.inl rfl),hr1,.inr ⟨b0,cap,c,g1,g2,g3,g4,g5,fun l hl=>⟨(g6 l hl).1,fun _=>?_⟩,trivial⟩⟩;rw[hrn l hl];by_cases e:l=i
        ·rw[if_pos e,e]
        ·rw[if_neg e];exact (g6 l hl).2 (by simp;exact fun x=>e x.symm))
   subst hR';exact⟨_,rho',hK,h3,h2⟩
  ·cases he
 ·cases he
theorem semUp.famAll {op:To}(he:Y7 op st=some (c,t))(hc:D0 c)(hK:K t):semUp st K:=match op with
 |.fam _ _ _=>semUp.famF he hc hK
 |.take _ _ _=>semUp.famT he hc hK
 |.over _ _=>semUp.famO he hc hK
 |.put _ _=>semUp.famB he hc hK
 |.pub _=>semUp.famP he hc hK
end
end Go.AM
namespace Go.AM
def FW (ro:Option Nat):Fence:={ Fence.wide with round:=ro }
theorem Me {ro:Option Nat}{m n:Nat}{P:Program}{f:FuncId}{vs:Array Value}{w:World}{R:Ending->World->Prop}(h:CallsIn Fence.wide m P f vs w R):CallsIn (FW ro) n P f vs w R:=
 ⟨trivial,fun cs _=>h.2 cs (room_wide _)⟩
theorem VE {ro:Option Nat}{m n:Nat}{P:Program}{f:String}{vs:Array Value}{w:World}{R:Value->World->Prop}(h:RowsIn Fence.wide m P f vs w R):RowsIn (FW ro) n P f vs w R:=
 fun c cs _=>h c cs (room_wide _)
theorem Ty {ro:Option Nat}{m n:Nat}{P:Program}{l:Nat}{f:FuncId}{tmps:Array Value}{as body:Code}{w:World}{R:Ending->World->Prop}(h:RoundIn Fence.wide m P l f tmps as body w R):RoundIn (FW ro) n P l f tmps as body w R:=
 ⟨trivial,fun c cs _=>h.2 c cs (room_wide _)⟩
section
variable {P:Program}{C:Ctx}{st:St}{a:Act}{w:World}{rho:Nat->Value}{𝒢 : Prot P}{n:Nat}
def NextOk (𝒢 : Prot P)(n:Nat)(k:St->Prop)(a:Act)(w:World):Prop:=∃C st rho,𝒢.G C/\Sat C st a w rho/\a.tmps.size=n/\k st
def PanicOk (𝒢 : Prot P)(n:Nat)(Q:H6)(chain:List PanicEntry)(a:Act)(w:World):Prop:=∃C st rho v x,chain=[{ v,recovered:=false }] /\ 𝒢.G C/\Sat C st a w rho/\a.tmps.size=n/\RepP w (PiS C st rho) v x/\Q (.panic x) st
def WP (𝒢 : Prot P)(n:Nat)(Q:H6):Exit->Act->World->Prop
 |.normal,a,w=>NextOk 𝒢 n (Q .normal) a w
 |.exit id,a,w=>NextOk 𝒢 n (Q (.exit id)) a w
 |.goto l,a,w=>NextOk 𝒢 n (Q (.goto l)) a w
 |.ret,a,w=>NextOk 𝒢 n (Q .ret) a w
 |.panic chain,a,w=>PanicOk 𝒢 n Q chain a w
 |.outgrown,_,_=>False
theorem HG:∀(xs:List Operand) (st:St) (l:List AV) (R' : C4),Sat C st a w rho->KS st.regs (xs.map (aev st.env))=some (l,R') ->
 Sat C { st with regs:=R' } a w rho/\Kp C st.regs R' w w rho rho/\l.length=xs.length/\∀i x,xs[i]? = some x->RS C { st with regs:=R' } w rho (a.eval x) (l.getD i .top)
 |[],st,l,R',h,he=>by simp only[List.map_nil,KS,Option.some.injEq,Prod.mk.injEq]at he;obtain⟨rfl,rfl⟩:=he;exact⟨h,Kp.refl _ _ _ _,rfl,fun i x hx=>by simp at hx⟩
 |x::xs,st,l,R',h,he=>by
  simp only[List.map_cons,KS]at he;split at he
  ·rename_i y R1 hv;have step:Sat C { st with regs:=R1 } a w rho/\Kp C st.regs R1 w w rho rho/\RS C { st with regs:=R1 } w rho (a.eval x) y:=by
    have gen:(match Gv st.regs (aev st.env x)with|some (x,regs)=>some (AV.p x,regs)|none=>none)=some (y,R1)->Sat C { st with regs:=R1 } a w rho/\Kp C st.regs R1 w w rho rho/\RS C { st with regs:=R1 } w rho (a.eval x) y:=by
     intro hv;split at hv
     ·rename_i z R2 hz;simp only[Option.some.injEq,Prod.mk.injEq]at hv;obtain⟨rfl,rfl⟩:=hv;obtain⟨h1,h2,h3⟩:=Dh h (h.aev x) hz;exact⟨h1,h3,.p _ _ h2⟩
     ·cases hv
    split at hv
    ·exact gen hv
    ·exact gen hv
    ·simp only[Option.some.injEq,Prod.mk.injEq]at hv;obtain⟨rfl,rfl⟩:=hv;exact⟨h,Kp.refl _ _ _ _,h.aev x⟩
   obtain⟨h1,h2,h3⟩:=step;split at he
   ·rename_i l' R2 hvs;cases he;obtain⟨h4,h5,h6,h7⟩:=HG xs { st with regs:=R1 } l' R' h1 hvs;refine⟨h4,h2.trans h5,by simp[h6],fun i z hz=>?_⟩;cases i with
    |zero=>simp only[List.getElem?_cons_zero,Option.some.injEq]at hz;subst hz;exact h5.av h3
    |succ i=>exact h7 i z (by simpa using hz)
   ·cases he
  ·cases he
theorem QF {xs:List Operand}{st:St}{l:List AV}{R' : C4}(h:Sat C st a w rho)(he:Ac9 st.regs (xs.map (aev st.env)) l R') :Sat C { st with regs:=R' } a w rho/\Kp C st.regs R' w w rho rho/\l.length=xs.length/\∀i x,xs[i]? = some x->RS C { st with regs:=R' } w rho (a.eval x) (l.getD i .top):=by
 rcases he with he|⟨rfl,rfl⟩
 ·exact HG xs st l R' h he
 ·refine⟨h,Kp.refl _ _ _ _,by simp,fun i x hx=>?_⟩
  have:(xs.map (aev st.env)).getD i .top=aev st.env x:=by simp[List.getD_eq_getElem?_getD,hx]
  rw[this];exact h.aev x
theorem Js (hG : 𝒢.G C)(h:Sat C st a w rho)(hsz:a.tmps.size=n){d:Nat}{ids:List Nat}{f:FuncId}{as:List AV}{K:Je->St->Prop}(hc:Vc (Ft P) d ids f as st K)
 {vs:Array Value}(hvs:vs.size=as.length) (hv:∀i,i<as.length->RS C st w rho (vs.getD i undef) (as.getD i .top)) :
 CallF P f vs w fun e w'=>∃st' rho' r,Sat C st' a w' rho' /\ K r st' /\ Zv w' (PiS C st' rho') (Lv (A1 st'.regs)) rho' e r:=by
 obtain⟨args,objs,hd,hr,hob,hny,hF⟩:=hc;have hs:=Id h hd hob hny trivial hr hvs hv;refine (hF (Prot.triv P (C.callee st.regs w rho ids) (fun _ _ h=>h) ((𝒢.tab C hG).keeps h.keep)) _ w vs _ rfl hs (by rw[hvs];exact (AS hr).1)).mono ?_;rintro e w' ⟨C',r,objs',ks,rho',hC',⟨hf,hK⟩,hE,hend,hks⟩;obtain rfl:C' = C.callee st.regs w rho ids:=hC';obtain⟨g1,g2,g3,g4⟩:=Tw h hd hob hE hks hf;refine⟨_,_,_,g1,hK,?_⟩;cases r with
 |ret x=>obtain⟨v,he,hv⟩:=hend;exact⟨v,he,hv.un g3 g4⟩
 |panic x=>obtain⟨v,he,hv⟩:=hend;exact⟨v,he,hv.keeps g3⟩
theorem OX {ro:Option Nat}{o:Oper}(hd:∀t,o.dst=some t->t<n){next:Act->World->Prop}{Q' : Exit->Act->World->Prop}{k:St->Prop}{Q:H6}
 (hk:∀a w,NextOk 𝒢 n k a w->next a w) (hq:∀chain a w,PanicOk 𝒢 n Q chain a w->Q' (.panic chain) a w) (hG : 𝒢.G C) (hsz:a.tmps.size=n) {f:FuncId}{vs:Array Value}
 (hrun:(o.semAt ro a.eval).run P w=(callFunc f vs).run P w)
 (h:CallF P f vs w fun e w'=>∃st' rho' r,Sat C st' a w' rho' /\ HY o.dst k Q r st' /\ Zv w' (PiS C st' rho') (Lv (A1 st'.regs)) rho' e r) :
 o.uponIn (FW ro) 0 P a next Q' ((o.semAt ro a.eval).run P w):=by
 obtain⟨nx,w1,h1,h2⟩:=h;rw[hrun,h1];have fin:∀v w',(∃st' rho' r,Sat C st' a w' rho' /\ HY o.dst k Q r st' /\ Zv w' (PiS C st' rho') (Lv (A1 st'.regs)) rho' (.returned v) r)->next (a.put o.dst v) w':=by
  rintro v w' ⟨st',rho',r,g1,g2,g3⟩;cases r with
  |ret x=>obtain⟨v',he,hv'⟩:=g3;cases he;refine hk _ _ ⟨C,_,rho',hG,g1.put hv' (fun t ht=>by rw[hsz];exact hd t ht),?_,g2⟩;rw[<- hsz];cases o.dst<;>simp[Act.put]
  |panic x=>obtain⟨v',he,_⟩:=g3;cases he
 cases nx with
 |enter f' as=>
  rw[Oper.uponIn_enter];refine⟨fun h=>by simp[FW,Fence.wide]at h,(Me h2).mono ?_⟩;intro e w' he;cases e with
  |returned v=>exact fin v w' he
  |panicked chain=>
   obtain⟨st',rho',r,g1,g2,g3⟩:=he;cases r with
   |ret x=>obtain⟨v',he,_⟩:=g3;cases he
   |panic x=>obtain⟨v',he,hv'⟩:=g3;cases he;exact hq _ _ _ ⟨C,st',rho',v',x,rfl,hG,g1,hsz,hv',g2⟩
  |outgrown=>obtain⟨st',rho',r,g1,g2,g3⟩:=he;cases r<;>(obtain⟨v',he,_⟩:=g3;cases he)
 |value v=>rw[Oper.uponIn_value];exact fin v w1 h2
 |row row as=>rw[Oper.uponIn_row];exact⟨fun h=>by simp[FW,Fence.wide]at h,(VE h2).mono fun v w'=>fin v w'⟩
 |_=>exact h2.elim
def RepV (w:World)(Pi:Nat->Nat->Prop)(live:Nat->Prop)(rho:Nat->Value)(vs:Array Value)(l:List AV):Prop:=
 vs.size=l.length/\∀i,i<l.length->RepA w Pi live rho (vs.getD i undef) (l.getD i .top)
theorem RepV.append {Pi:Nat->Nat->Prop}{live:Nat->Prop}{vs us:Array Value}{l m:List AV}(h:RepV w Pi live rho vs l)(h' : RepV w Pi live rho us m):RepV w Pi live rho (vs++us) (l++m):=by
 refine⟨by simp[h.1,h'.1],fun i hi=>?_⟩;simp only[List.length_append]at hi;by_cases hl:i<l.length
 ·have:=h.2 i hl
  have hv:i<vs.size:=by rw[h.1];exact hl
  simpa[Array.getD_eq_getD_getElem?,Array.getElem?_append,hv,List.getElem?_append_left hl]using this
 ·have:=h'.2 (i-l.length) (by omega)
  have hv:¬i<vs.size:=by rw[h.1];exact hl
  simpa[Array.getD_eq_getD_getElem?,Array.getElem?_append,hv,hl,List.getElem?_append_right (show l.length<=i by omega),h.1]using this
theorem RepV.ofP {Pi:Nat->Nat->Prop}{live:Nat->Prop}{vs:Array Value}{l:List PV}(hs:vs.size=l.length)(h:∀i,i<l.length->RepP w Pi (vs.getD i undef) (l.getD i default)):RepV w Pi live rho vs (l.map .p):=by
 refine⟨by simpa using hs,fun i hi=>?_⟩;have hi' : i<l.length:=by simpa using hi
 have:=h i hi'
 simp only[List.getD_eq_getElem?_getD,List.getElem?_map,List.getElem?_eq_getElem hi',Option.map_some,Option.getD_some]at this⊢;exact .p _ _ this
theorem Tz (h:Sat C st a w rho){f:Operand}{f' : FuncId}{as as' : List AV}(hw:Qt st.env f as=some (f',as')){R' : C4}(hkp:Kp C st.regs R' w w rho rho){vals:Array Value}(hv:RepV w (Prv C.X (A1 R') rho) (Lv (A1 R')) rho vals as) :∃x y,a.eval f=.func (.func f') x y/\RepV w (Prv C.X (A1 R') rho) (Lv (A1 R')) rho (x++vals++y) as':=by
 unfold Qt at hw;have hf:=hkp.av (h.aev f);split at hw
 ·rename_i g first caps hg
  cases hw;rw[hg]at hf;generalize a.eval f=v at hf;cases hf with
  |clo _ x y _ _ hx hy ha hb=>exact⟨x,y,rfl,RepV.append (RepV.append ⟨hx,ha⟩ hv) ⟨hy,hb⟩⟩
 ·rename_i g x y hg;split at hw
  ·rename_i hx hy;cases hw;rw[hg]at hf;have e1:x = #[]:=by simpa using hx
   have e2:y = #[]:=by simpa using hy
   subst e1;subst e2;exact⟨#[],#[],hf.toP.toV,by simpa using hv⟩
  ·cases hw
 ·rename_i g first caps hg
  cases hw;rw[hg]at hf;have hf:=hf.toP;generalize a.eval f=v at hf;cases hf with
  |fn _ x y _ _ hx hy ha hb=>exact⟨x,y,rfl,RepV.append (RepV.append (RepV.ofP hx ha) hv) (RepV.ofP hy hb)⟩
 ·cases hw
theorem QG (h:Sat C st a w rho){f:Operand}{f' : FuncId}{first caps:List AV}(hw:CF st.env f=some (f',first,caps)) :∃x y,a.eval f=.func (.func f') x y/\RepV w (PiS C st rho) (Lv (A1 st.regs)) rho x first/\RepV w (PiS C st rho) (Lv (A1 st.regs)) rho y caps:=by
 unfold CF at hw;have hf:=h.aev f;split at hw
 ·rename_i g first caps hg
  cases hw;rw[hg]at hf;generalize a.eval f=v at hf;cases hf with
  |clo _ x y _ _ hx hy ha hb=>exact⟨x,y,rfl,⟨hx,ha⟩,⟨hy,hb⟩⟩
 ·rename_i g x y hg;split at hw
  ·rename_i hx hy;cases hw;rw[hg]at hf;have e1:x = #[]:=by simpa using hx
   have e2:y = #[]:=by simpa using hy
   subst e1;subst e2;exact⟨#[],#[],hf.toP.toV,⟨rfl,fun i hi=>absurd hi (by simp)⟩,⟨rfl,fun i hi=>absurd hi (by simp)⟩⟩
  ·cases hw
 ·rename_i g first caps hg
  cases hw;rw[hg]at hf;have hf:=hf.toP;generalize a.eval f=v at hf;cases hf with
  |fn _ x y _ _ hx hy ha hb=>exact⟨x,y,rfl,RepV.ofP hx ha,RepV.ofP hy hb⟩
 ·cases hw
theorem Jt {args:Array Operand}{i:Nat}(hi:i<args.toList.length):(args.map a.eval).getD i undef=a.eval (args.toList[i]):=by
 have:i<args.size:=by simpa using hi
 simp[Array.getD_eq_getD_getElem?,this]
theorem Sq {Pi:Nat->Nat->Prop}:∀{xs ys:List PV},Zc xs ys->xs.length=ys.length/\∀i,i<xs.length->∀v,RepP w Pi v (xs.getD i default)->RepP w Pi v (ys.getD i default)
 |[],[],_=>⟨rfl,fun i hi=>absurd hi (by simp)⟩
 |[],y::ys,h=>by simp[Zc]at h
 |x::xs,[],h=>by simp[Zc]at h
 |x::xs,y::ys,h=>by
  obtain⟨h1,h2⟩:=h;obtain⟨h3,h4⟩:=Sq (Pi:=Pi) h2;refine⟨by simp[h3],fun i hi v hv=>?_⟩;cases i with
  |zero=>
   have hv:RepP w Pi v x:=by simpa using hv
   have:RepP w Pi v y:=by
    rcases h1 with rfl|⟨nn,k,n,f,g,rfl,rfl,he⟩ | ⟨k,f,rfl,rfl⟩
    ·exact hv
    ·exact hv.leP (.inr (.inl ⟨nn,k,n,f,g,rfl,rfl,he⟩))
    ·exact hv.leP (.inr (.inr (.inl ⟨k,f,rfl,rfl⟩)))
   simpa using this
  |succ i=>simpa using h4 i (by simpa using hi) v (by simpa using hv)
theorem Sat.rel (h:Sat C st a w rho):Rel C w (Qq st.regs rho a.defers) (PvR st.regs rho):=by
 refine⟨h.ext,h.size,h.same,h.keep,?_,?_,?_,fun b off hX=>h.hp.bound b off hX,fun b off ⟨j,o,hj,hb,_⟩=>.inl ⟨j,o,hj,hb⟩⟩
 ·rintro b (hb|hb)
  ·exact h.own b hb
  ·obtain⟨r,h1,h2,_⟩:=h.marks.2 _ hb;cases h1;exact h2
 ·rintro b off (⟨j,o,hj,hb⟩ | hb)
  ·exact h.hp.out j o b off hj hb
  ·obtain⟨r,h1,_,_,h2⟩:=h.marks.2 _ hb;cases h1;exact h2 off
 ·rintro b (hb|hb)
  ·exact h.hp.lt hb
  ·obtain⟨r,h1,_,h2,_⟩:=h.marks.2 _ hb;cases h1;exact (Array.getElem?_eq_some_iff.1 h2).1
theorem Sat.yielded (h:Sat C st a w rho){C' : Ctx}{w' : World}{j:Nat}{r0 rest:List (List PV)}{l0 live:Bool}(hj:A1 st.regs j=some (.yld r0 l0))(hY:C'.Y rest live)(hyv:C'.yv=C.yv)(hrho:C'.rho0=C.rho0)(hw:C'.w0=w')(hE:C'.E0=Qq st.regs rho a.defers)
 (hPi:C'.Pi0=fun b o=>C'.X b o \/ PvR st.regs rho b o) (hR:Rel C' w' (Qq st.regs rho a.defers) (PvR st.regs rho)) (hsame:∀b,Qq st.regs rho a.defers b->w'.heap[b]? = w.heap[b]?)
 (hk:Keeps w (fun b o=>C.X b o \/ PvR st.regs rho b o) w' (fun b o=>C'.X b o \/ PvR st.regs rho b o)) (honly:∀i r b,A1 st.regs i=some (.yld r b)->i=j) :
 Sat C' { st with regs:=ins j (.yld rest live) st.regs } a w' rho:=by
 have hlive:∀i,Lv (A1 st.regs) i->Lv (A1 (ins j (.yld rest live) st.regs)) i/\rho i=rho i:=by
  intro i hi;refine⟨?_,rfl⟩;simp only[Lv,A4];split
  ·rfl
  ·exact hi
 have hpv:∀b off,PvR (ins j (.yld rest live) st.regs) rho b off↔PvR st.regs rho b off:=by
  intro b off;constructor
  ·rintro⟨i,o,hi,hb,hp⟩;rw[A4]at hi;split at hi
   ·cases hi;simp[D8,O5]at hb
   ·exact⟨i,o,hi,hb,hp⟩
  ·rintro⟨i,o,hi,hb,hp⟩;refine⟨i,o,?_,hb,hp⟩;rw[A4,if_neg]
   ·exact hi
   ·rintro rfl;rw[hj]at hi;cases hi;simp[D8,O5]at hb
 have hown:∀b,Own (A1 (ins j (.yld rest live) st.regs)) rho b↔Own (A1 st.regs) rho b:=by
  intro b;constructor
  ·rintro⟨i,o,hi,hb⟩;rw[A4]at hi;split at hi
   ·cases hi;simp[D8,O5]at hb
   ·exact⟨i,o,hi,hb⟩
  ·rintro⟨i,o,hi,hb⟩;refine⟨i,o,?_,hb⟩;rw[A4,if_neg]
   ·exact hi
   ·rintro rfl;rw[hj]at hi;cases hi;simp[D8,O5]at hb
 have hprv:∀b off,Prv C'.X (A1 (ins j (.yld rest live) st.regs)) rho b off↔(C'.X b off \/ PvR st.regs rho b off):=fun b off=>or_congr Iff.rfl (hpv b off);have hk1:Keeps w (Prv C.X (A1 st.regs) rho) w' (Prv C'.X (A1 (ins j (.yld rest live) st.regs)) rho):=fun b o v hp hc=>
  let ⟨h1,h2⟩:=hk b o v hp hc
  ⟨h1,fun hp'=>h2 ((hprv b o).1 hp')⟩
 have hold:∀i o,A1 (ins j (.yld rest live) st.regs) i=some o->(i=j/\o=.yld rest live) \/ (i≠j/\A1 st.regs i=some o):=by
  intro i o hi;rw[A4]at hi;split at hi
  ·rename_i e;cases hi;exact .inl ⟨e.symm,rfl⟩
  ·rename_i e;exact .inr ⟨fun e'=>e e'.symm,hi⟩
 refine⟨⟨⟨?_,?_,?_,fun b off hX=>hR.bnd b off hX⟩,hR.ext,hR.size,hR.same,?_,?_,?_⟩,fun t=>(h.env t).keeps hk1 hlive,?_,h.marks.1,?_⟩
 ·intro i o hi;rcases hold i o hi with⟨rfl,rfl⟩ | ⟨_,hi⟩
  ·exact h.hp.holds i _ hj
  ·exact (h.hp.holds i o hi).keeps hk1 hlive fun b hb=>hsame b (.inl ⟨i,o,hi,hb⟩)
 ·intro i i' oi oj b hi hi' hb hb';rcases hold i oi hi with⟨rfl,rfl⟩ | ⟨_,hi⟩
  ·simp[D8,O5]at hb
  ·rcases hold i' oj hi' with⟨rfl,rfl⟩ | ⟨_,hi'⟩
   ·simp[D8,O5]at hb'
   ·exact h.hp.sep i i' oi oj b hi hi' hb hb'
 ·intro i o b off hi hb;exact hR.out b off (.inl ((hown b).1 ⟨i,o,hi,hb⟩))
 ·intro b o v hp hc;obtain⟨h1,h2⟩:=hR.keep b o v hp hc;exact⟨h1,fun hp'=>h2 ((hprv b o).1 hp')⟩
 ·intro b hb;exact hR.own b (.inl ((hown b).1 hb))
 ·intro i r b hi;rcases hold i _ hi with⟨rfl,he⟩ | ⟨hne,hi⟩
  ·cases he;exact⟨hY,by rw[hyv];exact (h.yld i _ _ hj).2⟩
  ·exact absurd (honly i r b hi) hne
 ·intro i hi hl;rw[hrho];refine h.pin i hi ?_;simp only[Lv,A4]at hl;split at hl
  ·rename_i e;subst e;simp[Lv,hj]
  ·exact hl
 ·intro d hd;obtain⟨r,h1,h2,h3,h4⟩:=h.marks.2 d hd;have hm:QD a.defers r:=by unfold QD;rw[<- h1];exact hd
  refine⟨r,h1,hR.own r (.inr hm),?_,fun off=>hR.out r off (.inr hm)⟩;rw[hsame r (.inr hm)];exact h3
theorem Ig {j:Nat}:∀{regs:C4},DC j regs=true->∀i r b,A1 regs i=some (.yld r b)->i=j
 |[],_,i,r,b,h=>by simp[A1]at h
 |(x,o)::regs,hy,i,r,b,h=>by
  have hrec:DC j regs=true:=by cases o<;>simp only[DC,Bool.and_eq_true]at hy<;>first|exact hy.2|exact hy
  simp only[A1]at h;split at h
  ·rename_i e;cases h;subst e;simp only[DC,Bool.and_eq_true,beq_iff_eq]at hy;exact hy.1
  ·exact Ig hrec i r b h
end
end Go.AM
