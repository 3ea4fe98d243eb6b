/- What a law's walk and its plain proof need, part 2: no condition of its own. -/
import Derived.Test.YtegikiijkjlikaaGreatDoorCmA
import Derived.ChangeKeysEq
import Derived.RangeFuncRecord
import Derived.Lib.TrailingZeros
set_option linter.defProp false
set_option linter.unusedSimpArgs false
set_option linter.unusedVariables false
set_option linter.unusedSectionVars false
set_option linter.unusedVariables false
namespace Go.AM
def AS1:=@Option.bind_some
def AS6:=@Bool.false_eq_true
def AT1:=@List.mem_append_right
def AT6:=@Bool.or_eq_true
def AT7:=@List.mem_of_getElem?
def AU0:=@Option.isSome_iff_exists
def AU2:=@List.mem_append_left
def AU4:=@Option.some.inj
def AU6:=@List.map_congr_left
def AU9:=@List.mem_cons_of_mem
def AV2:=@List.contains_eq_mem
def AV8:=@Go.World.putObj_size
def AW0:=@List.mem_cons
def AW2:=@List.mem_range
def AX2:=@Go.World.putObj_heap_other
def AX4:=@List.nodup_cons
def AX5:=@Go.Sem.run_pure
def AX7:=@List.getElem?_cons_zero
def AY2:=@List.mem_iff_getElem?
def AY8:=@Function.comp_def
def AZ1:=@Array.getElem?_append
def AZ2:=@List.map_map
def AZ8:=@Option.bind_eq_some_iff
def Ba6:=@List.range'_succ
def Ba8:=@List.nodup_nil
def Ba9:=@List.mem_iff_getElem
def Bb7:=@Nat.le_of_not_lt
def Bc4:=@Int.emod_eq_of_lt
def Bd4:=@Bool.not_true
def Bd5:=@Bool.true_and
def Bd6:=@List.getElem?_cons_succ
def Bd7:=@List.mem_filter
def Be6:=@Array.getElem?_modify
def Bf5:=@List.foldl_cons
def Bf7:=@Array.toList_setIfInBounds
def Bg9:=@List.length_eq_one_iff
def Bh5:=@Array.mem_of_getElem?
def Bj2:=@Array.foldl_toList
def Bj3:=@Array.all_eq_true'
section
variable {P:Program}{C:Ctx}{st:St}{a:Act}{w:World}{rho:Nat->Value}{o:Oper}{out:Out}{d:Nat}
theorem Am6 {op:BinOp}{t:TypeId}{k l:IntKind}{x y:Int}{c:List Prop}{r:PV}(hk:k=l \/ op=.shl \/ op=.shr)(he:QZ op k x y=(c,r))(hc:D9 c)(Pi:Nat->Nat->Prop) :∃v,(binOp op t (.int k x) (.int l y)).run P w=.ok v w/\RepP w Pi v r:=by
 cases op<;>simp only[QZ,AU5]at he<;>obtain⟨rfl,rfl⟩:=he
 case shl=>
  have:¬y<0:=by simp only[D9]at hc;omega
  exact⟨_,by first|(simp[binOp,Op.shift,this];done)|(simp[binOp,Op.shift,this];rfl),.v _⟩
 case shr=>
  have:¬y<0:=by simp only[D9]at hc;omega
  exact⟨_,by first|(simp[binOp,Op.shift,this];done)|(simp[binOp,Op.shift,this];rfl),.v _⟩
 all_goals
  obtain rfl:k=l:=by rcases hk with h|h|h<;>first|exact h|cases h
 case quo=>simp only[D9]at hc;exact⟨_,by first|(simp[binOp,Op.intDiv,hc];done)|(simp[binOp,Op.intDiv,hc];rfl),.v _⟩
 case rem=>simp only[D9]at hc;exact⟨_,by first|(simp[binOp,Op.intDiv,hc];done)|(simp[binOp,Op.intDiv,hc];rfl),.v _⟩
 case add=>exact⟨_,by first|(simp[binOp,Op.intArith];done)|(simp[binOp,Op.intArith];rfl),.v _⟩
 case sub=>exact⟨_,by first|(simp[binOp,Op.intArith];done)|(simp[binOp,Op.intArith];rfl),.v _⟩
 case mul=>exact⟨_,by first|(simp[binOp,Op.intArith];done)|(simp[binOp,Op.intArith];rfl),.v _⟩
 case and=>exact⟨_,by first|(simp[binOp,Op.intBits];done)|(simp[binOp,Op.intBits];rfl),.v _⟩
 case or=>exact⟨_,by first|(simp[binOp,Op.intBits];done)|(simp[binOp,Op.intBits];rfl),.v _⟩
 case xor=>exact⟨_,by first|(simp[binOp,Op.intBits];done)|(simp[binOp,Op.intBits];rfl),.v _⟩
 case andNot=>exact⟨.int k (E4 .andNot k x y),by simp only[binOp,ne_eq,not_true_eq_false,if_false,Op.intBits,E4];rfl,.v _⟩
 case eql=>exact⟨_,by first|(simp[binOp,Op.intCmp];done)|(simp[binOp,Op.intCmp];rfl),.bb _⟩
 case neq=>exact⟨_,by first|(simp[binOp,Op.intCmp];done)|(simp[binOp,Op.intCmp];rfl),.bb _⟩
 case lss=>exact⟨_,by first|(simp[binOp,Op.intCmp];done)|(simp[binOp,Op.intCmp];rfl),.bb _⟩
 case leq=>exact⟨_,by first|(simp[binOp,Op.intCmp];done)|(simp[binOp,Op.intCmp];rfl),.bb _⟩
 case gtr=>exact⟨_,by first|(simp[binOp,Op.intCmp];done)|(simp[binOp,Op.intCmp];rfl),.bb _⟩
 case geq=>exact⟨_,by first|(simp[binOp,Op.intCmp];done)|(simp[binOp,Op.intCmp];rfl),.bb _⟩
theorem CP {op:BinOp}{t:TypeId}{x y:Operand}{v u:Value}(h1:¬(v=.nilIface/\u=.nilIface))(h2:∀xs ys,v=.agg xs->u=.agg ys->P.eqGuardType P.depth t=false) :(eqGuard op t x y v u).run P w=.ok () w:=by
 have key:∀op,op=.eql \/ op=.neq->(eqGuard op t x y v u).run P w=.ok () w:=by
  intro op hop;rcases hop with rfl|rfl<;>simp only[eqGuard,Bd4,AS6,if_false]<;>split
  ·exact absurd ⟨rfl,rfl⟩ h1
  ·simp[run_program,h2 _ _ rfl rfl]
  ·rfl
  ·exact absurd ⟨rfl,rfl⟩ h1
  ·simp[run_program,h2 _ _ rfl rfl]
  ·rfl
 cases op<;>first|exact key _ (.inl rfl)|exact key _ (.inr rfl)|rfl
theorem Cs {t:TypeId}{v u:Value}{r:Bool}(h:(Op.equal t v u).run P w=.ok r w)(neg:Bool)(h1:∀k n,v ≠ .int k n)(h2:∀s,v ≠ .string s)(h3:∀k n,v ≠ .float k n)(h4:∀k n m,v ≠ .complex k n m) :(binOp (if neg then .neq else .eql) t v u).run P w=.ok (.bool (r != neg)) w:=by
 cases neg
 ·have:binOp .eql t v u=(do pure (.bool (<- Op.equal t v u)):Sem Value):=by cases v<;>first|rfl|exact absurd rfl (h1 _ _)|exact absurd rfl (h2 _)|exact absurd rfl (h3 _ _)|exact absurd rfl (h4 _ _ _)
  simp[this,h]
 ·have:binOp .neq t v u=(do pure (.bool (!(<- Op.equal t v u))):Sem Value):=by cases v<;>first|rfl|exact absurd rfl (h1 _ _)|exact absurd rfl (h2 _)|exact absurd rfl (h3 _ _)|exact absurd rfl (h4 _ _ _)
  simp[this,h]
theorem NY {Pi:Nat->Nat->Prop}{t:TypeId}{v u:Value}{x y:PV}(hv:RepP w Pi v x)(hu:RepP w Pi u y){r:Bool}(he:MX P t x y=some r) :(∃k a b,v=.int k a/\u=.int k b/\r=(a==b)) \/ (∃a b,v=.bool a/\u=.bool b) \/ (∃a b:List UInt8,v=.string ⟨a.toArray⟩/\u=.string ⟨b.toArray⟩/\r=(a==b)) \/ (∃a b,v=.agg a/\u=.agg b):=by
 unfold MX at he;split at he
 ·split at he
  ·cases hv;cases hu;exact .inr (.inr (.inr ⟨_,_,rfl,rfl⟩))
  ·cases he
 ·unfold TT at he;split at he
  ·split at he
   ·rename_i hk;subst hk;cases he;exact .inl ⟨_,_,_,hv.toInt,hu.toInt,rfl⟩
   ·cases he
  ·split at he
   ·rename_i ha hb;cases he;exact .inr (.inl ⟨_,_,Gk hv ha,Gk hu hb⟩)
   ·cases he
  ·cases he;exact .inr (.inr (.inl ⟨_,_,hv.toStr,hu.toStr,rfl⟩))
  ·cases he
 ·cases he
theorem HJ {Pi:Nat->Nat->Prop}{e:TypeId}{k:TK}(hk:tk P e=some k)(hb:Av3 k=true){vs us:Array Value}{as bs:List PV}(hv:RowP w Pi vs as)(hu:RowP w Pi us bs)(D:Nat) :∀(m j:Nat) (r:Bool),as.length=j+m->bs.length=j+m->V2 (List.replicate m k) (as.drop j) (bs.drop j)=some r->(Op.eqItems (D+1) e 1 vs us (List.range' j m)).run P w=.ok r w
 |0,j,r,ha,hbl,h=>by rw[AY5 (by omega),AY5 (by omega)]at h;simp only[List.replicate,V2,AS0]at h;subst h;simp[Op.eqItems]
 |m+1,j,r,ha,hbl,h=>by
  have hag:Xw k=false:=by cases k<;>first|rfl|cases hb
  rw[List.replicate_succ]at h;obtain⟨r1,r2,hr1,hr2,rfl,_,_⟩:=BR (k1:=[k]) (k2:=List.replicate m k) h;simp only[AX6]at hr1 hr2;rw[Cr default (by omega),Cr default (by omega)]at hr1;simp only[V2]at hr1;have hvs:=hv.size;have hus:=hu.size;have hx:(part e vs (j*1)).run P w=.ok (vs.getD j undef) w:=by simp[part,J5 w hk,hag,AR9,show j<vs.size by omega]
  have hy:(part e us (j*1)).run P w=.ok (us.getD j undef) w:=by simp[part,J5 w hk,hag,AR9,show j<us.size by omega]
  have he:=IV hk (hv.rep j (by omega)) (hu.rep j (by omega)) hr1 D;have hrec:=HJ hk hb hv hu D m (j+1) r2 (by omega) (by omega) (by simpa[Bc8,Nat.add_comm]using hr2);simp only[Ba6,Op.eqItems,AV6,hx,hy,he,AT5];cases r1
  ·simp
  ·simp[hrec]
theorem Rq {Pi:Nat->Nat->Prop}{t:TypeId}{v u:Value}{x y:PV}(hv:RepP w Pi v x)(hu:RepP w Pi u y){r:Bool}(he:ZI P t x y=some r) :(Op.equal t v u).run P w=.ok r w/\∃xs ys,v=.agg xs/\u=.agg ys:=by
 unfold ZI at he;split at he
 ·rename_i n e ht;split at he
  ·rename_i k xs ys hk;split at he
   ·rename_i hc;have hun:=NU ht;cases hv with
    |agg vs _ hs1 _ hr1=>
    cases hu with
    |agg us _ hs2 _ hr2=>
    refine⟨?_,_,_,rfl,rfl⟩;obtain⟨i,hi,hsz⟩:=AT9.1 (show (P.info? e).map (·.size)=some 1 from hc.2);have hce:P.cellsOf e=1:=by simp[Program.cellsOf,hi,hsz]
    have hl:xs.length=n/\ys.length=n:=by
     have:=BR (k1:=List.replicate n k) (k2:=[]) (by simpa using he)
     obtain⟨_,_,_,_,_,h1,h2⟩:=this;exact⟨by simpa using h1,by simpa using h2⟩
    show (Op.equalIn (9999+1) t (.agg vs) (.agg us)).run P w=_;rw[run_equalIn_array w 9999 vs us hun hi,hce,List.range_eq_range'];exact HJ hk hc.1 ⟨hs1,hr1⟩ ⟨hs2,hr2⟩ 9998 n 0 r (by omega) (by omega) (by simpa using he)
   ·cases he
  ·cases he
 ·cases he
theorem AB2 {t e:TypeId}(hk:P.underlying t=some (.pointer e))(d:Nat)(p q:Option Addr)(h:p=none \/ q=none):(Op.equalIn (d+1) t (.pointer p) (.pointer q)).run P w=.ok (p.isNone&&q.isNone) w:=by
 rcases h with rfl|rfl
 ·simp[Op.equalIn,BQ w hk]
 ·cases p<;>simp[Op.equalIn,BQ w hk]
theorem Aa2 {t e:TypeId}(hk:P.underlying t=some (.slice e))(d:Nat)(p q:Option Addr)(n m k l:Nat)(h:p=none \/ q=none):(Op.equalIn (d+1) t (.slice p n m) (.slice q k l)).run P w=.ok (p.isNone&&q.isNone) w:=by
 rcases h with rfl|rfl
 ·simp[Op.equalIn,BQ w hk]
 ·cases p<;>simp[Op.equalIn,BQ w hk]
theorem AB3 {t e f:TypeId}(hk:P.underlying t=some (.map e f))(d:Nat)(p q:Option Nat)(h:p=none \/ q=none):(Op.equalIn (d+1) t (.map p) (.map q)).run P w=.ok (p.isNone&&q.isNone) w:=by
 rcases h with rfl|rfl
 ·simp[Op.equalIn,BQ w hk]
 ·cases p<;>simp[Op.equalIn,BQ w hk]
theorem We {t:TypeId}{a b:Array TypeId}{c:Bool}(hk:P.underlying t=some (.func a b c))(d:Nat):(Op.equalIn (d+1) t .nilFunc .nilFunc).run P w=.ok true w/\∀f x y,(Op.equalIn (d+1) t (.func f x y) .nilFunc).run P w=.ok false w:=
 ⟨by simp[Op.equalIn,BQ w hk],fun f x y=>by simp[Op.equalIn,BQ w hk]⟩
theorem Aa3 {t:TypeId}{ms:Array (String×TypeId)}(hk:P.underlying t=some (.interface ms))(d:Nat)(u:TypeId)(x:Value):(Op.equalIn (d+1) t (.iface u x) .nilIface).run P w=.ok false w:=by simp[Op.equalIn,BQ w hk]
def Odd (v:Value):Prop:=(∀xs,v ≠ .agg xs)/\(∀k n,v ≠ .int k n)/\(∀s,v ≠ .string s)/\(∀k n,v ≠ .float k n)/\(∀k n m,v ≠ .complex k n m)
theorem Ub {Pi:Nat->Nat->Prop}{live:Nat->Prop}{t:TypeId}{v u:Value}{x y:AV}(hv:RepA w Pi live rho v x)(hu:RepA w Pi live rho u y){b:Bool}(he:Az6 P t x y=some b) :(Op.equal t v u).run P w=.ok b w/\¬(v=.nilIface/\u=.nilIface)/\Odd v:=by
 show (Op.equalIn (9999+1) t v u).run P w=.ok b w/\_;generalize 9999=D;unfold Az6 at he;split at he
 ·rename_i e hk;have fin:∀p q:Option Addr,v=.pointer p->u=.pointer q->(p=none \/ q=none)->b=(p.isNone&&q.isNone)->(Op.equalIn (D+1) t v u).run P w=.ok b w/\¬(v=.nilIface/\u=.nilIface)/\Odd v:=by rintro p q rfl rfl h rfl;exact⟨AB2 hk D p q h,by simp,by simp[Odd]⟩
  split at he<;>cases he
  ·exact fin _ _ hv.toP.toV hu.toP.toV (.inl rfl) rfl
  ·have:=hu.toP;generalize u=u at this fin;cases this;exact fin _ _ hv.toP.toV rfl (.inl rfl) rfl
  ·generalize u=u at hu fin;cases hu;exact fin _ _ hv.toP.toV rfl (.inl rfl) rfl
  ·generalize u=u at hu fin;cases hu;exact fin _ _ hv.toP.toV rfl (.inl rfl) rfl
  ·have:=hv.toP;generalize v=v at this fin;cases this;exact fin _ _ rfl hu.toP.toV (.inr rfl) rfl
  ·generalize v=v at hv fin;cases hv;exact fin _ _ rfl hu.toP.toV (.inr rfl) rfl
  ·generalize v=v at hv fin;cases hv;exact fin _ _ rfl hu.toP.toV (.inr rfl) rfl
 ·rename_i e hk;have fin:∀(p q:Option Addr) (n m k l:Nat),v=.slice p n m->u=.slice q k l->(p=none \/ q=none)->b=(p.isNone&&q.isNone)->(Op.equalIn (D+1) t v u).run P w=.ok b w/\¬(v=.nilIface/\u=.nilIface)/\Odd v:=by rintro p q n m k l rfl rfl h rfl;exact⟨Aa2 hk D p q n m k l h,by simp,by simp[Odd]⟩
  split at he<;>cases he
  ·exact fin _ _ _ _ _ _ hv.toP.toV hu.toP.toV (.inl rfl) rfl
  ·have:=hv.toP;generalize v=v at this fin;cases this;exact fin _ _ _ _ _ _ rfl hu.toP.toV (.inr rfl) rfl
 ·rename_i e f hk;have fin:∀(p q:Option Nat),v=.map p->u=.map q->(p=none \/ q=none)->b=(p.isNone&&q.isNone)->(Op.equalIn (D+1) t v u).run P w=.ok b w/\¬(v=.nilIface/\u=.nilIface)/\Odd v:=by rintro p q rfl rfl h rfl;exact⟨AB3 hk D p q h,by simp,by simp[Odd]⟩
  split at he<;>cases he
  ·exact fin _ _ hv.toP.toV hu.toP.toV (.inl rfl) rfl
  ·generalize v=v at hv fin;cases hv;exact fin _ _ rfl hu.toP.toV (.inr rfl) rfl
 ·rename_i a c e hk;split at he<;>cases he
  ·rw[hv.toP.toV,hu.toP.toV];exact⟨(We hk D).1,by simp,by simp[Odd]⟩
  ·rw[hu.toP.toV];cases hv;exact⟨(We hk D).2 _ _ _,by simp,by simp[Odd]⟩
 ·rename_i ms hk;split at he<;>cases he
  ·rw[hu.toP.toV];have:=hv.toP;cases this;exact⟨Aa3 hk D _ _,by simp,by simp[Odd]⟩
 ·cases he
theorem Am7 (h:Sat C st a w rho){op:BinOp}{t yt:TypeId}{x y:Operand}(ho:o.op=.binOp op t x y yt)(he:aop P st.env st.regs d o.op=some out)(hc:D9 out.cond):OpOk P C o st a w rho out:=by
 rw[ho]at he;simp only[aop]at he;split at he
 ·rename_i c r hb;cases he;have hx:=h.aev x;have hy:=h.aev y;have fin:∀v,(eqGuard op t x y (a.eval x) (a.eval y)).run P w=.ok () w->(binOp op t (a.eval x) (a.eval y)).run P w=.ok v w->RepP w (PiS C st rho) v r->OpOk P C o st a w rho ⟨c,.p r,st.regs⟩:=by intro v h1 h2 h3;exact OpOk.pure h (by simp[execOp,ho,h1,h2]) (.p _ _ h3)
  unfold bin at hb;split at hb
  ·rename_i k n l m hxe hye;rw[hxe]at hx;rw[hye]at hy;have hxv:=hx.toP.toInt;have hyv:=hy.toP.toInt;have hg:(eqGuard op t x y (a.eval x) (a.eval y)).run P w=.ok () w:=CP (by rw[hxv];simp) (by rw[hxv];simp);have key:QZ op k n m=(c,r)/\(k=l \/ op=.shl \/ op=.shr):=by
    split at hb
    ·cases hb;exact⟨rfl,.inr (.inl rfl)⟩
    ·cases hb;exact⟨rfl,.inr (.inr rfl)⟩
    ·split at hb
     ·rename_i hkl;exact⟨AU4 hb,.inl hkl⟩
     ·cases hb
   obtain⟨v,hv,hr⟩:=Am6 (P:=P) (w:=w) (t:=t) key.2 key.1 hc (PiS C st rho);exact fin v hg (by rw[hxv,hyv];exact hv) hr
  ·have eq:∀neg:Bool,op=(if neg then .neq else .eql)->eqA P t (aev st.env x) (aev st.env y) neg=some (c,r)->OpOk P C o st a w rho ⟨c,.p r,st.regs⟩:=by
    intro neg hop heq;unfold eqA at heq;split at heq
    ·rename_i r' hcmp;cases heq;split at hcmp
     ·rename_i p q hxe hye;rw[hxe]at hx;rw[hye]at hy;have hxp:=hx.toP;have hyp:=hy.toP;obtain⟨h1,h2⟩:=IW hxp hyp hcmp hc;have hg:(eqGuard op t x y (a.eval x) (a.eval y)).run P w=.ok () w:=by refine CP ?_ h2;rintro⟨e1,e2⟩;rcases NY hxp hyp hcmp with⟨_,_,_,h3,_⟩ | ⟨_,_,h3,_⟩ | ⟨_,_,h3,_⟩ | ⟨_,_,h3,_⟩<;>rw[e1]at h3<;>cases h3
      refine fin (.bool (r' != neg)) hg ?_ (.bb _);subst hop;rcases NY hxp hyp hcmp with⟨k,n,m,h3,h4,rfl⟩ | ⟨n,m,h3,h4⟩ | ⟨n,m,h3,h4,rfl⟩ | ⟨n,m,h3,h4⟩
      ·rw[h3,h4];cases neg<;>simp[binOp,Op.intCmp,bne]
      ·exact Cs h1 neg (by rw[h3];simp) (by rw[h3];simp) (by rw[h3];simp) (by rw[h3];simp)
      ·rw[h3,h4];cases neg<;>simp[binOp,Op.stringOp]
      ·exact Cs h1 neg (by rw[h3];simp) (by rw[h3];simp) (by rw[h3];simp) (by rw[h3];simp)
     ·cases hcmp
    ·split at heq
     ·rename_i r' hcmp;cases heq;split at hcmp
      ·rename_i p q hxe hye;rw[hxe]at hx;rw[hye]at hy;obtain⟨h1,xs,ys,h3,h4⟩:=Rq hx.toP hy.toP hcmp;have hg:(eqGuard op t x y (a.eval x) (a.eval y)).run P w=.ok () w:=
        CP (by rw[h3];simp) fun _ _ _ _=>by simpa[D9]using hc
       refine fin (.bool (r' != neg)) hg ?_ (.bb _);subst hop;exact Cs h1 neg (by rw[h3];simp) (by rw[h3];simp) (by rw[h3];simp) (by rw[h3];simp)
      ·cases hcmp
     split at heq
     ·rename_i b hnil;cases heq;obtain⟨h1,h2,h3,h4,h5,h6,h7⟩:=Ub hx hy hnil;refine fin (.bool (b != neg)) (CP h2 fun xs _ e _=>absurd e (h3 xs)) ?_ (.v _);subst hop;exact Cs h1 neg h4 h5 h6 h7
     ·cases heq
   split at hb
   ·split at hb
    ·rename_i l m hxe hye;cases hb;rw[hxe]at hx;rw[hye]at hy;have hxv:=hx.toP.toStr;have hyv:=hy.toP.toStr;refine fin (.string ⟨(l++m).toArray⟩) (CP (by rw[hxv];simp) (by rw[hxv];simp)) ?_ (.str _)
     have:¬(9223372036854775807<((l.length:Int)+(m.length:Int))):=by simp only[D9]at hc;omega
     have hmx:IntKind.i64.max=9223372036854775807:=rfl;rw[hxv,hyv];simp[binOp,Op.stringOp,MY,AB0,hmx,this]
    ·cases hb
   ·exact eq false rfl hb
   ·exact eq true rfl hb
   ·cases hb
 ·cases he
end
end Go.AM
set_option linter.unusedVariables false
namespace Go.AM
section
variable {P:Program}{C:Ctx}{st:St}{a:Act}{w:World}{rho:Nat->Value}{o:Oper}{out:Out}{d:Nat}
theorem Sat.grow (h:Sat C st a w rho){w' : World}(hsz:w.heap.size<=w'.heap.size)(hheap:∀b,b<w.heap.size->w'.heap[b]? = w.heap[b]?)(hext:Ext w w':=by exact⟨rfl,rfl⟩):Sat C st a w' rho/\Kp C st.regs st.regs w w' rho rho:=by
 obtain⟨h1,h2⟩:=h.step (R':=st.regs) (rho':=rho) (w':=w') (fun _=>False) (fun _ _=>rfl) (fun j hj=>⟨hj,rfl⟩) hsz (fun j h1 h2=>absurd h2 h1) (fun j _ _ h=>h.elim) (fun b hb _=>hheap b hb)
  (fun j o b hj=>hj.elim) (fun i j oi oj b hi=>hi.elim) (fun i oi b off v hi=>hi.elim) (fun _ j o hj=>hj.elim) hext
 exact⟨h1,h2,fun i hi=>⟨hi,rfl⟩⟩
theorem IX (e:TypeId)(l:List UInt8):∃w' cap c,(Conv.stringToBytes e ⟨l.toArray⟩).run P w=.ok (.slice (some ⟨w.heap.size,0,none⟩) l.length cap) w' /\ Ext w w' /\ l.length<=cap/\w.heap.size<=w'.heap.size/\(∀b,b<w.heap.size->w'.heap[b]? = w.heap[b]?) /\
 ∀i,i<l.length->w'.cell? ⟨w.heap.size,i,none⟩=some (.int .u8 ((l.getD i 0).toNat:Nat))/\c=():=by
 have hlen:l.length<=grownCap w l.length 0 e:=grownCap_ge w _ _ e;refine⟨(w.drew.alloc (.cells ((l.toArray.map fun b=>Value.int .u8 (b.toNat:Nat))++Array.replicate (grownCap w l.length 0 e-l.length) (.int .u8 0)) e)).freeze ⟨w.heap.size,l.length+(grownCap w l.length 0 e-l.length),none⟩ 1,grownCap w l.length 0 e,(),?_,⟨rfl,rfl⟩,hlen,?_,?_,?_⟩
 ·have hsh:∀arr:Array Value,(w.drew.alloc (.cells arr e)).shape? w.heap.size=some (e,arr.size):=by
   intro arr
   have:=heap_alloc_new w.drew (.cells arr e)
   simp only[World.size_drew]at this;unfold World.shape?;rw[this]
  simp[Conv.stringToBytes,MY,Question.forced,newRow,markStringish,hsh,grownCap]
 ·simp[World.freeze]
 ·intro b hb;have h1:b≠w.heap.size:=by omega
  simp only[World.freeze,Nat.one_ne_zero,if_false,Be6,if_neg (Bc7 h1)];exact heap_alloc_old w.drew _ b hb
 ·intro i hi;refine⟨?_,rfl⟩;have hnew:=heap_alloc_new w.drew (.cells ((l.toArray.map fun b=>Value.int .u8 (b.toNat:Nat))++Array.replicate (grownCap w l.length 0 e-l.length) (.int .u8 0)) e);simp only[World.size_drew]at hnew;simp only[World.cell?,World.freeze,Nat.one_ne_zero,if_false,Be6,if_true,hnew,AT0];simp[AZ1,hi,AR7]
theorem Uc {Pi:Nat->Nat->Prop}{f:List PV}{v:Value}(hf:(GE f).isSome=true)(hl:f.length=1)(hr:RepP w Pi v (f.getD 0 default)):∃n,v=.int .u8 n/\GE f=some (UInt8.ofNat n.toNat):=by
 unfold GE at hf⊢;split at hf
 ·rename_i n;exact⟨n,hr.toInt,rfl⟩
 ·cases hf
theorem XC (ns:List Int):∀s:ByteArray,ns.foldl (fun r n=>r.push (UInt8.ofNat n.toNat)) s=⟨s.data++(ns.map fun n=>UInt8.ofNat n.toNat).toArray⟩:=by
 induction ns with
 |nil=>intro s;simp
 |cons n ns ih=>intro s;rw[Bf5,ih];apply Bg5;show (s.data.push _)++_=s.data++_;apply Array.ext';simp
theorem HK {v:Value}{n:Nat}{news:List Value}(hs:(Builtin.firstCells 1 n v).run P w=.ok news.toArray w)(hl:(Builtin.lenOf v).run P w=.ok n w)(hsl:∃b k c,v=.slice b k c){ns:List Int}(hn:news=ns.map (Value.int .u8))(hne:∀k c,v=.slice none k c->news=[]) :(Conv.bytesToString v).run P w=.ok (.string (ns.foldl (fun r n=>r.push (UInt8.ofNat n.toNat)) ByteArray.empty)) w:=by
 obtain⟨b,k,c,rfl⟩:=hsl;simp only[Builtin.lenOf,AX5,Result.ok.injEq,and_true]at hl;subst hl;cases b with
 |none=>
  have:=hne k c rfl
  subst this
  have:ns=[]:=by cases ns<;>simp at hn⊢
  subst this;simp[Conv.bytesToString,ByteArray.empty,ByteArray.emptyWithCapacity]
 |some ad=>simp only[Builtin.firstCells,AY7]at hs;rw[hn]at hs;exact run_bytesToString w ad k c ns hs
theorem XD (h:Sat C st a w rho){s t:TypeId}{x:Operand}(ho:o.op=.convert s t x)(he:aop P st.env st.regs d o.op=some out)(hc:D9 out.cond):OpOk P C o st a w rho out:=by
 rw[ho]at he;simp only[aop]at he;have hx:=h.aev x;split at he
 ·rename_i k0 k hs ht;split at he
  ·rename_i k1 n hxe;cases he;rw[hxe]at hx;refine OpOk.pure h (v:=.int k (k.wrap n)) ?_ (.p _ _ (.v _));simp[execOp,ho,convert,BQ w (Ri hs),BQ w (Ri ht),hx.toP.toInt,Conv.intToInt]
  ·cases he
 ·rename_i hs ht;split at he
  ·rename_i l hxe;cases he;rw[hxe]at hx;refine OpOk.pure h (v:=.string ⟨l.toArray⟩) ?_ (.p _ _ (.str _));simp[execOp,ho,convert,BQ w (GI hs),BQ w (GI ht),hx.toP.toStr]
  ·cases he
 ·rename_i e hs ht;split at he
  ·rename_i l hxe hel;cases he;rw[hxe]at hx;obtain⟨w',cap,c,hr,hxt,hcap,hsz,hheap,hcell⟩:=IX (P:=P) (w:=w) e l;obtain⟨h1,h2⟩:=h.grow hsz hheap hxt;refine⟨_,_,w',rho,?_,.inl rfl,h1,h2,.p _ _ (.sl true w.heap.size 0 cap 1 l.length _ (fun i _=>.int .u8 ((l.getD i 0).toNat:Nat)) hcap (fun i hi=>rfl) (fun i j hi hj=>?_) (fun i j hi hj=>?_) none fun _=>rfl)⟩
   ·simp[execOp,ho,convert,BQ w (GI hs),BQ w (Q2 ht),BQ w (Ri hel),hx.toP.toStr,hr]
   ·obtain rfl:j=0:=by omega
    refine⟨by simpa using (hcell i hi).1,?_,rfl⟩;rintro (hX|⟨j',o',hj',hbo,_⟩)
    ·have:=h.hp.bound _ _ hX;omega
    ·have:=h.hp.lt ⟨j',o',hj',hbo⟩;omega
   ·obtain rfl:j=0:=by omega
    exact .v _
  ·cases he
 ·rename_i e hs ht;split at he
  ·rename_i hel;split at he
   ·rename_i n f hsl hele;cases he;have hc:∀i,i<n->(GE (f i)).isSome=true:=hc;obtain⟨c,hsrc,hfl,hfr⟩:=La h hx hele hs rfl;have hb:∀i,i<n->∃m,c i 0=.int .u8 m/\GE (f i)=some (UInt8.ofNat m.toNat):=fun i hi=>Uc (hc i hi) (hfl i hi) (hfr i 0 hi (by omega)).1;obtain⟨g,hg⟩:∃g:Nat->Int,∀i,i<n->c i 0=.int .u8 (g i)/\GE (f i)=some (UInt8.ofNat (g i).toNat):=
     ⟨fun i=>if hi:i<n then (hb i hi).choose else 0,fun i hi=>by simp only[hi,dif_pos];exact (hb i hi).choose_spec⟩
    have hnews:Ag c n 1=((List.range n).map g).map (Value.int .u8):=by simp only[Ag,AY7,Nat.div_one,Nat.mod_one,AZ2];apply AU6;intro i hi;exact (hg i (AW2.1 hi)).1
    have hslice:∃b k cc,a.eval x=.slice b k cc:=by
     generalize hxe:aev st.env x=y at hx hsl hele;generalize a.eval x=v at hx;cases hx with
     |p _ y hy=>
      cases hy with
      |v y=>
       simp only[elems]at hele;split at hele<;>first
        |(rename_i heq;cases heq;exact⟨_,_,_,rfl⟩)
        |(cases hele;done)
        |(rename_i heq;cases heq)
      |str l=>simp[Av4]at hsl
      |slnil=>exact⟨_,_,_,rfl⟩
      |sl=>exact⟨_,_,_,rfl⟩
      |_=>simp[elems]at hele
     |vec=>exact⟨_,_,_,rfl⟩
     |vecp=>exact⟨_,_,_,rfl⟩
     |_=>simp[elems]at hele
    have hnil:∀k cc,a.eval x=.slice none k cc->Ag c n 1=[]:=by intro k cc hv;have h1:=hsrc.cells;rw[hv]at h1;simp only[Builtin.firstCells,AX5,Result.ok.injEq,and_true]at h1;simpa using (congrArg Array.toList h1).symm
    have hrun:=HK hsrc.cells (hsrc.len w) hslice hnews hnil;refine OpOk.pure h (v:=.string ⟨((List.range n).map fun i=>(GE (f i)).getD 0).toArray⟩) ?_ (.p _ _ (.str _));have hfin:(((List.range n).map g).foldl (fun r m=>r.push (UInt8.ofNat m.toNat)) ByteArray.empty)=⟨((List.range n).map fun i=>(GE (f i)).getD 0).toArray⟩:=by
     rw[XC];apply Bg5;apply Array.ext';simp only[Bi9,AZ2]
     have:ByteArray.empty.data.toList=[]:=rfl
     rw[this,List.nil_append];apply AU6;intro i hi;simp[(hg i (AW2.1 hi)).2]
    rw[hfin]at hrun;obtain⟨b,k,cc,hv⟩:=hslice;rw[hv]at hrun;simp only[execOp,ho,hv];simp[run_convert_bytes_string w s t e b k cc (Q2 hs) (Ri hel) (GI ht),hrun]
   ·cases he
  ·cases he
 ·cases he
theorem Rr (h:Sat C st a w rho){t:TypeId}{l c:Operand}(ho:o.op=.makeSlice t l c)(he:aop P st.env st.regs d o.op=some out)(hc:D9 out.cond):OpOk P C o st a w rho out:=by
 rw[ho]at he;simp only[aop]at he;split at he
 ·rename_i e n m hk hn hm hreg;split at he
  ·rename_i k z hsz hz;split at he
   ·rename_i hzl;cases he;obtain⟨h1,h2,h3,h4⟩:0<=n/\n<=m/\m*Jt P e<=140737488355328/\m<=140737488355328:=hc;obtain⟨kn,hkn⟩:=DZ (h.aev l) hn;obtain⟨km,hkm⟩:=DZ (h.aev c) hm;obtain⟨i,v,hi,hiz,rfl⟩:=Cy hz;have hk' : i.size=k:=by obtain⟨i',hi',hs'⟩:=Pz hsz;rw[hi]at hi';cases hi';exact hs'
    have hvz:v.cells.size=k:=by simpa using hzl.1
    have hby:Jt P e=i.bytes:=by simp[Jt,Program.bytesOf,hi]
    rw[hby]at h3;have w64:∀x:Int,0<=x->x<=140737488355328->IntKind.i64.wrap x=x:=by intro x hx hx';have e1:x % (2 ^ 64:Int)=x:=Bc4 hx (by omega);unfold IntKind.wrap;simp only[IntKind.bits,IntKind.signed,e1];rw[if_neg];simp;omega
    have hrange:(i.bytes:Int)*m<=140737488355328:=by have e:m*(i.bytes:Int)=(i.bytes:Int)*m:=Int.mul_comm _ _;omega
    obtain⟨arr,harr⟩:∃arr:Array Value,arr=(Array.range (m.toNat*k)).map ((if m.toNat*k=0 then #[]else v.cells)[· % (if m.toNat*k=0 then #[]else v.cells).size]!):=⟨_,rfl⟩;have hrun:(Instr.makeSlice t (a.eval l) (a.eval c)).run P w=.ok (.slice (some ⟨w.heap.size,0,none⟩) n.toNat m.toNat) (w.alloc (.cells arr e)):=by
     have b1:¬(m<0):=by omega
     have b2:¬(281474976710656<(i.bytes:Int)*m):=by omega
     have b3:¬(n<0):=by omega
     have b4:¬(m<n):=by omega
     rw[harr];by_cases hz0:m.toNat*k=0
     ·simp[Instr.makeSlice,BQ w (Q2 hk),hkn,hkm,_root_.Go.asInt,asIntOf,AL3 w hi,w64 n h1 (by omega),w64 m (by omega) h4,b1,b2,b3,b4,Kz w hsz,hz0,newRow]
     ·simp[Instr.makeSlice,BQ w (Q2 hk),hkn,hkm,_root_.Go.asInt,asIntOf,AL3 w hi,w64 n h1 (by omega),w64 m (by omega) h4,b1,b2,b3,b4,Kz w hsz,hz0,newRow,AA6 w hi hiz]
    have hget:∀i' j,i' < n.toNat->j<k->arr.getD (i' * k+j) undef=v.cells.getD j undef:=by
     intro i' j hi' hj;have hlt:=K3 (show i' < m.toNat by omega) hj;have hz0:¬(m.toNat*k=0):=by omega
     rw[harr];simp only[hz0,if_false]
     have:(i' * k+j) % v.cells.size=j:=by rw[hvz,Bc1,Bf4,Ba5 hj]
     simp[AR9,hlt,this,show j<v.cells.size by omega]
    obtain⟨h1',h2',h3'⟩:=h.fresh (Co d 0) hreg (.vec e k n.toNat (fun _=>v.cells.toList.map NP) false) (.slice (some ⟨w.heap.size,0,none⟩) n.toNat m.toNat) (w':=w.alloc (.cells arr e)) (by simp)
     (fun b hb=>heap_alloc_old w _ b hb) (fun b hb=>by simp[G5]at hb;omega) (fun hk=>by
      refine .inr ⟨w.heap.size,m.toNat,arr,rfl,heap_alloc_new w _,by omega,by rw[harr];simp,by simp only[maxLen];omega,fun i' hi'=>by simpa using hvz,fun i' j hi' hj=>?_⟩;rw[hget i' j hi' hj];have hj' : j<v.cells.size:=by omega
      have e:(v.cells.getD j undef)=v.cells[j]:=by simp[AR9,hj']
      rw[e];refine⟨?_,?_⟩
      ·simp only[AR7,AS5,AX1,AV4 hj',AT0,AS8];exact Q6 _ _ _
      ·have hall:=hzl.2;simp only[Be5,AT4,Function.comp]at hall;exact (Q6 w (fun _ _=>False) _).cell (hall _ (by simp)))
    exact⟨_,_,_,_,by simp[execOp,ho,hrun],.inl rfl,h1',⟨h2',h3'⟩,.vec _ (some ⟨w.heap.size,0,none⟩) n.toNat m.toNat (by simp[Lv,A9]) (by simp)⟩
   ·cases he
  ·cases he
 ·cases he
end
end Go.AM
set_option linter.unusedVariables false
namespace Go.AM
section
variable {P:Program}{C:Ctx}{st:St}{a:Act}{w:World}{rho:Nat->Value}{o:Oper}{out:Out}{d:Nat}
theorem Wf (off:Nat):∀(vs:List Value) (k:Nat) (cells:Array Value),off+k+vs.length<=cells.size ->
 ((vs.zipIdx k).foldl (fun cs (p:Value×Nat)=>cs.setIfInBounds (off+p.2) p.1) cells).toList=splice cells.toList (off+k) vs
 |[],k,cells,h=>by simp[splice]
 |v::vs,k,cells,h=>by simp only[AV1]at h;rw[List.zipIdx_cons,Bf5,Wf off vs (k+1) _ (by simp;omega)];have e:=list_seg_step cells.toList (off+k) v vs (by simp;omega);simpa[splice,Bf7,Bd3]using e
theorem Rs (off:Nat)(vs:Array Value)(cells:Array Value)(h:off+vs.size<=cells.size) :(vs.zipIdx.foldl (fun cs (p:Value×Nat)=>cs.setIfInBounds (off+p.2) p.1) cells).toList=splice cells.toList off vs.toList:=by rw[<- Bj2,Array.toList_zipIdx];exact Wf off vs.toList 0 cells (by simpa using h)
theorem MZ (fs:List Field)(h:∀f∈fs,(tsz P f.type).isSome=true):(fs.mapM fun f=>(do pure (f.offset,<- sizeOf f.type):Sem (Nat×Nat))).run P w=.ok (fs.map fun f=>(f.offset,(tsz P f.type).getD 0)) w:=by
 induction fs with
 |nil=>simp
 |cons f fs ih=>obtain⟨m,hm⟩:=AU0.1 (h f (by simp));rw[List.mapM_cons];simp only[AV6,Kz w hm,AT5,AX5,ih fun g hg=>h g (by simp[hg]),AU8,hm,AS8]
theorem NZ (h:Sat C st a w rho){place:Nat->Option (Nat×Nat)}:∀(parts:List (Nat×Operand)) (cs cs' : List AV) (c:Array Value) (f:List AV->Option (List AV)),
 (∀cs,Ju st.env place parts cs=f cs)->f cs=some cs' -> c.size=cs.length->RepL w (PiS C st rho) (Lv (A2 st.regs)) rho (fun i=>c.getD i undef) cs ->
 ∃c',Instr.fill place c (parts.map fun q=>(q.1,a.eval q.2))=some c' /\ c'.size=cs'.length/\RepL w (PiS C st rho) (Lv (A2 st.regs)) rho (fun i=>c'.getD i undef) cs'
 |[],cs,cs',c,f,hf,he,hs,hr=>by rw[<- hf]at he;simp only[Ju,AS0]at he;subst he;exact⟨c,rfl,hs,hr⟩
 |(i,x)::parts,cs,cs',c,f,hf,he,hs,hr=>by
  rw[<- hf]at he;simp only[Ju]at he;split at he
  ·rename_i off m hst hp;split at he
   ·rename_i hlen;have hc:=Gj (h.aev x) hst;have hfs:=Rs off (a.eval x).cells c (by omega);have hsz:((a.eval x).cells.zipIdx.foldl (fun cs (p:Value×Nat)=>cs.setIfInBounds (off+p.2) p.1) c).size=(splice cs off (cellsOf (aev st.env x))).length:=by rw[<- AW7,hfs,G6 _ _ _ (by simp;omega),G6 _ _ _ (by omega)];simpa using hs
    obtain⟨c',h1,h2,h3⟩:=NZ h parts (splice cs off (cellsOf (aev st.env x))) cs' _ _ (fun _=>rfl) he hsz (by
     have:=RepL.splice (c:=c.toList) (cs:=cs) (vs:=(a.eval x).cells.toList) (new:=cellsOf (aev st.env x)) (off:=off) (by simpa using hs)
      (by intro i hi;have:=hr i hi;simpa only[C9]using this) (by simpa using hc.1) (by intro i hi;have:=hc.2 i hi;simpa only[C9]using this) (by omega)
     intro i hi
     have:=this i hi
     simpa only[C9,hfs]using this)
    refine⟨c', ?_,h2,h3⟩;simp only[AU8,Instr.fill,hp];rw[if_neg (by simp;omega)];exact h1
   ·cases he
  ·cases he
theorem PB {t:TypeId}{i:TypeInfo}{v:Value}{Pi:Nat->Nat->Prop}{live:Nat->Prop}{rho:Nat->Value}(hall:(v.cells.toList.map NP).all Ke=true):RepL w Pi live rho (fun i=>v.cells.getD i undef) ((v.cells.toList.map NP).map .p):=by
 intro i hi;simp only[AW8,AW7]at hi;have e:(v.cells.getD i undef)=v.cells[i]:=by simp[AR9,hi]
 simp only[e];refine⟨?_,?_⟩
 ·simp only[AR7,AS5,AX1,AV4 hi,AT0,AS8];exact .p _ _ (Q6 _ _ _)
 ·simp only[Be5,AT4,Function.comp]at hall;exact (Q6 w (fun _ _=>False) _).cell (hall _ (by simp))
theorem Am8 (h:Sat C st a w rho){t:TypeId}{parts:Array (Nat×Operand)}(ho:o.op=.build t parts)(he:aop P st.env st.regs d o.op=some out):OpOk P C o st a w rho out:=by
 rw[ho]at he;simp only[aop]at he;split at he
 ·rename_i z hz;split at he
  ·rename_i cs hok hb;cases he;simp only[AS3]at hok;obtain⟨i,v,hi,hiz,rfl⟩:=Cy hz;obtain⟨c',h1,h2,h3⟩:=NZ h (place:=NQ P t) parts.toList _ cs v.cells _ (fun _=>rfl) hb (by simp) (PB (t:=t) (i:=i) hok.1);refine OpOk.pure h (v:=.agg c') ?_ (h3.mkAgg h2 fun _ _=>rfl);have hparts:(parts.map fun q=>(q.1,a.eval q.2)).toList=parts.toList.map fun q=>(q.1,a.eval q.2):=by simp
   have hs:=hok.2;unfold ZJ at hs;split at hs
   ·rename_i fs hk;obtain⟨fa,hu,rfl⟩:=DY hk;have hp:NQ P t=fun i=>((fa.toList.map fun f=>(f.offset,(tsz P f.type).getD 0)).toArray)[i]?:=by
     funext i;simp only[NQ,hk,AS5,AX1,List.getElem?_toArray];cases hf:fa[i]? with
     |none=>simp
     |some f=>
      simp only[Be5,AT4,Function.comp]at hs
      have:=hs f (by have:=Bh5 hf;simpa using this)
      obtain⟨m,hm⟩:=AU0.1 this;simp[hm]
    have hm:=MZ (P:=P) (w:=w) fa.toList (fun f hf=>by simp only[Be5,AT4,Function.comp]at hs;exact hs f hf)
    have hm' : (fa.mapM fun f=>(do pure (f.offset,<- sizeOf f.type):Sem (Nat×Nat))).run P w=.ok ((fa.toList.map fun f=>(f.offset,(tsz P f.type).getD 0)).toArray) w:=by obtain⟨fl⟩:=fa;rw[List.mapM_toArray];simp only[Sem.run_map,hm,AT5]
    rw[hp]at h1;simp only[execOp,ho,AV6,Instr.build,AA6 w hi hiz,AT5,BQ w hu,hm',hparts,h1,AX5]
   ·rename_i n e hk;obtain⟨m,hm⟩:=AU0.1 hs;have hp:NQ P t=fun i=>some (i*m,m):=by funext i;simp[NQ,hk,hm]
    rw[hp]at h1;simp only[execOp,ho,AV6,Instr.build,AA6 w hi hiz,AT5,BQ w (NU hk),Kz w hm,hparts,h1,AX5]
   ·cases hs
  ·cases he
 ·cases he
end
end Go.AM
set_option linter.unusedVariables false
namespace Go.AM
section
variable {P:Program}{C:Ctx}{st:St}{a:Act}{w:World}{rho:Nat->Value}{o:Oper}{out:Out}{d:Nat}
theorem Aa4 {regs R' : D1}{x:AV}{y:PV}(h:HE regs x=some (y,R')){i:Nat}(hi:A2 regs i=none):A2 R' i=none:=by
 unfold HE at h;split at h
 ·cases h;exact hi
 ·split at h
  ·rename_i hj;cases h;rw[A9];split
   ·rename_i e;subst e;rw[hi]at hj;cases hj
   ·exact hi
  ·cases h
 ·split at h
  ·rename_i hj;cases h;rw[A9];split
   ·rename_i e;subst e;rw[hi]at hj;cases hj
   ·exact hi
  ·cases h
 ·cases h;exact hi
 ·split at h
  ·cases h;exact hi
  ·cases h
 ·cases h
theorem Ey:∀(xs:List Operand) (st:St) (l:List PV) (R' : D1),Sat C st a w rho->IP st.regs (xs.map (aev st.env))=some (l,R') ->
 Sat C { st with regs:=R' } a w rho/\Kp C st.regs R' w w rho rho/\l.length=xs.length/\(∀i x,xs[i]? = some x->RepP w (Prv C.X (A2 R') rho) (a.eval x) (l.getD i default))/\∀i,A2 st.regs i=none->A2 R' i=none
 |[],st,l,R',h,he=>by simp only[Bh7,IP,AS0,AU5]at he;obtain⟨rfl,rfl⟩:=he;exact⟨h,Kp.refl _ _ _ _,rfl,fun i x hx=>by simp at hx,fun i hi=>hi⟩
 |x::xs,st,l,R',h,he=>by
  simp only[AU8,IP]at he;split at he
  ·rename_i y R1 hv;split at he
   ·rename_i l' R2 hvs;cases he;obtain⟨h1,h2,h3⟩:=DX h (h.aev x) hv;obtain⟨h4,h5,h6,h7,h8⟩:=Ey xs { st with regs:=R1 } l' R' h1 hvs;refine⟨h4,h3.trans h5,by simp[h6],fun i z hz=>?_,fun i hi=>h8 i (Aa4 hv hi)⟩;cases i with
    |zero=>simp only[AX7,AS0]at hz;subst hz;simpa using h5.p h2
    |succ i=>simpa using h7 i z (by simpa using hz)
   ·cases he
  ·cases he
def Kh (F:Nat->List PV):List (Nat×List PV)->Nat->List PV
 |[],i=>F i
 |(j,x)::r,i=>if i=j then x else Kh F r i
theorem PC (z:List PV)(l:List (Nat×List PV))(i:Nat):Kh (fun _=>z) l i=D4 z l i:=by
 induction l with
 |nil=>rfl
 |cons p r ih=>obtain⟨j,x⟩:=p;simp only[Kh,D4,ih]
theorem Lb {F:Nat->List PV}{j:Nat}{x:List PV}:∀(l:List (Nat×List PV)),(∀p∈l,p.1≠j)->∀i,Kh (fun i=>if i=j then x else F i) l i=if i=j then x else Kh F l i
 |[],_,i=>rfl
 |(k,y)::r,h,i=>by
  have hk:=h (k,y) (by simp);simp only[Kh,Lb r (fun p hp=>h p (by simp[hp])) i];by_cases e:i=k
  ·subst e;simp only[if_true];rw[if_neg hk]
  ·simp only[e,if_false]
theorem Ud {x:PV}(h:KN x=true):BK (.p x)=true/\cellsOf (.p x)=(AH x).map .p:=by cases x<;>simp_all [KN,BK,ZG,cellsOf,AH]
theorem Hk {Pi:Nat->Nat->Prop}{m n:Nat}:∀(ps:List (Nat×Value)) (xs:List PV) (c:Array Value) (F:Nat->List PV),ps.length=xs.length->Hi n m (ps.map (·.1)) xs=true ->
 (∀i x,ps[i]? = some x->RepP w Pi x.2 (xs.getD i default))->c.size=n*m->(∀i,i<n->(F i).length=m)->(∀i j,i<n->j<m->RepP w Pi (c.getD (i*m+j) undef) ((F i).getD j default)/\(c.getD (i*m+j) undef).oneCell' = true) ->
 ∃c',Instr.fill (fun i=>some (i*m,m)) c ps=some c' /\ c'.size=n*m/\(∀i,i<n->(Kh F ((ps.map (·.1)).zip (xs.map AH)) i).length=m) /\
  ∀i j,i<n->j<m->RepP w Pi (c'.getD (i*m+j) undef) ((Kh F ((ps.map (·.1)).zip (xs.map AH)) i).getD j default)/\(c'.getD (i*m+j) undef).oneCell' = true
 |[],xs,c,F,hl,hok,hr,hs,hF,hc=>⟨c,rfl,hs,by simpa[Kh]using hF,by simpa[Kh]using hc⟩
 |(i0,v)::ps,[],c,F,hl,hok,hr,hs,hF,hc=>by simp at hl
 |(i0,v)::ps,x::xs,c,F,hl,hok,hr,hs,hF,hc=>by
  simp only[AU8,Hi,AS3,decide_eq_true_eq,beq_iff_eq,AU3]at hok;obtain⟨⟨hi0,hst,hpl⟩,hnd,hok⟩:=hok;obtain⟨hst1,hst2⟩:=Ud hst;have hv:RepP w Pi v x:=by simpa using hr 0 (i0,v) rfl
  obtain⟨hcs,hcr⟩:=Gj (live:=fun _=>False) (rho:=fun _=>undef) (.p _ _ hv) hst1;rw[hst2]at hcs hcr;simp only[AW8]at hcs;have hle:i0*m+m<=n*m:=by rw[<- Be4];exact AU1 m hi0
  have hfs:=Rs (i0*m) v.cells c (by omega);obtain⟨c1,hc1⟩:∃c1,c1=v.cells.zipIdx.foldl (fun cs (p:Value×Nat)=>cs.setIfInBounds (i0*m+p.2) p.1) c:=⟨_,rfl⟩;rw[<- hc1]at hfs;have hs1:c1.size=n*m:=by rw[<- AW7,hfs,G6 _ _ _ (by simp;omega)];simpa using hs
  obtain⟨c',h1,h2,h3,h4⟩:=Hk ps xs c1 (fun i=>if i=i0 then AH x else F i) (by simpa using hl) hok (fun i z hz=>by simpa using hr (i+1) z (by simpa using hz)) hs1
   (fun i hi=>by
    by_cases e:i=i0
    ·simp only[e,if_true];exact hpl
    ·simp only[e,if_false];exact hF i hi) (fun i j hi hj=>by
    rw[C9,hfs,V5 _ _ _ _ _ (by simp;omega)];by_cases hpos:i0*m<=i*m+j/\i*m+j<i0*m+v.cells.toList.length
    ·rw[if_pos hpos];simp only[AW7]at hpos;obtain⟨rfl,hjj⟩:=ZY (l:=i) (i:=i0) (k:=m) (a:=j) (b:=i*m+j-i0*m) (by omega) hj (by omega);simp only[if_true]
     have:=hcr j (by simp;omega)
     rw[show i*m+j-i*m=j by omega,<- C9];refine⟨?_,this.2⟩;have h5:=this.1;simp only[AR7,AS5,AS2 (show j<(AH x).length by omega),AT0,AS8]at h5⊢;exact h5.toP
    ·rw[if_neg hpos];have hne:i≠i0:=by rintro rfl;apply hpos;simp only[AW7];omega
     simp only[hne,if_false];rw[<- C9];exact hc i j hi hj)
  have hnot:∀p∈(ps.map (·.1)).zip (xs.map AH),p.1≠i0:=by
   intro p hp e
   have:=(List.of_mem_zip hp).1
   rw[e]at this;simp only[AV2,decide_eq_false_iff_not]at hnd;exact hnd this
  refine⟨c', ?_,h2,fun i hi=>?_,fun i j hi hj=>?_⟩
  ·simp only[Instr.fill];rw[if_neg (by simp;omega)];rw[<- hc1];exact h1
  ·have:=h3 i hi
   rw[Lb _ hnot]at this;simpa[Kh]using this
  ·have:=h4 i j hi hj
   rw[Lb _ hnot]at this;simpa[Kh]using this
theorem PD (h:Sat C st a w rho){t:TypeId}{n:Nat}{parts:Array (Nat×Operand)}(ho:o.op=.buildSlice t n parts)(he:aop P st.env st.regs d o.op=some out)(hc:D9 out.cond):OpOk P C o st a w rho out:=by
 rw[ho]at he;simp only[aop]at he;split at he
 ·rename_i e hk hreg;split at he
  ·rename_i l R' m z hv hsz hz;split at he
   ·rename_i hzl;cases he;have hok:Hi n m (parts.toList.map (·.1)) l=true:=hc;obtain⟨⟨hmax,hnmax⟩,hzlen,hall⟩:=hzl;have hv' : IP st.regs ((parts.toList.map (·.2)).map (aev st.env))=some (l,R'):=by simpa[AZ2,AY8]using hv
    obtain⟨h1,h2,h3,h4,h5⟩:=Ey (parts.toList.map (·.2)) st l R' h hv';obtain⟨i,v,hi,hiz,rfl⟩:=Cy hz;have hvz:v.cells.size=m:=by simpa using hzlen
    obtain⟨arr,harr⟩:∃arr:Array Value,arr=(Array.range (n*m)).map ((if n*m=0 then #[]else v.cells)[· % (if n*m=0 then #[]else v.cells).size]!):=⟨_,rfl⟩;have hget:∀i' j,i' < n->j<m->arr.getD (i' * m+j) undef=v.cells.getD j undef:=by
     intro i' j hi' hj;have hlt:=K3 hi' hj;have hz0:¬(n*m=0):=by omega
     rw[harr];simp only[hz0,if_false]
     have:(i' * m+j) % v.cells.size=j:=by rw[hvz,Bc1,Bf4,Ba5 hj]
     simp[AR9,hlt,this,show j<v.cells.size by omega]
    have hzr:=PB (w:=w) (Pi:=Prv C.X (A2 R') rho) (live:=fun _=>False) (rho:=rho) (t:=t) (i:=i) hall;obtain⟨c',hf1,hf2,hf3,hf4⟩:=Hk (w:=w) (Pi:=Prv C.X (A2 R') rho) (m:=m) (n:=n) (parts.toList.map fun q=>(q.1,a.eval q.2)) l arr (fun _=>v.cells.toList.map NP) (by simpa using h3.symm)
     (by simpa[AZ2,AY8]using hok) (fun i x hx=>by
      rw[AS5,AT9]at hx;obtain⟨q,hq,rfl⟩:=hx;exact h4 i q.2 (by rw[AS5,hq];rfl)) (by rw[harr];simp) (fun i hi=>hzlen) (fun i' j hi' hj=>by
      rw[hget i' j hi' hj]
      have:=hzr j (by simp;omega)
      refine⟨?_,this.2⟩;have h6:=this.1;simp only[AR7,AS5,AX1,AV4 (show j<v.cells.size by omega),AT0,AS8]at h6⊢;exact h6.toP)
    have hmm:(parts.toList.map fun q=>(q.1,a.eval q.2)).map (·.1)=parts.toList.map (·.1):=by simp[AZ2,AY8]
    rw[hmm]at hf3 hf4;have hrun:(Instr.buildSlice t n (parts.map fun q=>(q.1,a.eval q.2))).run P w=.ok (.slice (some ⟨w.heap.size,0,none⟩) n n) (w.alloc (.cells c' e)):=by
     have hparts:(parts.map fun q=>(q.1,a.eval q.2)).toList=parts.toList.map fun q=>(q.1,a.eval q.2):=by simp
     have hb:¬(n*m>2 ^ 24):=by omega
     simp only[Instr.buildSlice,AV6,BQ w (Q2 hk),AT5,Kz w hsz,if_neg hb,hparts];by_cases hz0:n*m=0
     ·simp only[if_pos hz0]at harr;rw[if_pos hz0];simp only[AV6,AX5,AT5];rw[<- harr,hf1];simp[newRow]
     ·simp only[if_neg hz0]at harr;rw[if_neg hz0];simp only[AV6,AX5,AT5,AA6 w hi hiz];rw[<- harr,hf1];simp[newRow]
    obtain⟨g1,g2,g3⟩:=h1.fresh (Co d 0) (h5 _ hreg) (.vec e m n (D4 (v.cells.toList.map NP) ((parts.toList.map (·.1)).zip (l.map AH))) false) (.slice (some ⟨w.heap.size,0,none⟩) n n) (w':=w.alloc (.cells c' e)) (by simp)
     (fun b hb=>heap_alloc_old w _ b hb) (fun b hb=>by simp[G5]at hb;omega) (fun hk'=>by
      refine .inr ⟨w.heap.size,n,c',rfl,heap_alloc_new w _,AS4 _,hf2,?_,fun i' hi'=>?_,fun i' j hi' hj=>?_⟩
      ·simp only[maxLen];omega
      ·rw[<- PC];exact hf3 i' hi'
      ·rw[<- PC];exact⟨(hf4 i' j hi' hj).1.keeps hk',(hf4 i' j hi' hj).2⟩)
    exact⟨_,_,_,_,by simp[execOp,ho,hrun],.inl rfl,g1,h2.trans ⟨g2,g3⟩,.vec _ (some ⟨w.heap.size,0,none⟩) n n (by simp[Lv,A9]) (by simp)⟩
   ·cases he
  ·cases he
 ·cases he
theorem Lc {regs:D1}:∀{l:List AV}{xs:List PV},ZK l=some xs->IP regs l=some (xs,regs)
 |[],_,h=>by cases h;rfl
 |a::r,xs,h=>by
  cases a with
  |p x=>
   simp only[ZK]at h;split at h
   ·rename_i l hl;cases h;simp only[IP,HE,Lc hl]
   ·cases h
  |_=>simp[ZK]at h
theorem Na (h:Sat C st a w rho){t:TypeId}{n:Nat}{parts:Array (Nat×Operand)}(ho:o.op=.buildSlice t n parts){cc:List Prop}{x:PV}(he:Rb P st.env o.op=some (cc,x))(hc:D9 cc):OpOk P C o st a w rho ⟨cc,.p x,st.regs⟩:=by
 rw[ho]at he;simp only[Rb]at he;split at he
 ·rename_i e hk;split at he
  ·rename_i l m z hv0 hsz hz;have hv:=Lc (regs:=st.regs) hv0;split at he
   ·rename_i hzl;cases he;have hok:Hi n m (parts.toList.map (·.1)) l=true:=hc;obtain⟨⟨hmax,hnmax⟩,hzlen,hall⟩:=hzl;have hv' : IP st.regs ((parts.toList.map (·.2)).map (aev st.env))=some (l,st.regs):=by simpa[AZ2,AY8]using hv
    obtain⟨h1,h2,h3,h4,h5⟩:=Ey (parts.toList.map (·.2)) st l st.regs h hv';obtain⟨i,v,hi,hiz,rfl⟩:=Cy hz;have hvz:v.cells.size=m:=by simpa using hzlen
    obtain⟨arr,harr⟩:∃arr:Array Value,arr=(Array.range (n*m)).map ((if n*m=0 then #[]else v.cells)[· % (if n*m=0 then #[]else v.cells).size]!):=⟨_,rfl⟩;have hget:∀i' j,i' < n->j<m->arr.getD (i' * m+j) undef=v.cells.getD j undef:=by
     intro i' j hi' hj;have hlt:=K3 hi' hj;have hz0:¬(n*m=0):=by omega
     rw[harr];simp only[hz0,if_false]
     have:(i' * m+j) % v.cells.size=j:=by rw[hvz,Bc1,Bf4,Ba5 hj]
     simp[AR9,hlt,this,show j<v.cells.size by omega]
    have hzr:=PB (w:=w) (Pi:=Prv C.X (A2 st.regs) rho) (live:=fun _=>False) (rho:=rho) (t:=t) (i:=i) hall;obtain⟨c',hf1,hf2,hf3,hf4⟩:=Hk (w:=w) (Pi:=Prv C.X (A2 st.regs) rho) (m:=m) (n:=n) (parts.toList.map fun q=>(q.1,a.eval q.2)) l arr (fun _=>v.cells.toList.map NP) (by simpa using h3.symm)
     (by simpa[AZ2,AY8]using hok) (fun i x hx=>by
      rw[AS5,AT9]at hx;obtain⟨q,hq,rfl⟩:=hx;exact h4 i q.2 (by rw[AS5,hq];rfl)) (by rw[harr];simp) (fun i hi=>hzlen) (fun i' j hi' hj=>by
      rw[hget i' j hi' hj]
      have:=hzr j (by simp;omega)
      refine⟨?_,this.2⟩;have h6:=this.1;simp only[AR7,AS5,AX1,AV4 (show j<v.cells.size by omega),AT0,AS8]at h6⊢;exact h6.toP)
    have hmm:(parts.toList.map fun q=>(q.1,a.eval q.2)).map (·.1)=parts.toList.map (·.1):=by simp[AZ2,AY8]
    rw[hmm]at hf3 hf4;have hrun:(Instr.buildSlice t n (parts.map fun q=>(q.1,a.eval q.2))).run P w=.ok (.slice (some ⟨w.heap.size,0,none⟩) n n) (w.alloc (.cells c' e)):=by
     have hparts:(parts.map fun q=>(q.1,a.eval q.2)).toList=parts.toList.map fun q=>(q.1,a.eval q.2):=by simp
     have hb:¬(n*m>2 ^ 24):=by omega
     simp only[Instr.buildSlice,AV6,BQ w (Q2 hk),AT5,Kz w hsz,if_neg hb,hparts];by_cases hz0:n*m=0
     ·simp only[if_pos hz0]at harr;rw[if_pos hz0];simp only[AV6,AX5,AT5];rw[<- harr,hf1];simp[newRow]
     ·simp only[if_neg hz0]at harr;rw[if_neg hz0];simp only[AV6,AX5,AT5,AA6 w hi hiz];rw[<- harr,hf1];simp[newRow]
    obtain⟨g1,g2⟩:=h.grow (w':=w.alloc (.cells c' e)) (by simp) (fun b hb=>heap_alloc_old w _ b hb);have hnew:∀off,¬Prv C.X (A2 st.regs) rho w.heap.size off:=by
     rintro off (hX|⟨j',o',hj',hbo,_⟩)
     ·have:=h.hp.bound _ _ hX;omega
     ·have:=h.hp.lt ⟨j',o',hj',hbo⟩;omega
    refine⟨_,_,w.alloc (.cells c' e),rho,by simp[execOp,ho,hrun],.inl rfl,g1,g2,.p _ _ (.sl true w.heap.size 0 n m n _ (fun i' j=>c'.getD (i' * m+j) undef) (AS4 _) (fun i' hi'=>by rw[<- PC];exact hf3 i' hi') (fun i' j hi' hj=>?_) (fun i' j hi' hj=>?_) none fun _=>rfl)⟩
    ·refine⟨?_,hnew _,?_⟩
     ·have hlt:=K3 hi' hj
      have:=H1 (heap_alloc_new w (.cells c' e)) (o:=i' * m+j) (by rw[hf2];exact hlt)
      rw[AV3];exact this
     ·have:=(hf4 i' j hi' hj).2;exact this
    ·rw[<- PC];exact (hf4 i' j hi' hj).1.keeps fun b o v hp hc=>⟨by rw[<- hc];exact AW1 (heap_alloc_old w _ b (AZ7 w ⟨b,o,none⟩ hc)),hp⟩
   ·cases he
  ·cases he
 ·cases he
theorem XE (h:Sat C st a w rho){cc:List Prop}{x:PV}(he:Rb P st.env o.op=some (cc,x))(hc:D9 cc):OpOk P C o st a w rho ⟨cc,.p x,st.regs⟩:=by
 cases ho:o.op with
 |buildSlice t n parts=>exact Na h ho he hc
 |_=>rw[ho]at he;simp[Rb]at he
end
end Go.AM
set_option linter.unusedVariables false
namespace Go.AM
section
variable {P:Program}{C:Ctx}{st:St}{a:Act}{w:World}{rho:Nat->Value}{o:Oper}{out:Out}{d:Nat}
theorem PF {b:Bool}:∀(n:Nat) (t:TypeId) (ks:List TK),lay P n t=some ks->∀(vs:Array Value) (off D:Nat),n<=D->off+ks.length<=vs.size ->
 ∃x,(part t vs off).run P w=.ok x w/\(Instr.checkKey b D t x).run P w=.ok () w:=by
 intro n
 induction n with
 |zero=>intro t ks h;simp[lay]at h
 |succ n ih=>
  intro t ks hl vs off D hD ha;obtain⟨D,rfl⟩:∃D',D=D' + 1:=⟨D-1,by omega⟩;cases hk:tk P t with
  |none=>
   have:P.underlying t=none:=by unfold tk at hk;cases hu:P.underlying t<;>simp[hu]at hk⊢
   simp[lay,this]at hl
  |some k=>
   by_cases hs:∀fs,k ≠ .struct fs
   ·obtain⟨rfl,hag⟩:=Rp hk hl hs;simp only[AX6]at ha;refine⟨vs.getD off undef,?_,?_⟩
    ·simp[part,J5 w hk,hag,AR9,show off<vs.size by omega]
    ·obtain⟨dd,hu,rfl⟩:=AZ hk;simp only[lay,hu]at hl;cases dd<;>simp at hl<;>first
      |(simp[Instr.checkKey,BQ w hu];done)
      |exact absurd rfl (hs _)
   ·obtain⟨fs,rfl⟩:∃fs,k=.struct fs:=AV5 fun hn=>hs fun fs e=>hn ⟨fs,e⟩;obtain⟨fa,hun,_⟩:=DY hk;simp only[lay,hun]at hl;split at hl
    ·rename_i l hlf;split at hl
     ·rename_i hsz;cases hl;refine⟨.agg (vs.extract off (off+ks.length)),by simp[part,J5 w hk,Xw,Kz w hsz],?_⟩;generalize hvs' : vs.extract off (off+ks.length)=vs';have hsz' : vs'.size=0+ks.length:=by rw[<- hvs'];simp;omega
      simp only[Instr.checkKey,AV6,BQ w hun,AT5];rw[<- Array.forIn_toList];have hin:∀(fl:List Field) (o:Nat) (l:List TK),Az5 (lay P n) fl o=some l->vs'.size=o+l.length ->
       (forIn fl PUnit.unit (fun f _=>(do
        if f.name ≠ "_" then do
         Instr.checkKey b D f.type (<- part f.type vs' f.offset)
         pure (ForInStep.yield PUnit.unit)
        else pure (ForInStep.yield PUnit.unit):Sem (ForInStep PUnit)))).run P w=.ok PUnit.unit w:=by
       intro fl
       induction fl with
       |nil=>intro o l _ _;simp
       |cons f fl ihf=>
        intro o l h1 h2;simp only[Az5]at h1;split at h1
        ·cases h1
        ·rename_i hoff;have hoff:f.offset=o:=AV5 hoff;split at h1
         ·rename_i ka hka;split at h1
          ·rename_i kb hkb;cases h1;simp only[AW5]at h2;obtain⟨x,hx,hc⟩:=ih f.type ka hka vs' o D (by omega) (by omega);have hrec:=ihf (o+ka.length) kb hkb (by omega);rw[List.forIn_cons];by_cases hn:f.name ≠ "_"
           ·simp only[AV6,if_pos hn,hoff,hx,hc,AT5,AX5];exact hrec
           ·simp only[AV6,if_neg hn,AT5,AX5];exact hrec
          ·cases h1
         ·cases h1
      have:=hin fa.toList 0 ks hlf hsz'
      simp only[ne_eq]at this⊢
      first
       |exact this
       |(simp only[this];done)
       |(rw[this];rfl)
     ·cases hl
    ·cases hl
theorem Ld {Pi:Nat->Nat->Prop}{b:Bool}{t:TypeId}{v:Value}{x:PV}(hk:Kf P t x=true)(hv:RepP w Pi v x):(Instr.checkKey b 10000 t v).run P w=.ok () w:=by
 unfold Kf at hk;split at hk
 ·rename_i fs ht;split at hk
  ·rename_i ks cs hl;simp only[beq_iff_eq]at hk;cases hv with
   |agg vs _ hs _ _=>
    obtain⟨y,hy,hc⟩:=PF (P:=P) (w:=w) (b:=b) 10 t ks hl vs 0 10000 (by omega) (by omega);have hl':=hl;obtain⟨fa,hun,_⟩:=DY ht;simp only[lay,hun]at hl';split at hl'
    ·split at hl'
     ·rename_i hsz;cases hl'
      have:vs.extract 0 ks.length=vs:=by rw[<- hk,<- hs];simp
      have e1:(part t vs 0).run P w=.ok (.agg vs) w:=by simp[part,J5 w ht,Xw,Kz w hsz,this]
      rw[e1]at hy;cases hy;exact hc
     ·cases hl'
    ·cases hl'
  ·cases hk
 ·rename_i k hns ht;obtain⟨dd,hu,rfl⟩:=AZ ht;show (Instr.checkKey b (9999+1) t v).run P w=.ok () w;generalize 9999=D;cases dd<;>simp[TP,keyK]at hk<;>simp[Instr.checkKey,BQ w hu]
 ·cases hk
def EntL (w:World)(Pi:Nat->Nat->Prop)(ents:List MapEntry)(es:List (PV×PV)):Prop:=
 ents.length=es.length/\∀i,i<es.length->RepP w Pi (ents.getD i default).key (es.getD i default).1/\RepP w Pi (ents.getD i default).val (es.getD i default).2
theorem EntL.cons {Pi:Nat->Nat->Prop}{e:MapEntry}{ents:List MapEntry}{p:PV×PV}{es:List (PV×PV)}(h:EntL w Pi (e::ents) (p::es)):RepP w Pi e.key p.1/\RepP w Pi e.val p.2/\EntL w Pi ents es:=
 ⟨by simpa using (h.2 0 (by simp)).1,by simpa using (h.2 0 (by simp)).2,by simpa using h.1,fun i hi=>by simpa using h.2 (i+1) (by simpa using hi)⟩
def Fu (cmp:PV->PV->Option Bool)(k:PV):List (PV×PV)->Option (Option Nat)
 |[]=>some none
 |(a,_)::r=>match cmp k a with
  |some true=>some (some 0)
  |some false=>(Fu cmp k r).map fun q=>q.map (· + 1)
  |none=>none
theorem Oa {cmp:PV->PV->Option Bool}{k:PV}:∀{es:List (PV×PV)}{r:Option PV},find cmp k es=some r->∃q,Fu cmp k es=some q/\r=q.map fun j=>(es.getD j default).2
 |[],r,h=>by simp only[find,AS0]at h;subst h;exact⟨none,rfl,rfl⟩
 |(a,x)::es,r,h=>by
  simp only[find]at h;split at h
  ·rename_i hc;cases h;exact⟨some 0,by simp[Fu,hc],by simp⟩
  ·rename_i hc;obtain⟨q,h1,h2⟩:=Oa h;refine⟨q.map (· + 1),by simp[Fu,hc,h1],?_⟩;rw[h2];cases q<;>simp
  ·cases h
theorem Rt {cmp:PV->PV->Option Bool}{k x:PV}:∀{es es' : List (PV×PV)},upd cmp k x es=some es' -> ∃q,Fu cmp k es=some q/\(q=none->es' = es++[(k,x)])/\∀j,q=some j->es' = es.set j (k,x)
 |[],es',h=>by simp only[upd,AS0]at h;subst h;exact⟨none,rfl,fun _=>rfl,fun j h=>by cases h⟩
 |(a,y)::es,es',h=>by
  simp only[upd]at h;split at h
  ·rename_i hc;cases h;exact⟨some 0,by simp[Fu,hc],fun h=>(by cases h),fun j hj=>by cases hj;simp⟩
  ·rename_i hc;rw[AT9]at h;obtain⟨e1,he1,rfl⟩:=h;obtain⟨q,h1,h2,h3⟩:=Rt he1;refine⟨q.map (· + 1),by simp[Fu,hc,h1],fun hq=>?_,fun j hj=>?_⟩
   ·cases q with
    |none=>rw[h2 rfl];rfl
    |some j=>simp at hq
   ·cases q with
    |none=>simp at hj
    |some j'=>simp at hj;subst hj;rw[h3 j' rfl];rfl
  ·cases h
theorem IY {cmp:PV->PV->Option Bool}{k:PV}:∀{es:List (PV×PV)}{j:Nat},Fu cmp k es=some (some j)->j<es.length/\cmp k (es.getD j default).1=some true
 |[],j,h=>by simp[Fu]at h
 |(a,y)::es,j,h=>by
  simp only[Fu]at h;split at h
  ·rename_i hc;cases h;exact⟨by simp,by simpa using hc⟩
  ·rename_i hc;rw[AT9]at h;obtain⟨q,h1,h2⟩:=h;cases q with
   |none=>simp at h2
   |some j'=>simp at h2;subst h2;obtain⟨h3,h4⟩:=IY h1;exact⟨by simpa using h3,by simpa using h4⟩
  ·cases h
theorem Fa {Pi:Nat->Nat->Prop}{kt:TypeId}{k:Value}{x:PV}(hk:RepP w Pi k x)(hc:D9 (Pw P kt)):∀(es:List (PV×PV)) (ents:List MapEntry) (i:Nat) (r:Option Nat),EntL w Pi ents es->Fu (MX P kt) x es=some r ->
 (Instr.findAsking kt k ents i).run P w=.ok (r.map fun j=>(i+j,(ents.getD j default).val)) w
 |[],ents,i,r,he,hf=>by obtain rfl:ents=[]:=AW4 (by simpa using he.1);simp only[Fu,AS0]at hf;subst hf;simp[Instr.findAsking]
 |(a,b)::es,[],i,r,he,hf=>by simp[EntL]at he
 |(a,b)::es,e::ents,i,r,he,hf=>by
  obtain⟨h1,h2,h3⟩:=he.cons;simp only[Fu]at hf;split at hf
  ·rename_i hcmp;cases hf
   have:=(IW hk h1 hcmp hc).1
   simp[Instr.findAsking,this]
  ·rename_i hcmp
   have:=(IW hk h1 hcmp hc).1
   rw[AT9]at hf;obtain⟨q,hq,rfl⟩:=hf;have hr:=Fa hk hc es ents (i+1) q h3 hq;simp only[Instr.findAsking,AV6,this,AT5,AS6,if_false,hr];cases q with
   |none=>rfl
   |some j=>simp;omega
  ·cases hf
theorem Lf {Pi:Nat->Nat->Prop}{kt:TypeId}{dd:TypeDesc}(hu:P.underlying kt=some dd){k e:Value}{x a:PV}(hk:RepP w Pi k x)(he:RepP w Pi e a){r q:Bool}(hc:MX P kt x a=some r)(hs:Instr.sameNow dd k e=some q):q=r:=by
 have htk:tk P kt=some (TP dd):=by simp[tk,hu]
 unfold MX at hc;rw[htk]at hc;unfold Instr.sameNow at hs;split at hs
 ·simp only[TP]at hc;cases hk;cases he;simp only[TT]at hc;split at hs
  ·rename_i hkk;rw[if_pos hkk]at hc;cases hs;cases hc;rfl
  ·cases hs
 ·simp only[TP]at hc;cases hk with
  |v=>simp[TT]at hc
  |str l=>
   cases he with
   |v=>simp[TT]at hc
   |str m=>simp only[TT,AS0]at hc;simp only[AS0]at hs;rw[<- hs,<- hc,beq_toListBytes];simp
 ·simp only[TP]at hc;cases hk<;>cases he<;>simp only[TT,QY,AS0]at hc hs<;>exact hs.symm.trans hc
 ·cases hs
theorem HL {Pi:Nat->Nat->Prop}{kt:TypeId}{dd:TypeDesc}(hu:P.underlying kt=some dd){k:Value}{x:PV}(hk:RepP w Pi k x):∀(es:List (PV×PV)) (ents:List MapEntry) (i:Nat) (r:Option Nat) (q:Option (Nat×Value)),EntL w Pi ents es->Fu (MX P kt) x es=some r ->
 Instr.findNow dd k ents i=some q->q=r.map fun j=>(i+j,(ents.getD j default).val)
 |[],ents,i,r,q,he,hf,hn=>by obtain rfl:ents=[]:=AW4 (by simpa using he.1);simp only[Fu,AS0]at hf;simp only[Instr.findNow,AS0]at hn;subst hf;subst hn;rfl
 |(a,b)::es,[],i,r,q,he,hf,hn=>by simp[EntL]at he
 |(a,b)::es,e::ents,i,r,q,he,hf,hn=>by
  obtain⟨h1,h2,h3⟩:=he.cons;simp only[Fu]at hf;simp only[Instr.findNow]at hn;split at hn
  ·rename_i hs;cases hn;split at hf
   ·cases hf;simp
   ·rename_i hcmp
    have:=Lf hu hk h1 hcmp hs;cases this
   ·cases hf
  ·rename_i hs;split at hf
   ·rename_i hcmp
    have:=Lf hu hk h1 hcmp hs;cases this
   ·rw[AT9]at hf;obtain⟨r',hr',rfl⟩:=hf
    have:=HL hu hk es ents (i+1) r' q h3 hr' hn
    rw[this];cases r' with
    |none=>rfl
    |some j=>simp;omega
   ·cases hf
  ·cases hn
theorem HM {Pi:Nat->Nat->Prop}{kt:TypeId}{k:Value}{x:PV}(hk:RepP w Pi k x)(hok:Kf P kt x=true)(hc:D9 (Pw P kt)){es:List (PV×PV)}{ents:List MapEntry}{r:Option Nat}(he:EntL w Pi ents es)(hf:Fu (MX P kt) x es=some r) :(Instr.findKey kt k ents).run P w=.ok (r.map fun j=>(j,(ents.getD j default).val)) w:=by
 have hu:∃dd,P.underlying kt=some dd:=by
  unfold Kf at hok;split at hok
  ·rename_i ht;obtain⟨dd,hu,_⟩:=AZ ht;exact⟨dd,hu⟩
  ·rename_i ht;obtain⟨dd,hu,_⟩:=AZ ht;exact⟨dd,hu⟩
  ·cases hok
 obtain⟨dd,hu⟩:=hu;cases hn:Instr.findNow dd k ents 0 with
 |some q=>
  have:=HL hu hk es ents 0 r q he hf hn
  rw[this]at hn;simp[Instr.findKey,BQ w hu,hn]
 |none=>
  have:=Fa hk hc es ents 0 r he hf
  simp[Instr.findKey,BQ w hu,hn,this]
theorem Ru {Pi:Nat->Nat->Prop}{v:Value}{x:PV}{b:Bool}(h:RepP w Pi v x)(hb:QY x=some b):v=.bool b:=by
 unfold QY at hb;split at hb
 ·cases hb;cases h;rfl
 ·cases hb;cases h;rfl
 ·cases hb
theorem Ue {Pi:Nat->Nat->Prop}{k:TK}{v u:Value}{x y:PV}(hv:RepP w Pi v x)(hu:RepP w Pi u y)(he:TT k x y=some true):v=u/\∀n,Instr.sameBits n v u=true:=by
 unfold TT at he;split at he
 ·split at he
  ·rename_i hkk;subst hkk;cases hv;cases hu;simp only[AS0,beq_iff_eq]at he;subst he;exact⟨rfl,fun n=>by cases n<;>simp[Instr.sameBits]⟩
  ·cases he
 ·split at he
  ·rename_i a b h1 h2;simp only[AS0,beq_iff_eq]at he;subst he;have e1:=Ru hv h1;have e2:=Ru hu h2;subst e1;subst e2;exact⟨rfl,fun n=>by cases n<;>simp[Instr.sameBits]⟩
  ·cases he
 ·cases hv with
  |str l=>
   cases hu with
   |str m=>simp only[AS0,beq_iff_eq]at he;subst he;exact⟨rfl,fun n=>by cases n<;>(simp only[Instr.sameBits];rw[beq_toListBytes];simp)⟩
 ·cases he
theorem Wg {Pi:Nat->Nat->Prop}:∀{ks:List TK}{xs ys:List PV}(f g:Nat->Value),(∀i,i<xs.length->RepP w Pi (f i) (xs.getD i default))->(∀i,i<ys.length->RepP w Pi (g i) (ys.getD i default))->V2 ks xs ys=some true ->
 xs.length=ys.length/\∀i,i<xs.length->f i=g i/\∀n,Instr.sameBits n (f i) (g i)=true
 |ks,[],ys,f,g,hf,hg,he=>by cases ks<;>cases ys<;>simp[V2]at he⊢
 |[],x::xs,ys,f,g,hf,hg,he=>by simp[V2]at he
 |k::ks,x::xs,[],f,g,hf,hg,he=>by simp[V2]at he
 |k::ks,x::xs,y::ys,f,g,hf,hg,he=>by
  have hx:RepP w Pi (f 0) x:=by simpa using hf 0 (by simp)
  have hy:RepP w Pi (g 0) y:=by simpa using hg 0 (by simp)
  simp only[V2]at he;split at he
  ·split at he
   ·obtain⟨h1,h2⟩:=Ue hx hy he;refine⟨rfl,fun i hi=>?_⟩;simp only[AX6]at hi;obtain rfl:i=0:=by omega
    exact⟨h1,h2⟩
   ·cases he
  ·split at he
   ·rename_i p q hp hq;simp only[AS0,AS3]at he;obtain⟨rfl,rfl⟩:=he;obtain⟨h1,h2⟩:=Ue hx hy hp;obtain⟨h3,h4⟩:=Wg (fun i=>f (i+1)) (fun i=>g (i+1)) (fun i hi=>by simpa using hf (i+1) (by simpa using hi)) (fun i hi=>by simpa using hg (i+1) (by simpa using hi)) hq;refine⟨by simpa using h3,fun i hi=>?_⟩;cases i with
    |zero=>exact⟨h1,h2⟩
    |succ i=>exact h4 i (by simpa using hi)
   ·cases he
theorem AB4 {Pi:Nat->Nat->Prop}{t:TypeId}{v u:Value}{x y:PV}(hv:RepP w Pi v x)(hu:RepP w Pi u y)(he:MX P t x y=some true):v=u/\Instr.sameBits 10000 v u=true:=by
 unfold MX at he;split at he
 ·split at he
  ·rename_i ks xs ys hl;cases hv with
   |agg vs _ hs _ hr=>
    cases hu with
    |agg us _ hs' _ hr'=>
     obtain⟨h1,h2⟩:=Wg (fun i=>vs.getD i undef) (fun i=>us.getD i undef) hr hr' he;have e:vs=us:=by
      refine Array.ext (by omega) fun i hi hi'=>?_
      have:=(h2 i (by omega)).1
      simpa[AR9,hi,hi']using this
     subst e;refine⟨rfl,?_⟩
     have:∀n,Instr.sameBits (n+1) (.agg vs) (.agg vs)=true:=by
      intro n;simp only[Instr.sameBits,BEq.rfl,Bd5,AT4];intro p hp;obtain⟨i,hi,rfl⟩:=Ba9.1 hp;have hi' : i<vs.size:=by simpa using hi
      have:=(h2 i (by omega)).2 n
      simpa[AR9,hi']using this
     exact this 9999
  ·cases he
 ·obtain⟨h1,h2⟩:=Ue hv hu he;exact⟨h1,h2 _⟩
 ·cases he
end
end Go.AM
set_option linter.unusedVariables false
namespace Go.AM
section
variable {P:Program}{C:Ctx}{st:St}{a:Act}{w:World}{rho:Nat->Value}{o:Oper}{out:Out}{d:Nat}
theorem Rv {Pi:Nat->Nat->Prop}{e:TypeId}{z:PV}(hz:KO P e=some z):∃v,(zeroValue e).run P w=.ok v w/\RepP w Pi v z:=by
 unfold KO at hz;split at hz
 ·rename_i v hv;rw[AZ8]at hv;obtain⟨i,hi,hiz⟩:=hv;refine⟨v,AA6 w hi hiz,?_⟩;split at hz
  ·rename_i cs;split at hz
   ·rename_i hall;cases hz;simp only[Be5,AT4,Function.comp]at hall;refine .agg cs _ (by simp) (fun i hi=>?_) fun i hi=>?_
    ·have hi' : i<cs.size:=by simpa using hi
     have:cs.getD i undef=cs[i]:=by simp[AR9,hi']
     rw[this];exact (Q6 w Pi _).cell (hall _ (by simp))
    ·have hi' : i<cs.size:=by simpa using hi
     have:cs.getD i undef=cs[i]:=by simp[AR9,hi']
     rw[this];have e:(cs.toList.map NP).getD i default=NP cs[i]:=by simp[hi']
     rw[e];exact Q6 w Pi _
   ·cases hz
  ·cases hz;exact Q6 w Pi _
 ·cases hz
theorem Aa5 (h:Sat C st a w rho){t:TypeId}{m k:Operand}{ok:Bool}(ho:o.op=.lookup t m k ok)(he:aop P st.env st.regs d o.op=some out)(hc:D9 out.cond):OpOk P C o st a w rho out:=by
 rw[ho]at he;simp only[aop]at he;split at he
 ·rename_i x R' hv;split at he
  ·rename_i c y hl;cases he;obtain⟨h1,h2,h3⟩:=DX h (h.aev k) hv;have hm:=h3.av (h.aev m);unfold IQ at hl;split at hl
   ·rename_i kt e ht;have fin:∀(ents:Array MapEntry) (es:List (PV×PV)) (r:Option PV),((a.eval m=.map none/\ents = #[]) \/ ∃r clock,a.eval m=.map (some r)/\w.heap[r]? = some (.map ents clock))->EntL w (Prv C.X (A2 R') rho) ents.toList es->Kf P kt x=true->find (MX P kt) x es=some r ->
     (match (some r:Option (Option PV))with
      |some (some x)=>some (Pw P kt,if ok then AV.tup [.p x,.bool true]else .p x)
      |some none=>match KO P e with
       |some z=>some (Pw P kt,if ok then AV.tup [.p z,.bool false]else .p z)
       |none=>none
      |none=>none)=some (c,y)->OpOk P C o st a w rho ⟨c,y,R'⟩:=by
     intro ents es r hget hent hkey hf hres;have hcc:D9 (Pw P kt):=by
      cases r with
      |some x=>simp only[AS0,AU5]at hres;rw[hres.1];exact hc
      |none=>
       simp only at hres;split at hres
       ·simp only[AS0,AU5]at hres;rw[hres.1];exact hc
       ·cases hres
     obtain⟨q,hq,hrq⟩:=Oa hf;have hfk:=HM h2 hkey hcc hent hq;have hck:=Ld (b:=ents.isEmpty) hkey h2;have last:∀(v:Value) (b:Bool) (z:PV),RepP w (Prv C.X (A2 R') rho) v z->(Instr.lookup t (a.eval m) (a.eval k) ok).run P w=.ok (if ok then .tuple #[v,.bool b]else v) w->y=(if ok then AV.tup [.p z,.bool b]else .p z)->OpOk P C o st a w rho ⟨c,y,R'⟩:=by
      intro v b z hv hr hy;refine⟨_,_,w,rho,by simp[execOp,ho,hr];rfl,.inl rfl,h1,h3,?_⟩;rw[hy];cases ok
      ·exact .p _ _ hv
      ·refine .tup _ _ rfl fun i hi=>?_;simp only[AV1,Bc2]at hi
       match i,hi with
       |0,_=>exact .p _ _ hv
       |1,_=>exact .p _ _ (.bb b)
     have hrun:∀(v:Value) (b:Bool),(q.map fun j=>(j,(ents.toList.getD j default).val))=(if b then some (q.getD 0,v)else none)->(b=false->(zeroValue e).run P w=.ok v w)->(Instr.lookup t (a.eval m) (a.eval k) ok).run P w=.ok (if ok then .tuple #[v,.bool b]else v) w:=by
      intro v b hqb hz;unfold Instr.lookup;rcases hget with⟨hm',rfl⟩ | ⟨r,clock,hm',hheap⟩
      ·simp only[AV6,BQ w (NT ht),AT5,hm',AX5,hck,hfk,hqb];cases b
       ·simp[hz rfl]
       ·simp
      ·have hg:(getObj r).run P w=.ok (.map ents clock) w:=by simp[getObj,Sem.run,hheap]
       simp only[AV6,BQ w (NT ht),AT5,hm',hg,AX5,hck,hfk,hqb];cases b
       ·simp[hz rfl]
       ·simp
     cases q with
     |none=>
      simp only[Option.map_none]at hrq;subst hrq;simp only at hres;split at hres
      ·rename_i z hz;simp only[AS0,AU5]at hres;obtain⟨v,hv1,hv2⟩:=Rv (w:=w) (Pi:=Prv C.X (A2 R') rho) hz;exact last v false z hv2 (hrun v false rfl fun _=>hv1) hres.2.symm
      ·cases hres
     |some j=>simp only[AT0]at hrq;subst hrq;simp only[AS0,AU5]at hres;obtain⟨hj,_⟩:=IY hq;exact last _ true _ (hent.2 j hj).2 (hrun _ true rfl (fun h=>by cases h)) hres.2.symm
    split at hl
    ·rename_i x' hsome;split at hsome
     ·cases hsome
     ·rename_i j hko hm1;split at hsome
      ·rename_i es hj;rw[hm1]at hm;have hh:=h1.hp.holds j _ hj;obtain⟨b,ents,clock,hr,hb,hs,hrep⟩:=hh;have hmv:a.eval m=.map (some b):=by
        generalize a.eval m=mv at hm;cases hm with
        |mref _ r hl' hr'=>rw[hr]at hr';cases hr';rfl
       exact fin ents es (some x') (.inr ⟨b,clock,hmv,hb⟩) ⟨by simpa using hs,fun i hi=>by simpa using hrep i hi⟩ hko hsome hl
      ·cases hsome
     ·cases hsome
    ·rename_i hnone;split at hnone
     ·rename_i hko hm1;rw[hm1]at hm;exact fin #[] [] none (.inl ⟨hm.toP.toV,rfl⟩) ⟨rfl,fun i hi=>absurd hi (by simp)⟩ hko rfl hl
     ·rename_i j hko hm1;split at hnone
      ·rename_i es hj;rw[hm1]at hm;have hh:=h1.hp.holds j _ hj;obtain⟨b,ents,clock,hr,hb,hs,hrep⟩:=hh;have hmv:a.eval m=.map (some b):=by
        generalize a.eval m=mv at hm;cases hm with
        |mref _ r hl' hr'=>rw[hr]at hr';cases hr';rfl
       exact fin ents es none (.inr ⟨b,clock,hmv,hb⟩) ⟨by simpa using hs,fun i hi=>by simpa using hrep i hi⟩ hko hnone hl
      ·cases hnone
     ·cases hnone
    ·cases hl
   ·cases hl
  ·cases he
 ·cases he
theorem Rw (h:Sat C st a w rho){t:TypeId}{m k x:Operand}(ho:o.op=.mapUpdate t m k x)(he:aop P st.env st.regs d o.op=some out)(hc:D9 out.cond):OpOk P C o st a w rho out:=by
 rw[ho]at he;simp only[aop]at he;split at he
 ·rename_i kt e j kp ht hm0 hk0;split at he
  ·rename_i y R' hv;split at he
   ·rename_i es hj;split at he
    ·rename_i es' hko hupd;cases he;have hkr:=h.aev k;rw[hk0]at hkr;obtain⟨h1,h2,h3⟩:=DX h (h.aev x) hv;have hm:=h3.av (h.aev m);rw[hm0]at hm;have hkr':=(h3.p hkr.toP).nP;obtain⟨b,ents,clock,hr,hb,hs,hrep⟩:=h1.hp.holds j _ hj;have hmv:a.eval m=.map (some b):=by
      generalize a.eval m=mv at hm;cases hm with
      |mref _ r hl' hr'=>rw[hr]at hr';cases hr';rfl
     obtain⟨q,hq,hqn,hqs⟩:=Rt hupd;have hent:EntL w (Prv C.X (A2 R') rho) ents.toList es:=⟨by simpa using hs,fun i hi=>by simpa using hrep i hi⟩;have hfk:=HM hkr' hko hc hent hq;have hck:=Ld (b:=false) hko hkr';have hg:(getObj b).run P w=.ok (.map ents clock) w:=by simp[getObj,Sem.run,hb]
     have hlt:b<w.heap.size:=(AS7.1 hb).1;have hset:∀ob:Go.Obj,(setObj b ob).run P w=.ok () { w with heap:=w.heap.setIfInBounds b ob }:=fun ob=>by simp[setObj,Sem.run,hb]
     obtain⟨ents',clock',hrun,hsz',hrep'⟩:∃(ents' : Array MapEntry) (clock' : Nat),(Instr.mapUpdate t (a.eval m) (a.eval k) (a.eval x)).run P w=.ok () { w with heap:=w.heap.setIfInBounds b (.map ents' clock') }/\ents'.size=es'.length /\
      ∀i,i<es'.length->RepP w (Prv C.X (A2 R') rho) (ents'.getD i default).key (es'.getD i default).1/\RepP w (Prv C.X (A2 R') rho) (ents'.getD i default).val (es'.getD i default).2:=by
      cases q with
      |none=>
       have e:=hqn rfl;subst e;refine⟨ents.push { key:=a.eval k,val:=a.eval x,born:=clock },clock+1,?_,by simp[hs],fun i hi=>?_⟩
       ·unfold Instr.mapUpdate;simp only[AV6,BQ w (NT ht),AT5,hmv,hg,hck,hfk,Option.map_none,hset]
       ·simp only[AW5,AX6]at hi;by_cases hi' : i<es.length
        ·have:=hrep i hi'
         simpa[AR9,Array.getElem?_push,show i≠ents.size by omega,AX8 hi']using this
        ·obtain rfl:i=es.length:=by omega
         have h4:(ents.push { key:=a.eval k,val:=a.eval x,born:=clock }).getD es.length default={ key:=a.eval k,val:=a.eval x,born:=clock }:=by simp[AR9,<- hs]
         rw[h4];simp only[AR7,List.getElem?_concat_length,AS8];exact⟨hkr',h2⟩
      |some j'=>
       have e:=hqs j' rfl;subst e;obtain⟨hj',hcmp⟩:=IY hq;have hjs:j' < ents.size:=by omega
       obtain⟨heq,hbits⟩:=AB4 hkr' (hrep j' hj').1 hcmp;have hold:(((ents[j']?).map (·.key)).getD (a.eval k))=(ents.getD j' default).key:=by simp[AR9,hjs]
       refine⟨ents.modify j' fun e=>{ e with key:=a.eval k,val:=a.eval x },clock,?_,by simp[hs],fun i hi=>?_⟩
       ·unfold Instr.mapUpdate;have hks:Instr.keyThatStays (((ents[j']?).map (·.key)).getD (a.eval k)) (a.eval k)=(pure (a.eval k):Sem Value):=by rw[hold,<- heq];unfold Instr.keyThatStays;rw[<- heq]at hbits;rw[if_pos hbits]
        simp only[AV6,BQ w (NT ht),AT5,hmv,hg,hck,hfk,AT0,hks,AX5,hset]
       ·simp only[List.length_set]at hi;by_cases hij:i=j'
        ·subst hij;have h4:((ents.modify i fun e=>{ e with key:=a.eval k,val:=a.eval x }).getD i default)={ (ents[i])with key:=a.eval k,val:=a.eval x }:=by simp[AR9,hjs,Array.getElem_modify]
         rw[h4];simp only[AR7,List.getElem?_set_self hi,AS8];exact⟨hkr',h2⟩
        ·have h4:((ents.modify j' fun e=>{ e with key:=a.eval k,val:=a.eval x }).getD i default)=ents.getD i default:=by simp[AR9,Be6,Bc7 hij]
         rw[h4]
         have:=hrep i hi
         simpa[List.getElem?_set_ne (Bc7 hij)]using this
     obtain⟨g1,g2,g3⟩:=h1.modify (o:=.map es) (ob:=.map es') hj (b:=b) (by simp[G5,hr]) (fun _=>trivial) (fun b' hb'=>by simp[G5,hr]at hb';exact hb'.symm)
      (w':={ w with heap:=w.heap.setIfInBounds b (.map ents' clock') }) (by simp) (fun b' hb'=>by simp[Array.getElem?_setIfInBounds_ne (Bc7 hb')])
      (fun hk'=>⟨b,ents',clock',hr,by simp[hlt],hsz',fun i hi=>⟨(hrep' i hi).1.keeps hk',(hrep' i hi).2.keeps hk'⟩⟩)
     exact⟨_,undef,_,_,by simp[execOp,ho,hrun],.inr ⟨rfl,rfl⟩,g1,h3.trans ⟨g2,g3⟩,.p _ _ (.v _)⟩
    ·cases he
   ·cases he
  ·cases he
 ·cases he
end
end Go.AM
set_option linter.unusedVariables false
namespace Go.AM
section
variable {P:Program}{C:Ctx}{st:St}{a:Act}{w:World}{rho:Nat->Value}{o:Oper}{out:Out}{d:Nat}
theorem Aa6 (h:Sat C st a w rho)(he:aop P st.env st.regs d o.op=some out)(hc:D9 out.cond):OpOk P C o st a w rho out:=by
 cases ho:o.op with
 |move x=>rw[ho]at he;simp only[aop,AS0]at he;subst he;exact ZV h (.inl ho) rfl rfl
 |assign x=>rw[ho]at he;simp only[aop,AS0]at he;subst he;exact ZV h (.inr ho) rfl rfl
 |pick c x y=>exact AA7 h ho he
 |alloc t=>exact Am0 h ho he
 |box t x=>exact AL4 h ho he
 |build t ps=>exact Am8 h ho he
 |buildSlice t n ps=>exact PD h ho he hc
 |load t x=>exact AA8 h ho he hc
 |store t x y=>exact Am1 h ho he hc
 |nilCheck x=>exact TZ h ho he
 |binOp op t x y yt=>exact Am7 h ho he hc
 |unOp op t x=>exact AA9 h ho he
 |convert s t x=>exact XD h ho he hc
 |makeInterface t x=>exact Kg h ho he
 |makeFunc f x y=>
  cases f with
  |func f=>exact Ua h ho he
  |_=>rw[ho]at he;simp[aop]at he
 |makeMap t r=>
  cases r with
  |none=>exact XB h ho he
  |some r=>rw[ho]at he;simp[aop]at he
 |makeSlice t l c=>exact Rr h ho he hc
 |slice t x lo hi mx=>
  cases mx with
  |none=>exact Am5 h ho he hc
  |some r=>rw[ho]at he;simp[aop]at he
 |fieldAddr t x f=>exact Rk h ho he
 |field t x f=>exact Am2 h ho he hc
 |indexAddr t x i=>exact Rn h ho he hc
 |index t x i=>exact Am4 h ho he hc
 |lookup t m k ok=>exact Aa5 h ho he hc
 |mapUpdate t m k x=>exact Rw h ho he hc
 |extract x i=>exact XA h ho he
 |call c=>
  obtain⟨callee,args,types⟩:=c;cases callee with
  |builtin b=>
   cases b with
   |len=>exact AL5 (c:=⟨.builtin .len,args,types⟩) h rfl ho he
   |append=>exact Aa0 (c:=⟨.builtin .append,args,types⟩) h rfl ho he hc
   |min=>exact Rl (c:=⟨.builtin .min,args,types⟩) h (.inl rfl) ho he
   |max=>exact Rl (c:=⟨.builtin .max,args,types⟩) h (.inr rfl) ho he
   |_=>rw[ho]at he;simp[aop]at he
  |_=>rw[ho]at he;simp[aop]at he
 |_=>rw[ho]at he;simp[aop]at he
end
structure Rel (C:Ctx) (w:World) (O:Nat->Prop) (V:Nat->Nat->Prop):Prop where
 ext:Ext C.w0 w
 size:C.w0.heap.size<=w.heap.size
 same:∀b,b<C.w0.heap.size->¬C.E0 b->w.heap[b]? = C.w0.heap[b]?
 keep:Keeps C.w0 C.Pi0 w (fun b o=>C.X b o \/ V b o)
 own:∀b,O b->C.E0 b \/ C.w0.heap.size<=b
 out:∀b off,O b->¬C.X b off
 lt:∀b,O b->b<w.heap.size
 bnd:∀b off,C.X b off->b<w.heap.size
 vo:∀b o,V b o->O b
def AL6 (P:Program)(yv:Value)(vs:Array Value)(w:World)(R:Bool->World->Prop):Prop:=
 ∃l fn tmps assign body,yv=.func (.yield l) #[] #[]/\(Instr.yield l vs).run P w=.ok (.round l fn tmps assign body) w /\
  RoundIn Fence.wide 0 P l fn tmps assign body w fun e w'=>∃b:Bool,e=.returned (.bool b)/\R b w'
def Wh (s:String):List Value:=if s == "math/bits.deBruijn64tab" then Lib.deBruijn64tab.map fun n=>.int .u8 (n:Nat)else []
def TabOk (P:Program)(w:World)(Pi:Nat->Nat->Prop):Prop:=∀(g:Nat) (s:Global) (j:Nat) (v:Value),P.globals[g]? = some s->(Wh s.name)[j]? = some v->w.cell? ⟨g,j,none⟩=some v/\¬Pi g j
theorem TabOk.keeps {P:Program}{w w' : World}{Pi Pi' : Nat->Nat->Prop}(h:TabOk P w Pi)(hk:Keeps w Pi w' Pi'):TabOk P w' Pi':=fun g s j v hs hv=>hk g j v (h g s j v hs hv).2 (h g s j v hs hv).1
structure Prot (P:Program) where
 G:Ctx->Prop
 tab:∀C,G C->TabOk P C.w0 C.Pi0
 call:∀(C:Ctx) (w:World) (O:Nat->Prop) (V:Nat->Nat->Prop) (ys:List PV) (rest:List (List PV)) (vs:Array Value),G C->Rel C w O V->C.Y (ys::rest) true->vs.size=ys.length ->
  (∀i,i<ys.length->RepP w (fun b o=>C.X b o \/ V b o) (vs.getD i undef) (ys.getD i default)) ->
  AL6 P C.yv vs w fun b w'=>∃C',G C' /\ C'.yv=C.yv/\C'.rho0=C.rho0/\C'.Y (if b then rest else []) b/\C'.w0=w' /\ C'.E0=O/\(C'.Pi0=fun b o=>C'.X b o \/ V b o)/\Rel C' w' O V /\
   (∀b,O b->w'.heap[b]? = w.heap[b]?)/\Keeps w (fun b o=>C.X b o \/ V b o) w' (fun b o=>C'.X b o \/ V b o)/\w.heap.size<=w'.heap.size/\Ext w w'
def Prot.triv (P:Program)(C:Ctx)(hY:∀r b,¬C.Y r b)(hT:TabOk P C.w0 C.Pi0):Prot P:=
 ⟨fun C'=>C' = C,fun C' h=>h ▸ hT,fun C' w O V ys rest vs hG hR hC=>by subst hG;exact absurd hC (hY _ _)⟩
def Uf (l:List Deferred)(b:Nat):Prop:=({ target:=.collected b,args:=#[] }:Deferred)∈l
def PvR (R:D1)(rho:Nat->Value)(b off:Nat):Prop:=∃j o,A2 R j=some o/\G5 (rho j) o=some b/\IS o off
def TQ (R:D1)(rho:Nat->Value)(l:List Deferred)(b:Nat):Prop:=Own (A2 R) rho b \/ Uf l b
def CallF (P:Program)(f:FuncId)(vs:Array Value)(w:World)(R:Ending->World->Prop):Prop:=
 ∃nx w1,(callFunc f vs).run P w=.ok nx w1/\match nx with
  |.enter f' as=>CallsIn Fence.wide 0 P f' as w1 R
  |.value v=>R (.returned v) w1
  |.row row as=>RowsIn Fence.wide 0 P row as w1 fun v w'=>R (.returned v) w'
  |_=>False
theorem CallF.mono {P:Program}{f:FuncId}{vs:Array Value}{w:World}{R R' : Ending->World->Prop}(h:CallF P f vs w R)(hr:∀e w',R e w' -> R' e w'):CallF P f vs w R':=by
 obtain⟨nx,w1,h1,h2⟩:=h;refine⟨nx,w1,h1,?_⟩;cases nx with
 |enter f' as=>exact h2.mono hr
 |value v=>exact hr _ _ h2
 |row row as=>exact RowsIn.mono h2 fun v w'=>hr _ _
 |_=>exact h2
def AB5 (w:World)(Pi:Nat->Nat->Prop)(live:Nat->Prop)(rho:Nat->Value)(e:Ending):KQ->Prop
 |.ret a=>∃v,e=.returned v/\RepA w Pi live rho v a
 |.panic x=>∃v,e=.panicked [{ v,recovered:=false }]/\RepP w Pi v x
def SemF (P:Program)(f:FuncId)(args:List AV)(objs:List Obj)(Q:KQ->List Obj->List Bool->Prop):Prop:=
 ∀(𝒢 : Prot P) (C:Ctx) (w:World) (vs:Array Value) (rho:Nat->Value),𝒢.G C->Sat C ⟨argEnv args,objRegs objs⟩ ⟨vs,[]⟩ w rho->vs.size=args.length ->
  CallF P f vs w fun e w'=>∃C' r objs' ks rho', 𝒢.G C' /\ Q r objs' ks/\SatE C' (objRegs objs') w' rho' /\
   AB5 w' (Prv C'.X (A2 (objRegs objs')) rho') (Lv (A2 (objRegs objs'))) rho' e r/\∀i:Nat,ks[i]? = some true->i<objs'.length/\rho' i=rho i
def semUp (st:St)(K:St->Prop):Prop:=∀C a w rho,Sat C st a w rho->∃st' rho',K st' /\ (∀b off,Prv C.X (A2 st'.regs) rho' b off->Prv C.X (A2 st.regs) rho b off)/\Sat C st' a w rho'
def GD (P:Program):Br:=⟨SemF P,semUp⟩
end Go.AM
set_option linter.unusedVariables false
namespace Go.AM
section
variable {w w' : World}{Pi Pi' : Nat->Nat->Prop}{live live' : Nat->Prop}{rho rho' : Nat->Value}
theorem N2:∀{ids:List Nat}{j p:Nat},idx ids j=some p->ids[p]? = some j
 |[],j,p,h=>by simp[idx]at h
 |i::r,j,p,h=>by
  simp only[idx]at h;split at h
  ·rename_i e;cases h;simp[e]
  ·split at h
   ·rename_i n hn;cases h;simpa using N2 hn
   ·cases h
theorem BM {ids:List Nat}:∀{l l' : List AV},Cx ids l=some l' -> l.length=l'.length/\∀i,i<l.length->QU ids (l.getD i .top)=some (l'.getD i .top)
 |[],l',h=>by simp only[Cx,AS0]at h;subst h;exact⟨rfl,fun i hi=>absurd hi (by simp)⟩
 |a::r,l',h=>by
  simp only[Cx]at h;split at h
  ·rename_i a' r' ha hr;cases h;obtain⟨h1,h2⟩:=BM hr;refine⟨by simp[h1],fun i hi=>?_⟩;cases i with
   |zero=>simpa using ha
   |succ i=>simpa using h2 i (by simpa using hi)
  ·cases h
theorem Ob {ids:List Nat}:∀{l:List AV},unL ids l=l.map (unA ids)
 |[]=>rfl
 |a::r=>by simp only[unL,AU8,Ob]
theorem RepA.ren {ids:List Nat}(hk:Keeps w Pi w' Pi')(hr:∀p j,ids[p]? = some j->live j->live' p/\rho' p=rho j){v:Value}{a:AV}(h:RepA w Pi live rho v a):∀{a' : AV},QU ids a=some a' -> RepA w' Pi' live' rho' v a':=by
 induction h with
 |p v x h=>intro a' he;simp only[QU,AS0]at he;subst he;exact .p _ _ (h.nP.keeps hk)
 |reg j off b hl h=>
  intro a' he;simp only[QU]at he;split at he
  ·rename_i p hp;cases he;obtain⟨h1,h2⟩:=hr p j (N2 hp) hl;exact .reg p off b h1 (h2.trans h)
  ·cases he
 |vec j base n cap hl h=>
  intro a' he;simp only[QU]at he;split at he
  ·rename_i p hp;cases he;obtain⟨h1,h2⟩:=hr p j (N2 hp) hl;exact .vec p base n cap h1 (h2.trans h)
  ·cases he
 |vecp j m base n cap hl h hm=>
  intro a' he;simp only[QU]at he;split at he
  ·rename_i p hp;cases he;obtain⟨h1,h2⟩:=hr p j (N2 hp) hl;exact .vecp p m base n cap h1 (h2.trans h) hm
  ·cases he
 |elt j k i off b n cap hl h=>
  intro a' he;simp only[QU]at he;split at he
  ·rename_i p hp;cases he;obtain⟨h1,h2⟩:=hr p j (N2 hp) hl;exact .elt p k i off b n cap h1 (h2.trans h)
  ·cases he
 |mref j r hl h=>
  intro a' he;simp only[QU]at he;split at he
  ·rename_i p hp;cases he;obtain⟨h1,h2⟩:=hr p j (N2 hp) hl;exact .mref p r h1 (h2.trans h)
  ·cases he
 |clo f x y a b hx hy ha hb iha ihb=>
  intro a' he;simp only[QU]at he;split at he
  ·rename_i a2 b2 h1 h2;cases he;obtain⟨l1,g1⟩:=BM h1;obtain⟨l2,g2⟩:=BM h2;exact .clo f x y a2 b2 (hx.trans l1) (hy.trans l2) (fun i hi=>iha i (by omega) (g1 i (by omega))) fun i hi=>ihb i (by omega) (g2 i (by omega))
  ·cases he
 |tup x a hx ha ih=>
  intro a' he;simp only[QU]at he;split at he
  ·rename_i a2 h1;cases he;obtain⟨l1,g1⟩:=BM h1;exact .tup x a2 (hx.trans l1) fun i hi=>ih i (by omega) (g1 i (by omega))
  ·cases he
 |agr x a hx h1' ha ih=>
  intro a' he;simp only[QU]at he;split at he
  ·rename_i a2 h1;cases he;obtain⟨l1,g1⟩:=BM h1;exact .agr x a2 (hx.trans l1) (fun i hi=>h1' i (by omega)) fun i hi=>ih i (by omega) (g1 i (by omega))
  ·cases he
 |yf j l hl h=>
  intro a' he;simp only[QU]at he;split at he
  ·rename_i p hp;cases he;obtain⟨h1,h2⟩:=hr p j (N2 hp) hl;exact .yf p l h1 (h2.trans h)
  ·cases he
 |top v=>intro a' he;simp only[QU,AS0]at he;subst he;exact .top _
theorem RepA.un {ids:List Nat}(hk:Keeps w Pi w' Pi')(hr:∀p,live p->live' (ids.getD p 0)/\rho' (ids.getD p 0)=rho p){v:Value}{a:AV}(h:RepA w Pi live rho v a):RepA w' Pi' live' rho' v (unA ids a):=by
 induction h with
 |p v x h=>exact .p _ _ (h.keeps hk)
 |reg j off b hl h=>obtain⟨h1,h2⟩:=hr j hl;exact .reg _ off b h1 (h2.trans h)
 |vec j base n cap hl h=>obtain⟨h1,h2⟩:=hr j hl;exact .vec _ base n cap h1 (h2.trans h)
 |vecp j m base n cap hl h hm=>obtain⟨h1,h2⟩:=hr j hl;exact .vecp _ m base n cap h1 (h2.trans h) hm
 |elt j k i off b n cap hl h=>obtain⟨h1,h2⟩:=hr j hl;exact .elt _ k i off b n cap h1 (h2.trans h)
 |mref j r hl h=>obtain⟨h1,h2⟩:=hr j hl;exact .mref _ r h1 (h2.trans h)
 |clo f x y a b hx hy ha hb iha ihb=>
  simp only[unA,Ob];refine .clo f x y _ _ (by simpa using hx) (by simpa using hy) (fun i hi=>?_) fun i hi=>?_
  ·have hi' : i<a.length:=by simpa using hi
   have:=iha i hi'
   simpa[AR7,AS5,AS2 hi']using this
  ·have hi' : i<b.length:=by simpa using hi
   have:=ihb i hi'
   simpa[AR7,AS5,AS2 hi']using this
 |tup x a hx ha ih=>
  simp only[unA,Ob];refine .tup x _ (by simpa using hx) fun i hi=>?_;have hi' : i<a.length:=by simpa using hi
  have:=ih i hi'
  simpa[AR7,AS5,AS2 hi']using this
 |agr x a hx h1' ha ih=>
  simp only[unA,Ob];refine .agr x _ (by simpa using hx) (fun i hi=>h1' i (by simpa using hi)) fun i hi=>?_;have hi' : i<a.length:=by simpa using hi
  have:=ih i hi'
  simpa[AR7,AS5,AS2 hi']using this
 |yf j l hl h=>obtain⟨h1,h2⟩:=hr j hl;exact .yf _ l h1 (h2.trans h)
 |top v=>exact .top v
theorem HoldsO.ren {ids:List Nat}(hk:Keeps w Pi w' Pi')(hr:∀p j,ids[p]? = some j->live j->live' p/\rho' p=rho j){h:Value}{o o' : Obj}(hb:∀b,G5 h o=some b->w'.heap[b]? = w.heap[b]?)(he:Rc ids o=some o')(hh:HoldsO w Pi live rho h o):HoldsO w' Pi' live' rho' h o':=by
 cases o with
 |cells cs=>
  simp only[Rc]at he;split at he
  ·rename_i cs' hcs;cases he;obtain⟨l1,g1⟩:=BM hcs;obtain⟨b,c,T,rfl,h1,h2,h3⟩:=hh;exact⟨b,c,T,rfl,(hb b rfl).trans h1,h2.trans l1,fun i hi=>⟨(h3 i (by omega)).1.ren hk hr (g1 i (by omega)),(h3 i (by omega)).2⟩⟩
  ·cases he
 |vec e k n f vw=>
  simp only[Rc,AS0]at he;subst he;rcases hh with hn|⟨b,cap,c,rfl,h1,h2,h3,h4,h5,h6⟩
  ·exact .inl hn
  ·exact .inr ⟨b,cap,c,rfl,(hb b rfl).trans h1,h2,h3,h4,h5,fun i j hi hj=>⟨(h6 i j hi hj).1.keeps hk,(h6 i j hi hj).2⟩⟩
 |map es=>simp only[Rc,AS0]at he;subst he;obtain⟨b,ents,clock,rfl,h1,h2,h3⟩:=hh;exact⟨b,ents,clock,rfl,(hb b rfl).trans h1,h2,fun i hi=>⟨(h3 i hi).1.keeps hk,(h3 i hi).2.keeps hk⟩⟩
 |arr n f=>simp only[Rc,AS0]at he;subst he;obtain⟨b,c,T,rfl,h1,h2,h3⟩:=hh;exact⟨b,c,T,rfl,(hb b rfl).trans h1,h2,fun i hi=>⟨(h3 i hi).1.keeps hk,(h3 i hi).2⟩⟩
 |ghost cs=>
  simp only[Rc]at he;split at he
  ·rename_i cs' hcs;cases he;obtain⟨l1,g1⟩:=BM hcs;obtain⟨vs,rfl,h1,h2⟩:=hh;exact⟨vs,rfl,h1.trans l1,fun i hi=>(h2 i (by omega)).ren hk hr (g1 i (by omega))⟩
  ·cases he
 |yld r b=>simp only[Rc,AS0]at he;subst he;exact hh
 |dead=>simp only[Rc,AS0]at he;subst he;trivial
theorem X5 {ids:List Nat}{h:Value}{o o' : Obj}(he:Rc ids o=some o'):G5 h o' = G5 h o:=by
 cases o<;>simp only[Rc]at he
 case cells=>split at he<;>cases he;rfl
 case ghost=>split at he<;>cases he;rfl
 all_goals (cases he;rfl)
theorem HN {ids:List Nat}{o o' : Obj}(he:Rc ids o=some o')(off:Nat):IS o' off↔IS o off:=by
 cases o<;>simp only[Rc]at he
 case cells=>split at he<;>cases he;exact Bc0
 case ghost=>split at he<;>cases he;exact Bc0
 all_goals (cases he;exact Bc0)
theorem HoldsO.un {ids:List Nat}(hk:Keeps w Pi w' Pi')(hr:∀p,live p->live' (ids.getD p 0)/\rho' (ids.getD p 0)=rho p){h:Value}{o:Obj}(hb:∀b,G5 h o=some b->w'.heap[b]? = w.heap[b]?)(hh:HoldsO w Pi live rho h o):HoldsO w' Pi' live' rho' h (unO ids o):=by
 cases o with
 |cells cs=>
  obtain⟨b,c,T,rfl,h1,h2,h3⟩:=hh;simp only[unO,Ob];refine⟨b,c,T,rfl,(hb b rfl).trans h1,by simpa using h2,fun i hi=>?_⟩;have hi' : i<cs.length:=by simpa using hi
  refine⟨?_,(h3 i hi').2⟩
  have:=(h3 i hi').1.un hk hr
  simpa[AR7,AS5,AS2 hi']using this
 |vec e k n f vw=>
  rcases hh with hn|⟨b,cap,c,rfl,h1,h2,h3,h4,h5,h6⟩
  ·exact .inl hn
  ·exact .inr ⟨b,cap,c,rfl,(hb b rfl).trans h1,h2,h3,h4,h5,fun i j hi hj=>⟨(h6 i j hi hj).1.keeps hk,(h6 i j hi hj).2⟩⟩
 |map es=>obtain⟨b,ents,clock,rfl,h1,h2,h3⟩:=hh;exact⟨b,ents,clock,rfl,(hb b rfl).trans h1,h2,fun i hi=>⟨(h3 i hi).1.keeps hk,(h3 i hi).2.keeps hk⟩⟩
 |arr n f=>obtain⟨b,c,T,rfl,h1,h2,h3⟩:=hh;exact⟨b,c,T,rfl,(hb b rfl).trans h1,h2,fun i hi=>⟨(h3 i hi).1.keeps hk,(h3 i hi).2⟩⟩
 |ghost cs=>
  obtain⟨vs,rfl,h1,h2⟩:=hh;simp only[unO,Ob];refine⟨vs,rfl,by simpa using h1,fun i hi=>?_⟩;have hi' : i<cs.length:=by simpa using hi
  have:=(h2 i hi').un hk hr
  simpa[AR7,AS5,AS2 hi']using this
 |yld r b=>exact hh
 |dead=>trivial
theorem PG {ids:List Nat}{h:Value}{o:Obj}:G5 h (unO ids o)=G5 h o:=by cases o<;>rfl
theorem Aa7 {ids:List Nat}{o:Obj}(off:Nat):IS (unO ids o) off↔IS o off:=by cases o<;>exact Bc0
theorem D2 (objs:List Obj)(j:Nat):A2 (objRegs objs) j=objs[j]?:=by
 have hin:∀(objs:List Obj) (n:Nat) (acc:D1),A2 (objRegs.go n objs acc) j=if n<=j/\j<n+objs.length then objs[j-n]? else A2 acc j:=by
  intro objs
  induction objs with
  |nil=>intro n acc;simp[objRegs.go];intro h1 h2;omega
  |cons o r ih=>
   intro n acc;simp only[objRegs.go,ih,A2,AV1];by_cases h:n=j
   ·subst h;rw[if_neg (by omega),if_pos rfl,if_pos ⟨by omega,by omega⟩];simp
   ·by_cases h1:n+1<=j/\j<n+1+r.length
    ·rw[if_pos h1,if_pos ⟨by omega,by omega⟩];obtain⟨i,rfl⟩:∃i,j=n+1+i:=⟨j-(n+1),by omega⟩;rw[show n+1+i-(n+1)=i by omega,show n+1+i-n=i+1 by omega];simp
    ·rw[if_neg h1,if_neg h,if_neg (by omega)]
 unfold objRegs;rw[hin];by_cases h:j<objs.length
 ·rw[if_pos ⟨by omega,by omega⟩];simp
 ·rw[if_neg (by omega),AW6 (by omega)];rfl
theorem AJ (args:List AV)(j:Nat):get (argEnv args) j=args.getD j .top:=by
 have hin:∀(objs:List AV) (n:Nat) (acc:Env),get (argEnv.go n objs acc) j=if n<=j/\j<n+objs.length then objs.getD (j-n) .top else get acc j:=by
  intro objs
  induction objs with
  |nil=>intro n acc;simp[argEnv.go];intro h1 h2;omega
  |cons o r ih=>
   intro n acc;simp only[argEnv.go,ih,get,AV1];by_cases h:n=j
   ·subst h;rw[if_neg (by omega),if_pos rfl,if_pos ⟨by omega,by omega⟩];simp
   ·by_cases h1:n+1<=j/\j<n+1+r.length
    ·rw[if_pos h1,if_pos ⟨by omega,by omega⟩];obtain⟨i,rfl⟩:∃i,j=n+1+i:=⟨j-(n+1),by omega⟩;rw[show n+1+i-(n+1)=i by omega,show n+1+i-n=i+1 by omega];simp
    ·rw[if_neg h1,if_neg h,if_neg (by omega)]
 unfold argEnv;rw[hin];by_cases h:j<args.length
 ·rw[if_pos ⟨by omega,by omega⟩];simp
 ·rw[if_neg (by omega)];simp[get,AR7,AW6 (show args.length<=j by omega)]
theorem X6 {ids:List Nat}{regs:D1}:∀{l:List Nat}{objs:List Obj},J4 ids regs l=some objs->objs.length=l.length/\∀(p j:Nat),l[p]? = some j->∃o o',A2 regs j=some o/\Rc ids o=some o' /\ objs[p]? = some o'
 |[],objs,h=>by simp only[J4,AS0]at h;subst h;exact⟨rfl,fun p j hp=>by simp at hp⟩
 |j::l,objs,h=>by
  simp only[J4]at h;split at h
  ·rename_i o ho;split at h
   ·rename_i o' l' h1 h2;cases h;obtain⟨h3,h4⟩:=X6 h2;refine⟨by simp[h3],fun p i hp=>?_⟩;cases p with
    |zero=>simp only[AX7,AS0]at hp;subst hp;exact⟨o,o',ho,h1,by simp⟩
    |succ p=>simpa using h4 p i (by simpa using hp)
   ·cases h
  ·cases h
theorem Bw:∀{l:List Nat},F7 l=true->l.Nodup
 |[],_=>Ba8
 |a::r,h=>by simp only[F7,AS3,AU3,AV2,decide_eq_false_iff_not]at h;exact AX4.2 ⟨h.1,Bw h.2⟩
theorem Ea:∀{l:List Nat}(h:l.Nodup) {p q j:Nat}(hp:l[p]? = some j) (hq:l[q]? = some j),p=q
 |[],h,p,q,j,hp,hq=>by simp at hp
 |a::l,h,p,q,j,hp,hq=>by
  obtain⟨h1,h2⟩:=AX4.1 h;cases p with
  |zero=>
   cases q with
   |zero=>rfl
   |succ q=>simp only[AX7,AS0]at hp;simp only[Bd6]at hq;subst hp;exact absurd (AT7 hq) h1
  |succ p=>
   cases q with
   |zero=>simp only[AX7,AS0]at hq;simp only[Bd6]at hp;subst hq;exact absurd (AT7 hp) h1
   |succ q=>exact congrArg (· + 1) (Ea (j:=j) h2 (by simpa using hp) (by simpa using hq))
theorem Oc:∀{l:List Obj},DV l=true->∀(p:Nat) (r:List (List PV)) (b:Bool),l[p]? ≠ some (.yld r b)
 |[],_,p,r,b=>by simp
 |o::l,h,p,r,b=>by
  cases p with
  |zero=>intro he;simp only[AX7,AS0]at he;subst he;simp[DV]at h
  |succ p=>simp only[Bd6];exact Oc (by cases o<;>simp[DV]at h<;>exact h) p r b
end
end Go.AM
set_option linter.unusedVariables false
namespace Go.AM
def AJ5 (C:Ctx)(R:D1)(rho:Nat->Value)(ids:List Nat)(b off:Nat):Prop:=
 C.X b off \/ ∃j o,j ∉ ids/\A2 R j=some o/\G5 (rho j) o=some b/\IS o off
def Ctx.callee (C:Ctx)(R:D1)(w:World)(rho:Nat->Value)(ids:List Nat):Ctx where
 X:=AJ5 C R rho ids
 w0:=w
 E0:=fun b=>∃j o,j∈ids/\A2 R j=some o/\G5 (rho j) o=some b
 Pi0:=Prv C.X (A2 R) rho
 rho0:=fun p=>rho (ids.getD p 0)
 Y:=fun _ _=>False
 yv:=C.yv
section
variable {P:Program}{C:Ctx}{st:St}{a:Act}{w:World}{rho:Nat->Value}
theorem Ck {ids:List Nat}{p j:Nat}(h:ids[p]? = some j):ids.getD p 0=j:=by simp[AR7,h]
theorem Od {R:D1}{ids:List Nat}{objs:List Obj}(hob:J4 ids R ids=some objs)(b off:Nat) :Prv (AJ5 C R rho ids) (A2 (objRegs objs)) (fun p=>rho (ids.getD p 0)) b off↔Prv C.X (A2 R) rho b off:=by
 obtain⟨hl,hg⟩:=X6 hob;constructor
 ·rintro ((hX|⟨j,o,_,hj,hb,hp⟩)|⟨p,o',hp,hb,hpr⟩)
  ·exact .inl hX
  ·exact .inr ⟨j,o,hj,hb,hp⟩
  ·rw[D2]at hp;have hlt:p<ids.length:=by rw[<- hl];exact (AS9.1 hp).1
   obtain⟨o,o2,h1,h2,h3⟩:=hg p _ (AS2 hlt);rw[hp]at h3;cases h3;simp only[Ck (AS2 hlt),X5 h2]at hb;exact .inr ⟨_,o,h1,hb,(HN h2 off).1 hpr⟩
 ·rintro (hX|⟨j,o,hj,hb,hp⟩)
  ·exact .inl (.inl hX)
  ·by_cases hm:j∈ids
   ·obtain⟨p,hlt,rfl⟩:=Ba9.1 hm;obtain⟨o1,o2,h1,h2,h3⟩:=hg p _ (AS2 hlt);rw[hj]at h1;cases h1;refine .inr ⟨p,o2,by rw[D2];exact h3,?_,(HN h2 off).2 hp⟩;simp only[Ck (AS2 hlt),X5 h2];exact hb
   ·exact .inl (.inr ⟨j,o,hm,hj,hb,hp⟩)
theorem Jy (h:Sat C st a w rho){ids:List Nat}{objs:List Obj}{as args:List AV}{vs:Array Value}(hd:F7 ids=true)(hob:J4 ids st.regs ids=some objs)(hny:DV objs=true)(hlt1000:True)
 (hr:Cx ids as=some args) (hvs:vs.size=as.length) (hv:∀i,i<as.length->RS C st w rho (vs.getD i undef) (as.getD i .top)) :
 Sat (C.callee st.regs w rho ids) ⟨argEnv args,objRegs objs⟩ ⟨vs,[]⟩ w (fun p=>rho (ids.getD p 0)):=by
 obtain⟨hl,hg⟩:=X6 hob;have hdup:=Bw hd;have hpi:=Od (C:=C) (rho:=rho) hob;have hk:Keeps w (Prv C.X (A2 st.regs) rho) w (Prv (AJ5 C st.regs rho ids) (A2 (objRegs objs)) (fun p=>rho (ids.getD p 0))):=
  fun b o v hp hc=>⟨hc,fun hp'=>hp ((hpi b o).1 hp')⟩
 have hfrom:∀p o',A2 (objRegs objs) p=some o' -> ∃j o,ids[p]? = some j/\A2 st.regs j=some o/\Rc ids o=some o' /\ rho (ids.getD p 0)=rho j:=by
  intro p o' hp;rw[D2]at hp;have hlt:p<ids.length:=by rw[<- hl];exact (AS9.1 hp).1
  obtain⟨o,o2,h1,h2,h3⟩:=hg p _ (AS2 hlt);rw[hp]at h3;cases h3;exact⟨_,o,AS2 hlt,h1,h2,by rw[Ck (AS2 hlt)]⟩
 have hren:∀p j,ids[p]? = some j->Lv (A2 st.regs) j->Lv (A2 (objRegs objs)) p/\rho (ids.getD p 0)=rho j:=by intro p j hp _;obtain⟨o,o2,h1,h2,h3⟩:=hg p j hp;exact⟨by simp[Lv,D2,h3],by rw[Ck hp]⟩
 refine⟨⟨⟨?_,?_,?_,?_⟩,Ext.refl _,AS4 _,fun b _ _=>rfl,hk,?_,?_⟩,?_,fun j _ _=>rfl,Ba8,fun d hd=>by simp at hd⟩
 ·intro p o' hp;obtain⟨j,o,h1,h2,h3,h4⟩:=hfrom p o' hp;show HoldsO w _ _ _ (rho (ids.getD p 0)) o';rw[h4];exact (h.hp.holds j o h2).ren hk hren (fun b _=>rfl) h3
 ·intro p q op oq b hp hq hbp hbq;obtain⟨j,o,h1,h2,h3,h4⟩:=hfrom p op hp;obtain⟨j',o',h1',h2',h3',h4'⟩:=hfrom q oq hq;simp only[h4,h4',X5 h3,X5 h3']at hbp hbq
  have:=h.hp.sep j j' o o' b h2 h2' hbp hbq
  subst this;exact Ea hdup h1 h1'
 ·intro p o' b off hp hb hX;obtain⟨j,o,h1,h2,h3,h4⟩:=hfrom p o' hp;simp only[h4,X5 h3]at hb;rcases hX with hX|⟨j',o2,hj',h5,h6,_⟩
  ·exact h.hp.out j o b off h2 hb hX
  ·have:=h.hp.sep j j' o o2 b h2 h5 hb h6
   subst this;exact hj' (AT7 h1)
 ·rintro b off (hX|⟨j,o,_,hj,hb,_⟩)
  ·exact h.hp.bound b off hX
  ·exact (h.hp.holds j o hj).lt hb
 ·rintro b ⟨p,o',hp,hb⟩;obtain⟨j,o,h1,h2,h3,h4⟩:=hfrom p o' hp;simp only[h4,X5 h3]at hb;exact .inl ⟨j,o,AT7 h1,h2,hb⟩
 ·intro p r b hp;rw[D2]at hp;exact absurd hp (Oc hny p r b)
 ·intro t;show RepA w _ _ _ (vs.getD t undef) (get (argEnv args) t);rw[AJ];obtain⟨h1,h2⟩:=BM hr;by_cases ht:t<as.length
  ·exact (hv t ht).ren hk hren (h2 t ht)
  ·rw[AR7,AW6 (by omega)];exact .top _
theorem Wi (all:List Nat)(j:Nat):∀(ids:List Nat) (objs:List Obj) (regs:D1),ids.Nodup->ids.length=objs.length ->
 A2 (Zz all ids objs regs) j=match idx ids j with
  |some p=>(objs[p]?).map (unO all)
  |none=>A2 regs j
 |[],objs,regs,_,hl=>by
  cases objs with
  |nil=>rfl
  |cons=>simp at hl
 |i::ids,[],regs,_,hl=>by simp at hl
 |i::ids,o::objs,regs,hn,hl=>by
  obtain⟨h1,h2⟩:=AX4.1 hn;simp only[Zz];rw[Wi all j ids objs _ h2 (by simpa using hl)];simp only[idx];by_cases e:i=j
  ·subst e
   have:idx ids i=none:=by
    cases hx:idx ids i with
    |none=>rfl
    |some p=>exact absurd (AT7 (N2 hx)) h1
   simp[this,A9]
  ·simp only[e,if_false];cases hx:idx ids j with
   |none=>simp[A9,e]
   |some p=>simp
theorem Eb (j:Nat):∀(ids:List Nat) (ks:List Bool) (regs:D1),ids.Nodup ->
 A2 (O0 ids ks regs) j=match idx ids j with
  |some p=>if ks[p]? = some true then A2 regs j else some .dead
  |none=>A2 regs j
 |[],ks,regs,_=>by cases ks<;>rfl
 |i::ids,[],regs,hn=>by
  obtain⟨h1,h2⟩:=AX4.1 hn;simp only[O0];rw[Eb j ids [] _ h2];simp only[idx];by_cases e:i=j
  ·subst e
   have:idx ids i=none:=by
    cases hx:idx ids i with
    |none=>rfl
    |some p=>exact absurd (AT7 (N2 hx)) h1
   simp[this,A9]
  ·simp only[e,if_false];cases hx:idx ids j with
   |none=>simp[A9,e]
   |some p=>simp
 |i::ids,k::ks,regs,hn=>by
  obtain⟨h1,h2⟩:=AX4.1 hn;simp only[O0];have hnone:idx ids i=none:=by
   cases hx:idx ids i with
   |none=>rfl
   |some p=>exact absurd (AT7 (N2 hx)) h1
  by_cases hk:k=true
  ·rw[if_pos hk,Eb j ids ks _ h2];simp only[idx];by_cases e:i=j
   ·subst e;simp[hnone,hk]
   ·simp only[e,if_false];cases hx:idx ids j with
    |none=>rfl
    |some p=>simp
  ·rw[if_neg hk,Eb j ids ks _ h2];simp only[idx];by_cases e:i=j
   ·subst e;simp[hnone,hk,A9]
   ·simp only[e,if_false];cases hx:idx ids j with
    |none=>simp[A9,e]
    |some p=>simp[A9,e]
theorem PH {ids:List Nat}{j:Nat}(h:j∈ids):∃p,idx ids j=some p:=by
 induction ids with
 |nil=>simp at h
 |cons i r ih=>
  simp only[idx];by_cases e:i=j
  ·exact⟨0,by simp[e]⟩
  ·rcases AW0.1 h with h' | h'
   ·exact absurd h'.symm e
   ·obtain⟨p,hp⟩:=ih h';exact⟨p+1,by simp[e,hp]⟩
theorem Aw4 {ids:List Nat}(hn:ids.Nodup){p j:Nat}(h:ids[p]? = some j):idx ids j=some p:=by obtain⟨q,hq⟩:=PH (AT7 h);rw[hq,Ea hn (N2 hq) h]
theorem Lg {n p:Nat}(h:p<n):(List.range n)[p]? = some p:=by simp[h]
theorem IZ {d:Nat}{ids:List Nat}{ks:List Bool}{n p j:Nat}(h:(N9 d ids ks n)[p]? = some j):p<n/\((ids[p]? = some j/\ks[p]? = some true) \/ (j=nid d p/\∀i,ids[p]? = some i->ks[p]? ≠ some true)):=by
 unfold N9 at h;rw[AS5,AT9]at h;obtain⟨q,hq,hj⟩:=h;have hlt:p<n:=by simpa using (AS9.1 hq).1
 rw[Lg hlt]at hq;cases hq;refine⟨hlt,?_⟩;split at hj
 ·rename_i j' h1 h2;subst hj;exact .inl ⟨h1,h2⟩
 ·rename_i hno;subst hj;exact .inr ⟨rfl,fun i hi hk=>hno i hi hk⟩
theorem XF {d:Nat}{ids:List Nat}{ks:List Bool}{n:Nat}:(N9 d ids ks n).length=n:=by simp[N9]
theorem Hl {regs:D1}{ids:List Nat}{ks:List Bool}{d n p:Nat}(hf:CL regs ids ks d n=true)(hp:p<n)(hno:∀i,ids[p]? = some i->ks[p]? ≠ some true):A2 regs (nid d p)=none:=by
 unfold CL at hf;rw[AT4]at hf
 have:=hf p (by simp[hp])
 split at this
 ·rename_i i h1 h2;exact absurd h2 (hno i h1)
 ·simpa using this
theorem Jz:∀{l:List Nat},(∀p q j:Nat,l[p]? = some j->l[q]? = some j->p=q)->l.Nodup
 |[],_=>Ba8
 |a::l,h=>by
  refine AX4.2 ⟨fun hm=>?_,Jz fun p q j hp hq=>?_⟩
  ·obtain⟨p,hp⟩:=AY2.1 hm
   have:=h 0 (p+1) a (by simp) (by simpa using hp)
   omega
  ·have:=h (p+1) (q+1) j (by simpa using hp) (by simpa using hq)
   omega
theorem Rx {regs:D1}{ids:List Nat}{ks:List Bool}{d n:Nat}{objs:List Obj}(hob:J4 ids regs ids=some objs)(hd:ids.Nodup)(hf:CL regs ids ks d n=true):(N9 d ids ks n).Nodup:=by
 refine Jz fun p q j hp hq=>?_;obtain⟨h1,h2⟩:=IZ hp;obtain⟨h3,h4⟩:=IZ hq;obtain⟨_,hg⟩:=X6 hob;rcases h2 with⟨h2,h2'⟩ | ⟨h2e,h2⟩<;>rcases h4 with⟨h4,h4'⟩ | ⟨h4e,h4⟩
 ·exact Ea hd h2 h4
 ·obtain⟨o,_,ho,_⟩:=hg p _ h2
  have:=Hl hf h3 h4
  rw[<- h4e,ho]at this;cases this
 ·obtain⟨o,_,ho,_⟩:=hg q _ h4
  have:=Hl hf h1 h2
  rw[<- h2e,ho]at this;cases this
 ·have:nid d p=nid d q:=h2e.symm.trans h4e
  unfold nid at this;omega
def Wj (new:List Nat)(rho rho' : Nat->Value)(j:Nat):Value:=match idx new j with
 |some p=>rho' p
 |none=>rho j
theorem XG (h:Sat C st a w rho){ids:List Nat}{objs objs' : List Obj}{ks:List Bool}{d:Nat}{w' : World}{rho' : Nat->Value}(hd:F7 ids=true)(hob:J4 ids st.regs ids=some objs)
 (hE:SatE (C.callee st.regs w rho ids) (objRegs objs') w' rho') (hks:∀i:Nat,ks[i]? = some true->i<objs'.length/\rho' i=rho (ids.getD i 0)) (hf:CL st.regs ids ks d objs'.length=true) :
 let new:=N9 d ids ks objs'.length
 let R':=Zz new new objs' (O0 ids ks st.regs)
 Sat C { st with regs:=R' } a w' (Wj new rho rho')/\Kp C st.regs R' w w' rho (Wj new rho rho') /\
  Keeps w' (Prv (AJ5 C st.regs rho ids) (A2 (objRegs objs')) rho') w' (Prv C.X (A2 R') (Wj new rho rho')) /\
  ∀p,Lv (A2 (objRegs objs')) p->Lv (A2 R') (new.getD p 0)/\Wj new rho rho' (new.getD p 0)=rho' p:=by
 intro new R';have hdup:=Bw hd;obtain⟨hl,hg⟩:=X6 hob;have hnd:new.Nodup:=Rx hob hdup hf;have hnl:new.length=objs'.length:=XF;have hR:∀j,A2 R' j=match idx new j with
  |some p=>(objs'[p]?).map (unO new)
  |none=>A2 (O0 ids ks st.regs) j:=fun j=>Wi new j new objs' _ hnd hnl
 have hD:∀j,A2 (O0 ids ks st.regs) j=match idx ids j with
  |some p=>if ks[p]? = some true then A2 st.regs j else some .dead
  |none=>A2 st.regs j:=fun j=>Eb j ids ks _ hdup
 have hnew:∀j p,idx new j=some p->p<objs'.length/\((ids[p]? = some j/\rho' p=rho j/\Lv (A2 st.regs) j) \/ (A2 st.regs j=none/\1000<=j)):=by
  intro j p hp;obtain⟨h1,h2⟩:=IZ (N2 hp);refine⟨h1,?_⟩;rcases h2 with⟨h2,h3⟩ | ⟨rfl,h2⟩
  ·obtain⟨o,_,ho,_⟩:=hg p j h2;exact .inl ⟨h2,by rw[(hks p h3).2,Ck h2],by simp[Lv,ho]⟩
  ·exact .inr ⟨Hl hf h1 h2,Co d p⟩
 have hold:∀j,idx new j=none->j∈ids->A2 R' j=some .dead:=by
  intro j hj hm;rw[hR j,hj];obtain⟨p,hp⟩:=PH hm;simp only[hD j,hp];by_cases hk:ks[p]? = some true
  ·exfalso;have hlt:=(hks p hk).1
   have:new[p]? = some j:=by show (N9 d ids ks objs'.length)[p]? = some j;unfold N9;rw[AS5,Lg hlt];simp[N2 hp,hk]
   rw[Aw4 hnd this]at hj;cases hj
  ·simp[hk]
 have hkeepR:∀j,idx new j=none->j ∉ ids->A2 R' j=A2 st.regs j:=by
  intro j hj hm;rw[hR j,hj]
  have:idx ids j=none:=by
   cases hx:idx ids j with
   |none=>rfl
   |some p=>exact absurd (AT7 (N2 hx)) hm
  simp only[hD j,this]
 have hRs:∀j p,idx new j=some p->∃o',objs'[p]? = some o' /\ A2 R' j=some (unO new o')/\Wj new rho rho' j=rho' p:=by intro j p hp;obtain⟨h1,_⟩:=hnew j p hp;refine⟨objs'[p],AS2 h1,?_,by simp[Wj,hp]⟩;rw[hR j,hp];simp[AS2 h1]
 have hrn:∀j,idx new j=none->Wj new rho rho' j=rho j:=fun j hj=>by simp[Wj,hj]
 have hlive:∀j,Lv (A2 st.regs) j->Lv (A2 R') j/\Wj new rho rho' j=rho j:=by
  intro j hj;cases hx:idx new j with
  |some p=>
   obtain⟨o',_,h2,h3⟩:=hRs j p hx;refine⟨by simp[Lv,h2],?_⟩;rcases (hnew j p hx).2 with⟨_,h4,_⟩ | ⟨h4,_⟩
   ·rw[h3,h4]
   ·simp[Lv,h4]at hj
  |none=>
   refine⟨?_,hrn j hx⟩;by_cases hm:j∈ids
   ·simp[Lv,hold j hx hm]
   ·simpa[Lv,hkeepR j hx hm]using hj
 have hback:∀p,p<objs'.length->idx new (new.getD p 0)=some p:=by
  intro p hp
  have:new[p]? = some (new.getD p 0):=by rw[AR7,AS2 (by omega)];rfl
  exact Aw4 hnd this
 have hpi:∀b off,Prv C.X (A2 R') (Wj new rho rho') b off->Prv (AJ5 C st.regs rho ids) (A2 (objRegs objs')) rho' b off:=by
  rintro b off (hX|⟨j,o,hj,hb,hp⟩)
  ·exact .inl (.inl hX)
  ·cases hx:idx new j with
   |some p=>obtain⟨o',h1,h2,h3⟩:=hRs j p hx;rw[h2]at hj;cases hj;rw[h3,PG]at hb;exact .inr ⟨p,o',by rw[D2];exact h1,hb,(Aa7 off).1 hp⟩
   |none=>
    by_cases hm:j∈ids
    ·rw[hold j hx hm]at hj;cases hj;simp[G5]at hb
    ·rw[hkeepR j hx hm]at hj;rw[hrn j hx]at hb;exact .inl (.inr ⟨j,o,hm,hj,hb,hp⟩)
 have hk2:Keeps w' (Prv (AJ5 C st.regs rho ids) (A2 (objRegs objs')) rho') w' (Prv C.X (A2 R') (Wj new rho rho')):=fun b o v hp hc=>⟨hc,fun hp'=>hp (hpi b o hp')⟩;have hlb:∀p,Lv (A2 (objRegs objs')) p->Lv (A2 R') (new.getD p 0)/\Wj new rho rho' (new.getD p 0)=rho' p:=by
  intro p hp;have hlt:p<objs'.length:=by simp only[Lv,D2]at hp;exact (AS9.1 (Option.eq_some_of_isSome hp)).1
  obtain⟨o',_,h2,h3⟩:=hRs _ p (hback p hlt);exact⟨by rw[Lv,h2];rfl,h3⟩
 have hyld:∀(p:Nat) r b,objs'[p]? ≠ some (.yld r b):=by intro p r b hp;exact (hE.yld p r b (by rw[D2];exact hp)).1
 obtain⟨g1,g2⟩:=h.step (R':=R') (rho':=Wj new rho rho') (w':=w') (fun j=>j∈ids \/ ∃p,idx new j=some p)
  (fun j hj=>by
   have h1:j ∉ ids:=fun e=>hj (.inl e);have h2:idx new j=none:=by
    cases hx:idx new j with
    |none=>rfl
    |some p=>exact absurd (.inr ⟨p,hx⟩) hj
   exact hkeepR j h2 h1)
  hlive hE.size
  (fun j hj hj'=>by
   cases hx:idx new j with
   |some p=>
    rcases (hnew j p hx).2 with⟨_,_,h4⟩ | ⟨_,h4⟩
    ·exact absurd h4 hj
    ·exact h4
   |none=>
    by_cases hm:j∈ids
    ·obtain⟨p,hp⟩:=PH hm;obtain⟨o,_,ho,_⟩:=hg p j (N2 hp);exact absurd (by simp[Lv,ho]) hj
    ·rw[Lv,hkeepR j hx hm]at hj';exact absurd hj' hj)
  (fun j r b hDj hj=>by
   cases hx:idx new j with
   |some p=>
    obtain⟨o',h1,h2,h3⟩:=hRs j p hx;rw[h2]at hj
    have:o' = .yld r b:=by cases o'<;>simp[unO]at hj⊢;exact hj
    subst this;exact hyld p r b h1
   |none=>
    rcases hDj with hm|⟨p,hp⟩
    ·rw[hold j hx hm]at hj;cases hj
    ·rw[hx]at hp;cases hp)
  (fun b hb hno=>hE.same b hb (by rintro⟨j,o,hm,hj,hbo⟩;exact hno j o (.inl hm) hj hbo))
  (fun j o b hDj hj hbo=>by
   cases hx:idx new j with
   |some p=>
    obtain⟨o',h1,h2,h3⟩:=hRs j p hx;rw[h2]at hj;cases hj;rw[h3,PG]at hbo;rcases hE.own b ⟨p,o',by rw[D2];exact h1,hbo⟩with⟨i,oi,hm,hi,hbi⟩ | hge
    ·exact .inl ⟨i,oi,.inl hm,hi,hbi⟩
    ·exact .inr hge
   |none=>
    rcases hDj with hm|⟨p,hp⟩
    ·rw[hold j hx hm]at hj;cases hj;simp[G5]at hbo
    ·rw[hx]at hp;cases hp)
  (fun i j oi oj b hDi hDj hi hj hbi hbj=>by
   have key:∀i oi,(i∈ids \/ ∃p,idx new i=some p)->A2 R' i=some oi->G5 (Wj new rho rho' i) oi=some b->∃p o',idx new i=some p/\A2 (objRegs objs') p=some o' /\ G5 (rho' p) o' = some b:=by
    intro i oi hDi hi hbi;cases hx:idx new i with
    |some p=>obtain⟨o',h1,h2,h3⟩:=hRs i p hx;rw[h2]at hi;cases hi;rw[h3,PG]at hbi;exact⟨p,o',rfl,by rw[D2];exact h1,hbi⟩
    |none=>
     rcases hDi with hm|⟨p,hp⟩
     ·rw[hold i hx hm]at hi;cases hi;simp[G5]at hbi
     ·rw[hx]at hp;cases hp
   obtain⟨p,o1,h1,h2,h3⟩:=key i oi hDi hi hbi;obtain⟨q,o2,h4,h5,h6⟩:=key j oj hDj hj hbj
   have:=hE.hp.sep p q o1 o2 b h2 h5 h3 h6
   subst this;have e1:=N2 h1;have e2:=N2 h4;rw[e1]at e2;cases e2;rfl)
  (fun i oi b off v hDi hi hbi hnp hc=>by
   obtain⟨h1,h2⟩:=hE.keep b off v hnp hc;refine⟨h1,fun j o hDj hj hbo hp=>h2 ?_⟩;cases hx:idx new j with
   |some p=>obtain⟨o',h4,h5,h6⟩:=hRs j p hx;rw[h5]at hj;cases hj;rw[h6,PG]at hbo;exact .inr ⟨p,o',by rw[D2];exact h4,hbo,(Aa7 off).1 hp⟩
   |none=>
    rcases hDj with hm|⟨p,hp'⟩
    ·rw[hold j hx hm]at hj;cases hj;simp[G5]at hbo
    ·rw[hx]at hp';cases hp')
  (fun hk j o hDj hj=>by
   cases hx:idx new j with
   |some p=>obtain⟨o',h4,h5,h6⟩:=hRs j p hx;rw[h5]at hj;cases hj;rw[h6];exact (hE.hp.holds p o' (by rw[D2];exact h4)).un hk2 hlb (fun b _=>rfl)
   |none=>
    rcases hDj with hm|⟨p,hp'⟩
    ·rw[hold j hx hm]at hj;cases hj;trivial
    ·rw[hx]at hp';cases hp') hE.ext
 exact⟨g1,⟨g2,hlive⟩,hk2,hlb⟩
end
end Go.AM
set_option linter.unusedVariables false
namespace Go.AM
section
variable {P:Program}{C:Ctx}{st t:St}{a:Act}{w:World}{rho:Nat->Value}
theorem semUp.refl {st:St}{K:St->Prop}(h:K st):semUp st K:=fun C a w rho hs=>⟨st,rho,h,fun _ _ h=>h,hs⟩
theorem semUp.trans {st:St}{K:St->Prop}(h:semUp st fun t=>semUp t K):semUp st K:=fun C a w rho hs=>
 let ⟨st',rho',h1,hp,h2⟩:=h C a w rho hs
 let ⟨st2,rho2,h3,hp',h4⟩:=h1 C a w rho' h2
 ⟨st2,rho2,h3,fun b o hx=>hp b o (hp' b o hx),h4⟩
theorem semUp.mono {st:St}{K K' : St->Prop}(hk:∀t,K t->K' t)(h:semUp st K):semUp st K':=fun C a w rho hs=>
 let ⟨st',rho',h1,h2⟩:=h C a w rho hs
 ⟨st',rho',hk _ h1,h2⟩
theorem Sat.slot (h:Sat C st a w rho){t:Nat}{x:AV}(hx:RS C st w rho (a.tmps.getD t undef) x):Sat C ⟨ins t x st.env,st.regs⟩ a w rho:=by
 refine⟨h.toSatE,fun i=>?_,h.pin,h.marks⟩;show RepA w _ _ rho _ (get (ins t x st.env) i);rw[TW];split
 ·rename_i e;subst e;exact hx
 ·exact h.env i
theorem semUp.bool {st:St}{t:Nat}{b:Bool}{K:St->Prop}(hg:get st.env t=.p (.bb b))(h:K ⟨ins t (.p (.v (.bool b))) st.env,st.regs⟩):semUp st K:=fun C a w rho hs=>by
 refine⟨_,rho,h,fun _ _ h=>h,hs.slot ?_⟩
 have:=hs.env t
 rw[hg]at this;rw[this.toP.toBool];exact .p _ _ (.v _)
theorem semUp.nil {st:St}{t k n:Nat}{f:Nat->List PV}{K:St->Prop}(hg:get st.env t=.p (.sl false k n f))
 (h1:n=0->K ⟨ins t (.p (.v (.slice none 0 0))) st.env,st.regs⟩) (h2:K ⟨ins t (.p (.sl true k n f)) st.env,st.regs⟩):semUp st K:=fun C a w rho hs=>by
 have:=hs.env t
 rw[hg]at this
 have:=this.toP
 generalize hv:a.tmps.getD t undef=v at this;cases this with
 |slnil=>exact⟨_,rho,h1 rfl,fun _ _ h=>h,hs.slot (by rw[hv];exact .p _ _ (.v _))⟩
 |sl _ b off cap _ _ _ c hn hk hc h sp hsp=>exact⟨_,rho,h2,fun _ _ h=>h,hs.slot (by rw[hv];exact .p _ _ (.sl true b off cap k n f c hn hk hc h sp hsp))⟩
theorem Wk (n:Nat)(f:Nat->PV){i:Nat}(hi:i<n):(Al4 n f).getD i .top=.p (f i):=by simp[Al4,AR7,hi]
theorem PI (n:Nat)(f:Nat->PV):(Al4 n f).length=n:=by simp[Al4]
theorem semUp.swap {st:St}{j:Nat}{o o' : Obj}{K:St->Prop}(hj:A2 st.regs j=some o)(hb:∀v,G5 v o' = G5 v o)(hp:∀off,IS o' off↔IS o off)(hy:∀r b,o' ≠ .yld r b)
 (hh:∀{w:World}{Pi:Nat->Nat->Prop}{live:Nat->Prop}{rho:Nat->Value}{v:Value},HoldsO w Pi live rho v o->HoldsO w Pi live rho v o') (hK:K ⟨st.env,ins j o' st.regs⟩):semUp st K:=fun C a w rho hs=>by
 have hget:∀i,A2 (ins j o' st.regs) i=if j=i then some o' else A2 st.regs i:=fun i=>A9 _ _ _ _
 have hlv:∀i,Lv (A2 (ins j o' st.regs)) i↔Lv (A2 st.regs) i:=fun i=>by
  unfold Lv;rw[hget];split
  ·rename_i e;subst e;rw[hj];simp
  ·rfl
 have hpr:∀b off,Prv C.X (A2 (ins j o' st.regs)) rho b off↔Prv C.X (A2 st.regs) rho b off:=fun b off=>by
  unfold Prv;refine or_congr Bc0 ⟨?_,?_⟩
  ·rintro⟨i,oi,h1,h2,h3⟩;rw[hget]at h1;split at h1
   ·rename_i e;subst e;cases h1;exact⟨j,o,hj,by rw[<- hb];exact h2,(hp off).1 h3⟩
   ·exact⟨i,oi,h1,h2,h3⟩
  ·rintro⟨i,oi,h1,h2,h3⟩;by_cases e:j=i
   ·subst e;rw[hj]at h1;cases h1;exact⟨j,o',by rw[hget,if_pos rfl],by rw[hb];exact h2,(hp off).2 h3⟩
   ·exact⟨i,oi,by rw[hget,if_neg e];exact h1,h2,h3⟩
 have hk:Keeps w (Prv C.X (A2 st.regs) rho) w (Prv C.X (A2 (ins j o' st.regs)) rho):=fun b off v h1 h2=>⟨h2,fun h=>h1 ((hpr b off).1 h)⟩;have hl:∀i,Lv (A2 st.regs) i->Lv (A2 (ins j o' st.regs)) i/\rho i=rho i:=fun i hi=>⟨(hlv i).2 hi,rfl⟩;refine⟨_,rho,hK,fun b off h=>(hpr b off).1 h,⟨⟨⟨fun i oi hi0=>?_,fun i i' oi oi' b hi hi' hbi hbi'=>?_,fun i oi b off hi0 hbi=>?_,hs.hp.bound⟩,hs.ext,hs.size,hs.same,hs.keep.trans hk,fun b hbo=>?_,fun i r b hi0=>?_⟩,fun t=>(hs.env t).keeps hk hl,fun i hi hli=>hs.pin i hi ((hlv i).1 hli),hs.marks⟩⟩
 ·have hi:A2 (ins j o' st.regs) i=some oi:=hi0;clear hi0;rw[hget]at hi;split at hi
  ·rename_i e;subst e;cases hi;exact hh ((hs.hp.holds j o hj).keeps hk hl fun _ _=>rfl)
  ·exact (hs.hp.holds i oi hi).keeps hk hl fun _ _=>rfl
 ·have own:∀{i:Nat}{oi:Obj}{b:Nat},A2 (ins j o' st.regs) i=some oi->G5 (rho i) oi=some b->∃o2,A2 st.regs i=some o2/\G5 (rho i) o2=some b:=by
   intro i oi b hi hbi;rw[hget]at hi;split at hi
   ·rename_i e;subst e;cases hi;exact⟨o,hj,by rw[<- hb];exact hbi⟩
   ·exact⟨oi,hi,hbi⟩
  obtain⟨o2,h1,h2⟩:=own hi hbi;obtain⟨o3,h3,h4⟩:=own hi' hbi';exact hs.hp.sep i i' o2 o3 b h1 h3 h2 h4
 ·have hi:A2 (ins j o' st.regs) i=some oi:=hi0;clear hi0;rw[hget]at hi;split at hi
  ·rename_i e;subst e;cases hi;exact hs.hp.out j o b off hj (by rw[<- hb];exact hbi)
  ·exact hs.hp.out i oi b off hi hbi
 ·obtain⟨i,oi,hi0,hbi⟩:=hbo;have hi:A2 (ins j o' st.regs) i=some oi:=hi0;clear hi0;rw[hget]at hi;split at hi
  ·rename_i e;subst e;cases hi;exact hs.own b ⟨j,o,hj,by rw[<- hb];exact hbi⟩
  ·exact hs.own b ⟨i,oi,hi,hbi⟩
 ·have hi:A2 (ins j o' st.regs) i=some (.yld r b):=hi0;clear hi0;rw[hget]at hi;split at hi
  ·cases hi;exact absurd rfl (hy r b)
  ·exact hs.yld i r b hi
theorem semUp.toArr {st:St}{j n:Nat}{f:Nat->PV}{K:St->Prop}(hj:A2 st.regs j=some (.cells (Al4 n f)))(hK:K ⟨st.env,ins j (.arr n f) st.regs⟩):semUp st K:=
 semUp.swap (o':=.arr n f) hj (fun _=>rfl) (fun _=>Bc0) (fun _ _ h=>by cases h) (fun hh=>by obtain⟨b,c,T,h1,h2,h3,h4⟩:=hh;rw[PI]at h3 h4;exact⟨b,c,T,h1,h2,h3,fun i hi=>⟨by have:=(h4 i hi).1;rw[Wk n f hi]at this;exact this.toP,(h4 i hi).2⟩⟩) hK
theorem semUp.ofArr {st:St}{j n:Nat}{f:Nat->PV}{K:St->Prop}(hj:A2 st.regs j=some (.arr n f))(hK:K ⟨st.env,ins j (.cells (Al4 n f)) st.regs⟩):semUp st K:=
 semUp.swap (o':=.cells (Al4 n f)) hj (fun _=>rfl) (fun _=>Bc0) (fun _ _ h=>by cases h) (fun hh=>by obtain⟨b,c,T,h1,h2,h3,h4⟩:=hh;exact⟨b,c,T,h1,h2,by rw[PI];exact h3,fun i hi=>by rw[PI]at hi;rw[Wk n f hi];exact⟨.p _ _ (h4 i hi).1,(h4 i hi).2⟩⟩) hK
theorem Am9 (j:Nat)(ps:List PV)(env:Env)(t:Nat):get (Ak5 j ps env) t=frzA j ps (get env t):=by
 induction env with
 |nil=>rfl
 |cons p r ih=>
  obtain⟨i,a⟩:=p;simp only[Ak5,get];split
  ·rfl
  ·exact ih
theorem semUp.frz {st:St}{j:Nat}{ps:List PV}{K:St->Prop}(hj:A2 st.regs j=some (.cells (ps.map .p)))(hK:K ⟨Ak5 j ps st.env,ins j .dead st.regs⟩):semUp st K:=fun C a w rho hs=>by
 have hget:∀i,A2 (ins j .dead st.regs) i=if j=i then some .dead else A2 st.regs i:=fun i=>A9 _ _ _ _
 obtain⟨h1,hk⟩:=hs.step (D:=(· = j)) (R':=ins j .dead st.regs) (rho':=rho) (w':=w)
  (fun i hi=>by rw[hget,if_neg (fun e=>hi e.symm)])
  (fun i hi=>⟨by
   unfold Lv at hi⊢;rw[hget];split
   ·rfl
   ·exact hi,rfl⟩) (AS4 _)
  (fun i hi hl=>by
   unfold Lv at hi hl;rw[hget]at hl;split at hl
   ·rename_i e;subst e;rw[hj]at hi;exact absurd rfl hi
   ·exact absurd hl hi)
  (fun i r b hi=>by subst hi;rw[hget,if_pos rfl];simp)
  (fun _ _ _=>rfl)
  (fun i o b hi ho hb=>by subst hi;rw[hget,if_pos rfl]at ho;cases ho;cases hb)
  (fun i i' oi oj b hi hi' _ _ _ _=>hi.trans hi'.symm)
  (fun i oi b off v hi ho hb hp hc=>⟨hc,fun i' o hi' ho' hb'=>by subst hi';rw[hget,if_pos rfl]at ho';cases ho';cases hb'⟩)
  (fun _ i o hi ho=>by subst hi;rw[hget,if_pos rfl]at ho;cases ho;trivial)
 have hprv:∀b off,Prv C.X (A2 (ins j .dead st.regs)) rho b off->Prv C.X (A2 st.regs) rho b off:=by
  rintro b off (hX|⟨i,o,hi,hb,hp⟩)
  ·exact .inl hX
  ·rw[hget]at hi;split at hi
   ·cases hi;cases hb
   ·exact .inr ⟨i,o,hi,hb,hp⟩
 refine⟨_,rho,hK,hprv,⟨h1.toSatE,fun t=>?_,h1.pin,h1.marks⟩⟩;show RepA w _ _ rho (a.tmps.getD t undef) (get (Ak5 j ps st.env) t);rw[Am9];have he:=h1.env t;have he:RepA w (Prv C.X (A2 (ins j .dead st.regs)) rho) (Lv (A2 (ins j .dead st.regs))) rho (a.tmps.getD t undef) (get st.env t):=he;have ho:=hs.env t;generalize get st.env t=x at he ho⊢;cases x with
 |reg i o=>
  simp only[frzA];split
  ·rename_i e;subst e;generalize a.tmps.getD t undef=v at ho⊢;cases ho with
   |reg _ _ b hl hr=>
    obtain⟨b',c,T,e1,e2,e3,e4⟩:=hs.hp.holds i _ hj;rw[hr]at e1;cases e1;have hsz:c.size=ps.length:=by simpa using e3
    refine .p _ _ (.ptr b o (ps.drop o) (fun q=>c.getD (o+q) undef) (fun q hq=>?_) fun q hq=>?_)
    ·have hlt:o+q<ps.length:=by simp only[AV0]at hq;omega
     refine⟨H1 e2 (by omega),?_,(e4 (o+q) (by simpa using hlt)).2⟩;rintro (hX|⟨i',o',hi',hb',hp'⟩)
     ·exact hs.hp.out i _ b _ hj (by simp[G5,hr]) hX
     ·rw[hget]at hi';split at hi'
      ·cases hi';cases hb'
      ·rename_i hne;exact hne (hs.hp.sep i i' _ o' b hj hi' (by simp[G5,hr]) hb')
    ·have hlt:o+q<ps.length:=by simp only[AV0]at hq;omega
     have h4:=(e4 (o+q) (by simpa using hlt)).1;have e5:(ps.map AV.p).getD (o+q) .top=.p (ps.getD (o+q) default):=by simp[AR7,hlt]
     rw[e5]at h4;have e6:(ps.drop o).getD q default=ps.getD (o+q) default:=by simp[AR7,AZ3]
     rw[e6];exact h4.toP.keeps hk
  ·exact he
 |_=>exact he
theorem Sat.congr {s t:St}(h:Sat C s a w rho)(h1:∀x,get s.env x=get t.env x)(h2:∀j,A2 s.regs j=A2 t.regs j):Sat C t a w rho:=by have e1:get s.env=get t.env:=funext h1;have e2:A2 s.regs=A2 t.regs:=funext h2;obtain⟨⟨g1,g0,g2,g3,g4,g5,g6⟩,g7,g8,g9⟩:=h;rw[e2]at g1 g4 g5 g6 g7 g8;rw[e1]at g7;exact⟨⟨g1,g0,g2,g3,g4,g5,g6⟩,g7,g8,g9⟩
theorem semUp.eqv {s t:St}{K:St->Prop}(h1:∀x,get s.env x=get t.env x)(h2:∀j,A2 s.regs j=A2 t.regs j)(h:K t):semUp s K:=fun C a w rho hs=>
 ⟨t,rho,h,fun b o hp=>by rw[funext h2];exact hp,hs.congr h1 h2⟩
theorem semUp.less {s t:St}{K:St->Prop}(h1:∀x,Py (get t.env x) (get s.env x))(h2:∀j,A2 s.regs j=A2 t.regs j)(h:K t):semUp s K:=fun C a w rho hs=>by
 have hs2:Sat C ⟨s.env,t.regs⟩ a w rho:=hs.congr (fun _=>rfl) h2;refine⟨t,rho,h,fun b o hp=>by rw[funext h2];exact hp,hs2.toSatE,fun x=>?_,hs2.pin,hs2.marks⟩
 have:=hs2.env x
 rcases h1 x with e|e|⟨y,e1,e2⟩
 ·rw[e];exact .top _
 ·rw[e];exact this
 ·rw[e1];rw[show get (St.mk s.env t.regs).env x=_ from e2]at this;exact .p _ _ (this.toP.leP (.inr (.inr (.inr (.inl ⟨y,rfl,rfl⟩)))))
theorem Aw5 {ids:List (Nat×Nat)}{j i:Nat}(h:lk ids j=some i):(j,i)∈ids:=by
 induction ids with
 |nil=>simp[lk]at h
 |cons p r ih=>
  obtain⟨x,y⟩:=p;simp only[lk]at h;split at h
  ·rename_i e;cases h;subst e;simp
  ·exact AU9 _ (ih h)
theorem AL7 {ids:List (Nat×Nat)}(hn:F7 (ids.map (·.2))=true){j j' i:Nat}(h:lk ids j=some i)(h' : lk ids j' = some i):j=j':=by
 have hd:=Bw hn;obtain⟨p,hp⟩:=AY2.1 (Aw5 h);obtain⟨q,hq⟩:=AY2.1 (Aw5 h')
 have:p=q:=Ea (j:=i) hd (by rw[AS5,hp];rfl) (by rw[AS5,hq];rfl)
 subst this;rw[hp]at hq;cases hq;rfl
theorem AL8 {ids:List (Nat×Nat)}(hp:Xz ids=true){j i:Nat}(h:lk ids j=some i)(hj:j<1000):i=j:=by
 induction ids with
 |nil=>simp[lk]at h
 |cons p r ih=>
  obtain⟨x,y⟩:=p;simp only[Xz,AS3,AT6,beq_iff_eq,decide_eq_true_eq]at hp;simp only[lk]at h;split at h
  ·rename_i e;cases h;omega
  ·exact ih hp.2 h
theorem PJ {regs:D1}{j:Nat}{o:Obj}(h:A2 regs j=some o):(j,o)∈regs:=by
 induction regs with
 |nil=>simp[A2]at h
 |cons p r ih=>
  obtain⟨x,y⟩:=p;simp only[A2]at h;split at h
  ·rename_i e;cases h;subst e;simp
  ·exact AU9 _ (ih h)
theorem An0 {regs:D1}{j:Nat}(h:j∈regs.map (·.1)):(A2 regs j).isSome=true:=by
 induction regs with
 |nil=>simp at h
 |cons p r ih=>
  obtain⟨x,y⟩:=p;simp only[A2];split
  ·rfl
  ·rename_i e;simp only[AU8,AW0]at h;rcases h with h|h
   ·exact absurd h.symm e
   ·exact ih h
theorem Ec {regs:D1}{ids:List (Nat×Nat)}:∀{r:D1},Re regs ids r->∀{j:Nat}{p:Obj},A2 r j=some p ->
 (∃i o,lk ids j=some i/\A2 regs i=some o/\leO regs ids o p) \/ (lk ids j=none/\∃e k f vw,p=.vec e k 0 f vw)
 |[],_,j,p,h=>by simp[A2]at h
 |(x,y)::r,hl,j,p,h=>by
  simp only[A2]at h;split at h
  ·rename_i e;cases h;subst e;exact hl.1
  ·exact Ec hl.2 h
theorem Ry {regs:D1}{ids:List (Nat×Nat)}{env:Env}:∀{r:Env},KT regs ids env r->∀(t:Nat),(∃b,(t,b)∈r/\get r t=b/\leA regs ids (get env t) b/\∀i∈IR (get env t) b,i∈Al2 env r) \/ get r t=.top
 |[],_,t=>.inr rfl
 |(x,y)::r,hl,t=>by
  simp only[get];split
  ·rename_i e;subst e;exact .inl ⟨y,by simp,rfl,hl.1,fun i hi=>by simp only[Al2];exact AU2 _ hi⟩
  ·rcases Ry hl.2 t with⟨b,h1,h2,h3,h4⟩ | h
   ·exact .inl ⟨b,AU9 _ h1,h2,h3,fun i hi=>by simp only[Al2];exact AT1 _ (h4 i hi)⟩
   ·exact .inr h
theorem Oe {ids:List (Nat×Nat)}{js:List Nat}:∀{r:D1},Jw ids js r=true->∀{j e k n f i},(j,Obj.vec e k n f false)∈r->lk ids j=some i->i ∉ js
 |[],_,j,e,k,n,f,i,h,_=>by simp at h
 |p::r,hs,j,e,k,n,f,i,h,hi=>by
  rcases AW0.1 h with h|h
  ·subst h;simp only[Jw,hi,AS3,AU3,AV2,decide_eq_false_iff_not]at hs;exact hs.1
  ·refine Oe (r:=r) ?_ h hi;obtain⟨x,o⟩:=p;cases o with
   |vec _ _ _ _ b=>cases b<;>simp only[Jw,AS3]at hs<;>first|exact hs.2|exact hs
   |_=>exact hs
theorem Hm {regs:D1}{ids:List (Nat×Nat)}:∀{l m:List AV},leL regs ids l m->l.length=m.length/\∀i,i<l.length->leA regs ids (l.getD i .top) (m.getD i .top)/\∀x∈IR (l.getD i .top) (m.getD i .top),x∈KU l m
 |l,[],h=>by unfold leL at h;subst h;exact⟨rfl,fun i hi=>absurd hi (by simp)⟩
 |l,y::m,h=>by
  unfold leL at h;obtain⟨x,r,rfl,h1,h2⟩:=h;obtain⟨h3,h4⟩:=Hm h2;refine⟨by simp[h3],fun i hi=>?_⟩;cases i with
  |zero=>exact⟨by simpa using h1,fun z hz=>by unfold KU;exact AU2 _ (by simpa using hz)⟩
  |succ i=>obtain⟨h5,h6⟩:=h4 i (by simpa using hi);exact⟨by simpa using h5,fun z hz=>by unfold KU;exact AT1 _ (h6 z (by simpa using hz))⟩
theorem Hn {js:List Nat}:∀{m:List AV},inL js m=true->∀i,i<m.length->inA js (m.getD i .top)=true
 |[],_,i,hi=>absurd hi (by simp)
 |y::m,h,i,hi=>by
  unfold inL at h;rw[AS3]at h;cases i with
  |zero=>simpa using h.1
  |succ i=>simpa using Hn h.2 i (by simpa using hi)
section
variable {Pi Pi' : Nat->Nat->Prop}{live live' : Nat->Prop}{rho' : Nat->Value}{regs:D1}{ids:List (Nat×Nat)}{js:List Nat}
theorem RepA.viewP (hk:Keeps w Pi w Pi'){seenP:Nat->Prop}
 (hv:∀i,seenP i->∀e k n f vw base n' cap,A2 regs i=some (.vec e k n f vw)->rho i=.slice base n' cap->n' = n/\∀m,m<=n->RepP w Pi' (.slice base m cap) (.sl false k m f))
 {v:Value}{a:AV}(h:RepA w Pi live rho v a) {x y:PV}(hx:AM.viewP regs a=some x) (hs:∀i∈IR a (.p y),seenP i):RepP w Pi' v x:=by
 cases h with
 |p _ z hz=>simp only[AM.viewP,AS0]at hx;subst hx;exact hz.keeps hk
 |vec j base n' cap hl hr=>
  simp only[AM.viewP]at hx;split at hx
  ·rename_i e k n f vw hj;cases hx;obtain⟨rfl,h2⟩:=hv j (hs j (by simp[IR])) _ _ _ _ _ _ _ _ hj hr;exact h2 _ (AS4 _)
  ·cases hx
 |vecp j m base n' cap hl hr hm=>
  simp only[AM.viewP]at hx;split at hx
  ·rename_i e k n f vw hj;cases hx;obtain⟨rfl,h2⟩:=hv j (hs j (by simp[IR])) _ _ _ _ _ _ _ _ hj hr;rw[AZ0 hm];exact h2 _ hm
  ·cases hx
 |clo f x' y' l r hx' hy' hl hr=>
  have gen:(match QT l,QT r with
   |some a,some b=>some (PV.fn f a b)
   |_,_=>none)=some x->RepP w Pi' (.func (.func f) x' y') x:=by
   intro he;split at he
   ·rename_i a' b' ha hb;cases he;exact (RepA.clo_fn ha hb (.clo f x' y' l r hx' hy' hl hr)).keeps hk
   ·cases he
  cases l with
  |cons _ _=>exact gen hx
  |nil=>
   cases r with
   |cons _ _=>exact gen hx
   |nil=>simp only[AM.viewP,AS0]at hx;subst hx;have e1:x' = #[]:=Bb9.1 (by simpa using hx');have e2:y' = #[]:=Bb9.1 (by simpa using hy');subst e1;subst e2;exact .v _
 |_=>simp[AM.viewP]at hx
theorem RepA.le (hk:Keeps w Pi w Pi')(hlk:∀j i,lk ids j=some i->rho' j=rho i)(hnil:∀j,lk ids j=none->rho' j=.slice none 0 0)(hjs:∀j,js.contains j=true->live' j){seenP:Nat->Prop}
 (hv:∀i,seenP i->∀e k n f vw base n' cap,A2 regs i=some (.vec e k n f vw)->rho i=.slice base n' cap->n' = n/\∀m,m<=n->RepP w Pi' (.slice base m cap) (.sl false k m f))
 {v:Value}{a:AV}(h:RepA w Pi live rho v a):∀{b:AV},leA regs ids a b->inA js b=true->(∀i∈IR a b,seenP i)->RepA w Pi' live' rho' v b:=by
 induction h with
 |p v x h=>
  intro b' hle hin hs;cases b' with
  |top=>exact .top _
  |p y'=>unfold leA at hle;obtain⟨x',hx',hl'⟩:=hle;exact .p _ _ (((RepA.p (live:=live) v x h).viewP hk hv hx' hs).leP hl')
  |vec j'=>
   unfold leA at hle;rcases hle with⟨i',_,he⟩ | ⟨hn,he⟩
   ·cases he
   ·cases he;rw[h.toV];exact .vec j' none 0 0 (hjs j' (by unfold inA at hin;exact hin)) (hnil j' hn)
  |reg=>unfold leA at hle;obtain⟨_,_,he⟩:=hle;cases he
  |vecp=>unfold leA at hle;obtain⟨_,_,he⟩:=hle;cases he
  |elt=>unfold leA at hle;obtain⟨_,_,he⟩:=hle;cases he
  |mref=>unfold leA at hle;obtain⟨_,_,he⟩:=hle;cases he
  |clo f' x2 y2=>unfold leA at hle;obtain⟨_,_,he,_⟩:=hle;cases he
  |tup l2=>unfold leA at hle;obtain⟨_,he,_⟩:=hle;cases he
  |agr l2=>unfold leA at hle;obtain⟨_,he,_⟩:=hle;cases he
  |yf=>unfold leA at hle;obtain⟨_,_,he⟩:=hle;cases he
 |reg j off b hl h=>
  intro b' hle hin hs;cases b' with
  |top=>exact .top _
  |p y'=>unfold leA at hle;obtain⟨x',hx',hl'⟩:=hle;exact .p _ _ (((RepA.reg j off b hl h).viewP hk hv hx' hs).leP hl')
  |reg j' off'=>unfold leA at hle;obtain⟨i',hi',he⟩:=hle;cases he;exact .reg j' off b (hjs j' (by unfold inA at hin;exact hin)) ((hlk _ _ hi').trans h)
  |vec j'=>unfold leA at hle;rcases hle with⟨i',_,he⟩ | ⟨_,he⟩<;>cases he
  |vecp=>unfold leA at hle;obtain⟨_,_,he⟩:=hle;cases he
  |elt=>unfold leA at hle;obtain⟨_,_,he⟩:=hle;cases he
  |mref=>unfold leA at hle;obtain⟨_,_,he⟩:=hle;cases he
  |clo f' x2 y2=>unfold leA at hle;obtain⟨_,_,he,_⟩:=hle;cases he
  |tup l2=>unfold leA at hle;obtain⟨_,he,_⟩:=hle;cases he
  |agr l2=>unfold leA at hle;obtain⟨_,he,_⟩:=hle;cases he
  |yf=>unfold leA at hle;obtain⟨_,_,he⟩:=hle;cases he
 |vec j base n cap hl h=>
  intro b' hle hin hs;cases b' with
  |top=>exact .top _
  |p y'=>unfold leA at hle;obtain⟨x',hx',hl'⟩:=hle;exact .p _ _ (((RepA.vec j base n cap hl h).viewP hk hv hx' hs).leP hl')
  |vec j'=>
   unfold leA at hle;rcases hle with⟨i',hi',he⟩ | ⟨hn,he⟩
   ·cases he;exact .vec j' base n cap (hjs j' (by unfold inA at hin;exact hin)) ((hlk _ _ hi').trans h)
   ·cases he
  |reg=>unfold leA at hle;obtain⟨_,_,he⟩:=hle;cases he
  |vecp=>unfold leA at hle;obtain⟨_,_,he⟩:=hle;cases he
  |elt=>unfold leA at hle;obtain⟨_,_,he⟩:=hle;cases he
  |mref=>unfold leA at hle;obtain⟨_,_,he⟩:=hle;cases he
  |clo f' x2 y2=>unfold leA at hle;obtain⟨_,_,he,_⟩:=hle;cases he
  |tup l2=>unfold leA at hle;obtain⟨_,he,_⟩:=hle;cases he
  |agr l2=>unfold leA at hle;obtain⟨_,he,_⟩:=hle;cases he
  |yf=>unfold leA at hle;obtain⟨_,_,he⟩:=hle;cases he
 |vecp j m base n cap hl h hm=>
  intro b' hle hin hs;cases b' with
  |top=>exact .top _
  |p y'=>unfold leA at hle;obtain⟨x',hx',hl'⟩:=hle;exact .p _ _ (((RepA.vecp j m base n cap hl h hm).viewP hk hv hx' hs).leP hl')
  |vecp j' m'=>unfold leA at hle;obtain⟨i',hi',he⟩:=hle;cases he;exact .vecp j' m base n cap (hjs j' (by unfold inA at hin;exact hin)) ((hlk _ _ hi').trans h) hm
  |reg=>unfold leA at hle;obtain⟨_,_,he⟩:=hle;cases he
  |vec j'=>unfold leA at hle;rcases hle with⟨i',_,he⟩ | ⟨_,he⟩<;>cases he
  |elt=>unfold leA at hle;obtain⟨_,_,he⟩:=hle;cases he
  |mref=>unfold leA at hle;obtain⟨_,_,he⟩:=hle;cases he
  |clo f' x2 y2=>unfold leA at hle;obtain⟨_,_,he,_⟩:=hle;cases he
  |tup l2=>unfold leA at hle;obtain⟨_,he,_⟩:=hle;cases he
  |agr l2=>unfold leA at hle;obtain⟨_,he,_⟩:=hle;cases he
  |yf=>unfold leA at hle;obtain⟨_,_,he⟩:=hle;cases he
 |elt j k i off b n cap hl h=>
  intro b' hle hin hs;cases b' with
  |top=>exact .top _
  |p y'=>unfold leA at hle;obtain⟨x',hx',hl'⟩:=hle;exact .p _ _ (((RepA.elt j k i off b n cap hl h).viewP hk hv hx' hs).leP hl')
  |elt j' k' i2 off'=>unfold leA at hle;obtain⟨i',hi',he⟩:=hle;cases he;exact .elt j' k i off b n cap (hjs j' (by unfold inA at hin;exact hin)) ((hlk _ _ hi').trans h)
  |reg=>unfold leA at hle;obtain⟨_,_,he⟩:=hle;cases he
  |vec j'=>unfold leA at hle;rcases hle with⟨i',_,he⟩ | ⟨_,he⟩<;>cases he
  |vecp=>unfold leA at hle;obtain⟨_,_,he⟩:=hle;cases he
  |mref=>unfold leA at hle;obtain⟨_,_,he⟩:=hle;cases he
  |clo f' x2 y2=>unfold leA at hle;obtain⟨_,_,he,_⟩:=hle;cases he
  |tup l2=>unfold leA at hle;obtain⟨_,he,_⟩:=hle;cases he
  |agr l2=>unfold leA at hle;obtain⟨_,he,_⟩:=hle;cases he
  |yf=>unfold leA at hle;obtain⟨_,_,he⟩:=hle;cases he
 |mref j r hl h=>
  intro b' hle hin hs;cases b' with
  |top=>exact .top _
  |p y'=>unfold leA at hle;obtain⟨x',hx',hl'⟩:=hle;exact .p _ _ (((RepA.mref j r hl h).viewP hk hv hx' hs).leP hl')
  |mref j'=>unfold leA at hle;obtain⟨i',hi',he⟩:=hle;cases he;exact .mref j' r (hjs j' (by unfold inA at hin;exact hin)) ((hlk _ _ hi').trans h)
  |reg=>unfold leA at hle;obtain⟨_,_,he⟩:=hle;cases he
  |vec j'=>unfold leA at hle;rcases hle with⟨i',_,he⟩ | ⟨_,he⟩<;>cases he
  |vecp=>unfold leA at hle;obtain⟨_,_,he⟩:=hle;cases he
  |elt=>unfold leA at hle;obtain⟨_,_,he⟩:=hle;cases he
  |clo f' x2 y2=>unfold leA at hle;obtain⟨_,_,he,_⟩:=hle;cases he
  |tup l2=>unfold leA at hle;obtain⟨_,he,_⟩:=hle;cases he
  |agr l2=>unfold leA at hle;obtain⟨_,he,_⟩:=hle;cases he
  |yf=>unfold leA at hle;obtain⟨_,_,he⟩:=hle;cases he
 |clo f x y a b hx hy ha hb iha ihb=>
  intro b' hle hin hs;cases b' with
  |top=>exact .top _
  |p y'=>unfold leA at hle;obtain⟨x',hx',hl'⟩:=hle;exact .p _ _ (((RepA.clo f x y a b hx hy ha hb).viewP hk hv hx' hs).leP hl')
  |clo f' x2 y2=>
   unfold leA at hle;obtain⟨x3,y3,he,h1,h2⟩:=hle;cases he;unfold inA at hin;rw[AS3]at hin;obtain⟨l1,g1⟩:=Hm h1;obtain⟨l2,g2⟩:=Hm h2;exact .clo f x y x2 y2 (hx.trans l1) (hy.trans l2)
    (fun i hi=>iha i (by omega) (g1 i (by omega)).1 (Hn hin.1 i hi) fun z hz=>hs z (by unfold IR;exact AU2 _ ((g1 i (by omega)).2 z hz)))
    fun i hi=>ihb i (by omega) (g2 i (by omega)).1 (Hn hin.2 i hi) fun z hz=>hs z (by unfold IR;exact AT1 _ ((g2 i (by omega)).2 z hz))
  |reg=>unfold leA at hle;obtain⟨_,_,he⟩:=hle;cases he
  |vec j'=>unfold leA at hle;rcases hle with⟨i',_,he⟩ | ⟨_,he⟩<;>cases he
  |vecp=>unfold leA at hle;obtain⟨_,_,he⟩:=hle;cases he
  |elt=>unfold leA at hle;obtain⟨_,_,he⟩:=hle;cases he
  |mref=>unfold leA at hle;obtain⟨_,_,he⟩:=hle;cases he
  |tup l2=>unfold leA at hle;obtain⟨_,he,_⟩:=hle;cases he
  |agr l2=>unfold leA at hle;obtain⟨_,he,_⟩:=hle;cases he
  |yf=>unfold leA at hle;obtain⟨_,_,he⟩:=hle;cases he
 |tup x a hx ha ih=>
  intro b' hle hin hs;cases b' with
  |top=>exact .top _
  |p y'=>unfold leA at hle;obtain⟨x',hx',hl'⟩:=hle;exact .p _ _ (((RepA.tup x a hx ha).viewP hk hv hx' hs).leP hl')
  |tup l2=>unfold leA at hle;obtain⟨l3,he,h1'⟩:=hle;cases he;unfold inA at hin;obtain⟨l1,g1⟩:=Hm h1';exact .tup x l2 (hx.trans l1) fun i hi=>ih i (by omega) (g1 i (by omega)).1 (Hn hin i hi) fun z hz=>hs z (by unfold IR;exact (g1 i (by omega)).2 z hz)
  |reg=>unfold leA at hle;obtain⟨_,_,he⟩:=hle;cases he
  |vec j'=>unfold leA at hle;rcases hle with⟨i',_,he⟩ | ⟨_,he⟩<;>cases he
  |vecp=>unfold leA at hle;obtain⟨_,_,he⟩:=hle;cases he
  |elt=>unfold leA at hle;obtain⟨_,_,he⟩:=hle;cases he
  |mref=>unfold leA at hle;obtain⟨_,_,he⟩:=hle;cases he
  |clo f' x2 y2=>unfold leA at hle;obtain⟨_,_,he,_⟩:=hle;cases he
  |agr l2=>unfold leA at hle;obtain⟨_,he,_⟩:=hle;cases he
  |yf=>unfold leA at hle;obtain⟨_,_,he⟩:=hle;cases he
 |agr x a hx h1 ha ih=>
  intro b' hle hin hs;cases b' with
  |top=>exact .top _
  |p y'=>unfold leA at hle;obtain⟨x',hx',hl'⟩:=hle;exact .p _ _ (((RepA.agr x a hx h1 ha).viewP hk hv hx' hs).leP hl')
  |agr l2=>unfold leA at hle;obtain⟨l3,he,h1'⟩:=hle;cases he;unfold inA at hin;obtain⟨l1,g1⟩:=Hm h1';exact .agr x l2 (hx.trans l1) (fun i hi=>h1 i (by omega)) fun i hi=>ih i (by omega) (g1 i (by omega)).1 (Hn hin i hi) fun z hz=>hs z (by unfold IR;exact (g1 i (by omega)).2 z hz)
  |reg=>unfold leA at hle;obtain⟨_,_,he⟩:=hle;cases he
  |vec j'=>unfold leA at hle;rcases hle with⟨i',_,he⟩ | ⟨_,he⟩<;>cases he
  |vecp=>unfold leA at hle;obtain⟨_,_,he⟩:=hle;cases he
  |elt=>unfold leA at hle;obtain⟨_,_,he⟩:=hle;cases he
  |mref=>unfold leA at hle;obtain⟨_,_,he⟩:=hle;cases he
  |clo f' x2 y2=>unfold leA at hle;obtain⟨_,_,he,_⟩:=hle;cases he
  |tup l2=>unfold leA at hle;obtain⟨_,he,_⟩:=hle;cases he
  |yf=>unfold leA at hle;obtain⟨_,_,he⟩:=hle;cases he
 |yf j l hl h=>
  intro b' hle hin hs;cases b' with
  |top=>exact .top _
  |p y'=>unfold leA at hle;obtain⟨x',hx',hl'⟩:=hle;exact .p _ _ (((RepA.yf j l hl h).viewP hk hv hx' hs).leP hl')
  |yf j'=>unfold leA at hle;obtain⟨i',hi',he⟩:=hle;cases he;exact .yf j' l (hjs j' (by unfold inA at hin;exact hin)) ((hlk _ _ hi').trans h)
  |reg=>unfold leA at hle;obtain⟨_,_,he⟩:=hle;cases he
  |vec j'=>unfold leA at hle;rcases hle with⟨i',_,he⟩ | ⟨_,he⟩<;>cases he
  |vecp=>unfold leA at hle;obtain⟨_,_,he⟩:=hle;cases he
  |elt=>unfold leA at hle;obtain⟨_,_,he⟩:=hle;cases he
  |mref=>unfold leA at hle;obtain⟨_,_,he⟩:=hle;cases he
  |clo f' x2 y2=>unfold leA at hle;obtain⟨_,_,he,_⟩:=hle;cases he
  |tup l2=>unfold leA at hle;obtain⟨_,he,_⟩:=hle;cases he
  |agr l2=>unfold leA at hle;obtain⟨_,he,_⟩:=hle;cases he
 |top v=>
  intro b' hle hin hs;cases b' with
  |top=>exact .top _
  |p y'=>unfold leA at hle;obtain⟨x',hx',hl'⟩:=hle;exact .p _ _ (((RepA.top (live:=live) v).viewP hk hv hx' hs).leP hl')
  |reg=>unfold leA at hle;obtain⟨_,_,he⟩:=hle;cases he
  |vec j'=>unfold leA at hle;rcases hle with⟨i',_,he⟩ | ⟨_,he⟩<;>cases he
  |vecp=>unfold leA at hle;obtain⟨_,_,he⟩:=hle;cases he
  |elt=>unfold leA at hle;obtain⟨_,_,he⟩:=hle;cases he
  |mref=>unfold leA at hle;obtain⟨_,_,he⟩:=hle;cases he
  |clo f' x2 y2=>unfold leA at hle;obtain⟨_,_,he,_⟩:=hle;cases he
  |tup l2=>unfold leA at hle;obtain⟨_,he,_⟩:=hle;cases he
  |agr l2=>unfold leA at hle;obtain⟨_,he,_⟩:=hle;cases he
  |yf=>unfold leA at hle;obtain⟨_,_,he⟩:=hle;cases he
end
def ZA (ids:List (Nat×Nat))(rho:Nat->Value)(j:Nat):Value:=match lk ids j with
 |some i=>rho i
 |none=>.slice none 0 0
theorem AB6 {regs:D1}{ids:List (Nat×Nat)}{o p:Obj}(h:leO regs ids o p){v:Value}{b:Nat}(hb:G5 v p=some b):G5 v o=some b/\∀off,IS p off->IS o off:=by
 cases p with
 |cells cs=>obtain⟨cs',rfl,_⟩:=h;exact⟨hb,fun _ h=>h⟩
 |vec e k n f vw=>
  obtain⟨g,vw',rfl,h1,h2⟩:=h;refine⟨hb,fun off hp=>?_⟩;cases vw'
  ·trivial
  ·rw[h2 rfl]at hp;exact hp
 |map es=>subst h;exact⟨hb,fun _ h=>h⟩
 |arr n f=>obtain⟨g,rfl,_⟩:=h;exact⟨hb,fun _ h=>h⟩
 |ghost cs=>simp[G5]at hb
 |yld r b=>simp[G5]at hb
 |dead=>simp[G5]at hb
theorem Sat.le (h:Sat C st a w rho){ids:List (Nat×Nat)}(hle:Le ids st t):Sat C t a w (ZA ids rho)/\∀b off,Prv C.X (A2 t.regs) (ZA ids rho) b off->Prv C.X (A2 st.regs) rho b off:=by
 obtain⟨⟨hwf,hnd,hpin,hpn,hseen⟩,hE,hR⟩:=hle;have hlk:∀j i,lk ids j=some i->ZA ids rho j=rho i:=fun j i hj=>by simp[ZA,hj]
 have hnil:∀j,lk ids j=none->ZA ids rho j=.slice none 0 0:=fun j hj=>by simp[ZA,hj]
 simp only[wf,AS3,AT4]at hwf;obtain⟨⟨⟨_,_⟩,hwe⟩,hwr⟩:=hwf;have hjs:∀j,(t.regs.map (·.1)).contains j=true->Lv (A2 t.regs) j:=fun j hj=>An0 (by simpa using hj);have hown:∀j p b,A2 t.regs j=some p->G5 (ZA ids rho j) p=some b->∃i o,lk ids j=some i/\A2 st.regs i=some o/\G5 (rho i) o=some b/\leO st.regs ids o p/\∀off,IS p off->IS o off:=by
  intro j p b hj hb;rcases Ec hR hj with⟨i,o,h1,h2,h3⟩ | ⟨h1,e,k,f,vw,rfl⟩
  ·rw[hlk j i h1]at hb;obtain⟨h4,h5⟩:=AB6 h3 hb;exact⟨i,o,h1,h2,h4,h3,h5⟩
  ·rw[hnil j h1]at hb;simp[G5]at hb
 have hpi:∀b off,Prv C.X (A2 t.regs) (ZA ids rho) b off->Prv C.X (A2 st.regs) rho b off:=by
  rintro b off (hX|⟨j,p,hj,hb,hp⟩)
  ·exact .inl hX
  ·obtain⟨i,o,_,h2,h3,_,h5⟩:=hown j p b hj hb;exact .inr ⟨i,o,h2,h3,h5 off hp⟩
 have hk:Keeps w (Prv C.X (A2 st.regs) rho) w (Prv C.X (A2 t.regs) (ZA ids rho)):=fun b o v hp hc=>⟨hc,fun hp'=>hp (hpi b o hp')⟩;have hv:∀i,i∈Al2 st.env t.env++HH ids st.regs t.regs->∀e k n f vw base n' cap,A2 st.regs i=some (.vec e k n f vw)->rho i=.slice base n' cap->n' = n/\∀m,m<=n->RepP w (Prv C.X (A2 t.regs) (ZA ids rho)) (.slice base m cap) (.sl false k m f):=by
  intro i hi e k n f vw base n' cap hri hrho;have hh:=h.hp.holds i _ hri;rw[hrho]at hh;rcases hh with⟨he,rfl⟩ | ⟨b,cap',c,he,h1,h2,h3,h4,h5,h6⟩
  ·cases he;refine⟨rfl,fun m hm=>?_⟩;obtain rfl:m=0:=by omega
   exact .slnil k f
  ·cases he;refine⟨rfl,fun m hm=>?_⟩;refine .sl false b 0 cap k m f (fun i j=>c.getD (i*k+j) undef) (by omega) (fun i hi=>h5 i (by omega)) (fun x y hx hy=>?_) (fun x y hx hy=>((h6 x y (by omega) hy).1).keeps hk) none (fun _=>rfl);have hlt:=K3 (show x<n by omega) hy;have hle' : n*k<=c.size:=by rw[h3];exact AU1 k h2
   rw[AV3];refine⟨H1 h1 (by omega),?_,(h6 x y (by omega) hy).2⟩;rintro (hX|⟨j,p,hj,hb,hp⟩)
   ·exact h.hp.out i _ b _ hri (by simp[G5,hrho]) hX
   ·obtain⟨i',o,h7,h8,h9,h10,h11⟩:=hown j p b hj hb
    have:=h.hp.sep i' i o _ b h8 hri h9 (by simp[G5,hrho])
    subst this;rw[hri]at h8;cases h8;cases p with
    |vec e2 k2 n2 f2 vw2=>
     obtain⟨g,vw',he,h12,h13⟩:=h10;cases he;cases vw2
     ·exact Oe hseen (PJ hj) h7 hi
     ·simp only[IS]at hp;omega
    |cells cs=>obtain⟨cs',he,_⟩:=h10;cases he
    |map es=>cases h10
    |arr n f=>obtain⟨g,he,_⟩:=h10;cases he
    |ghost cs=>obtain⟨cs',he,_⟩:=h10;cases he
    |yld r b=>cases h10
    |dead=>simp[G5]at hb
 have hA:∀{v:Value}{x:AV},RS C st w rho v x->∀{y:AV},leA st.regs ids x y->inA (t.regs.map (·.1)) y=true->(∀i∈IR x y,i∈Al2 st.env t.env++HH ids st.regs t.regs)->RepA w (Prv C.X (A2 t.regs) (ZA ids rho)) (Lv (A2 t.regs)) (ZA ids rho) v y:=
  fun hx y hle hin hs=>hx.le (live':=Lv (A2 t.regs)) hk hlk hnil hjs hv hle hin hs
 have hseenR:∀{r:D1}{j i:Nat}{cs cs' : List AV},(∀(q:Nat) (p:Obj),(q,p)∈r->(q,p)∈t.regs)->lk ids j=some i->((j,Obj.cells cs)∈r/\A2 st.regs i=some (.cells cs') \/ (j,Obj.ghost cs)∈r/\A2 st.regs i=some (.ghost cs'))->∀x∈KU cs' cs,x∈HH ids st.regs r:=by
  intro r
  induction r with
  |nil=>intro j i cs cs' _ _ h;simp at h
  |cons p r ih=>
   intro j i cs cs' hsub hi hm x hx;obtain⟨q,p⟩:=p;have hrec:((j,Obj.cells cs)∈r/\A2 st.regs i=some (.cells cs') \/ (j,Obj.ghost cs)∈r/\A2 st.regs i=some (.ghost cs'))->x∈HH ids st.regs r:=fun hm'=>ih (fun q p hqp=>hsub q p (AU9 _ hqp)) hi hm' x hx;rcases hm with⟨hm,hr⟩ | ⟨hm,hr⟩
   ·rcases AW0.1 hm with he|hm
    ·cases he;simp only[HH,hi,hr];exact AU2 _ hx
    ·have:=hrec (.inl ⟨hm,hr⟩)
     cases p<;>simp only[HH]<;>first|exact AT1 _ this|exact this
   ·rcases AW0.1 hm with he|hm
    ·cases he;simp only[HH,hi,hr];exact AU2 _ hx
    ·have:=hrec (.inr ⟨hm,hr⟩)
     cases p<;>simp only[HH]<;>first|exact AT1 _ this|exact this
 refine⟨⟨⟨⟨?_,?_,?_,fun b off hX=>h.hp.bound b off hX⟩,h.ext,h.size,h.same,h.keep.trans hk,?_,?_⟩,?_,?_,h.marks⟩,hpi⟩
 ·intro j p hj;rcases Ec hR hj with⟨i,o,h1,h2,h3⟩ | ⟨h1,e,k,f,vw,rfl⟩
  ·rw[hlk j i h1];have hh:=h.hp.holds i o h2;have hmem:=PJ hj;have hin:=hwr _ hmem;cases p with
   |cells cs=>obtain⟨cs',rfl,hl⟩:=h3;obtain⟨l1,g1⟩:=Hm hl;obtain⟨b,c,T,hb,h4,h5,h6⟩:=hh;refine⟨b,c,T,hb,h4,h5.trans l1,fun q hq=>⟨?_,(h6 q (by omega)).2⟩⟩;refine hA (h6 q (by omega)).1 (g1 q (by omega)).1 (Hn hin q hq) fun z hz=>AT1 _ ?_;exact hseenR (fun _ _ h=>h) h1 (.inl ⟨hmem,h2⟩) z ((g1 q (by omega)).2 z hz)
   |vec e k n f vw=>
    obtain⟨g,vw',rfl,h4,h5⟩:=h3;rcases hh with hn|⟨b,cap,c,hb,h6,h7,h8,h9,h10,h11⟩
    ·exact .inl hn
    ·exact .inr ⟨b,cap,c,hb,h6,h7,h8,h9,fun q hq=>by rw[<- h4 q hq];exact h10 q hq,fun q r hq hr=>by rw[<- h4 q hq];exact⟨(h11 q r hq hr).1.keeps hk,(h11 q r hq hr).2⟩⟩
   |map es=>have h3:o=.map es:=h3;subst h3;obtain⟨b,ents,clock,hb,h4,h5,h6⟩:=hh;exact⟨b,ents,clock,hb,h4,h5,fun q hq=>⟨(h6 q hq).1.keeps hk,(h6 q hq).2.keeps hk⟩⟩
   |arr n f=>obtain⟨g,rfl,h7⟩:=h3;obtain⟨b,c,T,hb,h4,h5,h6⟩:=hh;exact⟨b,c,T,hb,h4,h5,fun q hq=>by rw[<- h7 q hq];exact⟨(h6 q hq).1.keeps hk,(h6 q hq).2⟩⟩
   |ghost cs=>obtain⟨cs',rfl,hl⟩:=h3;obtain⟨l1,g1⟩:=Hm hl;obtain⟨vs,hb,h5,h6⟩:=hh;refine⟨vs,hb,h5.trans l1,fun q hq=>?_⟩;refine hA (h6 q (by omega)) (g1 q (by omega)).1 (Hn hin q hq) fun z hz=>AT1 _ ?_;exact hseenR (fun _ _ h=>h) h1 (.inr ⟨hmem,h2⟩) z ((g1 q (by omega)).2 z hz)
   |yld r b=>have h3:o=.yld r b:=h3;subst h3;exact hh
   |dead=>trivial
  ·rw[hnil j h1];exact .inl ⟨rfl,rfl⟩
 ·intro i j oi oj b hi hj hbi hbj;obtain⟨i',o1,h1,h2,h3,_⟩:=hown i oi b hi hbi;obtain⟨j',o2,h4,h5,h6,_⟩:=hown j oj b hj hbj
  have:=h.hp.sep i' j' o1 o2 b h2 h5 h3 h6
  subst this;exact AL7 hnd h1 h4
 ·intro j p b off hj hb;obtain⟨i,o,_,h2,h3,_⟩:=hown j p b hj hb;exact h.hp.out i o b off h2 h3
 ·rintro b ⟨j,p,hj,hb⟩;obtain⟨i,o,_,h2,h3,_⟩:=hown j p b hj hb;exact h.own b ⟨i,o,h2,h3⟩
 ·intro j r b hj;rcases Ec hR hj with⟨i,o,h1,h2,h3⟩ | ⟨h1,e,k,f,vw,he⟩
  ·have h3:o=.yld r b:=h3;subst h3;rw[hlk j i h1];exact h.yld i r b h2
  ·cases he
 ·intro x;rcases Ry hE x with⟨b,h1,h2,h3,h4⟩ | h1
  ·rw[h2];exact hA (h.env x) h3 (hwe _ h1) fun z hz=>AU2 _ (h4 z hz)
  ·rw[h1];exact .top _
 ·intro j hj hl;obtain⟨p,hp⟩:=AU0.1 hl;rcases Ec hR hp with⟨i,o,h1,h2,h3⟩ | ⟨h1,_⟩
  ·have:=AL8 hpin h1 hj
   subst this;rw[hlk _ _ h1];exact h.pin _ hj (by simp[Lv,h2])
  ·exfalso
   have:∀{r:D1},NR ids r=true->(j,p)∈r->False:=by
    intro r
    induction r with
    |nil=>intro _ hm;simp at hm
    |cons q r ih=>
     intro hq hm;obtain⟨x,y⟩:=q;simp only[NR,AS3,AT6,decide_eq_true_eq]at hq;rcases AW0.1 hm with he|hm
     ·cases he;rcases hq.1 with h5|h5
      ·rw[h1]at h5;cases h5
      ·omega
     ·exact ih hq.2 hm
   exact this hpn (PJ hp)
theorem semUp.le {ids:List (Nat×Nat)}{K:St->Prop}(hle:Le ids st t)(hK:K t):semUp st K:=fun C a w rho hs=>⟨t,_,hK,(hs.le hle).2,(hs.le hle).1⟩
end
end Go.AM
set_option linter.unusedVariables false
namespace Go.AM
theorem An1 (j n j' : Nat)(env:Env)(t:Nat):get (Av8 j n j' env) t=Al3 j n j' (get env t):=by
 induction env with
 |nil=>rfl
 |cons p r ih=>
  obtain⟨i,b⟩:=p;simp only[Av8,get];split
  ·rfl
  ·exact ih
theorem Aa8 (j n j' : Nat)(regs:D1)(t:Nat):A2 (Wb j n j' regs) t=(A2 regs t).map (AJ4 j n j'):=by
 induction regs with
 |nil=>rfl
 |cons p r ih=>
  obtain⟨i,b⟩:=p;simp only[Wb,A2];split
  ·rfl
  ·exact ih
theorem PK (j n j' : Nat):∀l:List AV,(Av9 j n j' l).length=l.length
 |[]=>rfl
 |_::r=>congrArg (· + 1) (PK j n j' r)
theorem Wl (j n j' : Nat):∀(l:List AV) (i:Nat),(Av9 j n j' l).getD i .top=Al3 j n j' (l.getD i .top)
 |[],i=>by simp[Av9,Al3]
 |a::r,0=>rfl
 |a::r,i+1=>by simpa[Av9]using Wl j n j' r i
theorem Wm {w:World}{Pi Pi' : Nat->Nat->Prop}{live live' : Nat->Prop}{rho rho' : Nat->Value}{j n j' : Nat}(hk:Keeps w Pi w Pi')(hl:∀i,live i->live' i/\rho' i=rho i)(hj:live' j')
 (hh:∀base N cap,rho j=.slice base N cap->rho' j' = .slice base n cap) {v:Value}{x:AV}(h:RepA w Pi live rho v x):RepA w Pi' live' rho' v (Al3 j n j' x):=by
 have h2:=h.keeps hk hl;cases h with
 |vecp i m base N cap hl' hr hm=>
  simp only[Al3];split
  ·rename_i e;obtain⟨rfl,rfl⟩:=e;exact .vec j' base _ cap hj (hh _ _ _ hr)
  ·exact h2
 |_=>exact h2
theorem semUp.trunc {st:St}{j j' n N k:Nat}{e:TypeId}{f:Nat->List PV}{K:St->Prop}(hj:A2 st.regs j=some (.vec e k N f false))(hn:n<=N)(hf:A2 st.regs j' = none)(h1:1000<=j')
 (hK:K ⟨Av8 j n j' st.env,ins j' (.vec e k n f false) (ins j .dead (Wb j n j' st.regs))⟩):semUp st K:=fun C a w rho hs=>by
 have hne:j≠j':=by rintro rfl;rw[hj]at hf;cases hf
 obtain⟨rho',hr1,hr2⟩:∃rho' : Nat->Value,(∀i,i≠j' -> rho' i=rho i)/\∀base M cap,rho j=.slice base M cap->rho' j' = .slice base n cap:=
  ⟨fun i=>if i=j' then (match rho j with | .slice b _ c=>.slice b n c|v=>v)else rho i,fun i hi=>if_neg hi,fun base M cap h=>by simp only[if_true,h]⟩
 have hget:∀i,A2 (ins j' (.vec e k n f false) (ins j .dead (Wb j n j' st.regs))) i=if j' = i then some (.vec e k n f false)else if j=i then some .dead else (A2 st.regs i).map (AJ4 j n j'):=fun i=>by rw[A9,A9,Aa8]
 have hold:=hs.hp.holds j _ hj;have hblk:G5 (rho' j') (.vec e k n f false)=G5 (rho j) (.vec e k N f false):=by rcases hold with⟨h,_⟩ | ⟨b,cap,c,h,_⟩<;>rw[hr2 _ _ _ h,h]<;>rfl
 have hpriv:∀i oi b off,(i=j \/ i=j' \/ ∃cs,A2 st.regs i=some (.cells cs))->A2 st.regs i=some oi->G5 (rho i) oi=some b->Prv C.X (A2 st.regs) rho b off:=by
  rintro i oi b off (rfl|rfl|⟨cs,hc⟩) ho hb
  ·rw[hj]at ho;cases ho;exact .inr ⟨_,_,hj,hb,trivial⟩
  ·rw[hf]at ho;cases ho
  ·rw[hc]at ho;cases ho;exact .inr ⟨_,_,hc,hb,trivial⟩
 have hwas:∀i o b,A2 (ins j' (.vec e k n f false) (ins j .dead (Wb j n j' st.regs))) i=some o->G5 (rho' i) o=some b ->
  ∃i0 o0,A2 st.regs i0=some o0/\G5 (rho i0) o0=some b/\(i=j' /\ i0=j \/ i≠j' /\ i0=i)/\(∀off,IS o off->IS o0 off):=by
  intro i o b ho hb;rw[hget]at ho;split at ho
  ·rename_i e1;subst e1;cases ho;rw[hblk]at hb;exact⟨j,_,hj,hb,.inl ⟨rfl,rfl⟩,fun _ h=>h⟩
  ·rename_i e1;split at ho
   ·cases ho;cases hb
   ·obtain⟨o0,ho0,rfl⟩:=AT9.1 ho;rw[hr1 i (fun h=>e1 h.symm)]at hb;refine⟨i,o0,ho0,?_,.inr ⟨fun h=>e1 h.symm,rfl⟩,?_⟩
    ·cases o0<;>exact hb
    ·cases o0<;>exact fun _ h=>h
 have hlive:∀i,Lv (A2 st.regs) i->Lv (A2 (ins j' (.vec e k n f false) (ins j .dead (Wb j n j' st.regs)))) i/\rho' i=rho i:=by
  intro i hi;have hij:i≠j':=by rintro rfl;unfold Lv at hi;rw[hf]at hi;cases hi
  refine⟨?_,hr1 i hij⟩;unfold Lv at hi⊢;rw[hget,if_neg (fun h=>hij h.symm)];split
  ·rfl
  ·simpa using hi
 have hlj:Lv (A2 (ins j' (.vec e k n f false) (ins j .dead (Wb j n j' st.regs)))) j':=by unfold Lv;rw[hget,if_pos rfl];rfl
 obtain⟨h2,hk⟩:=hs.step (D:=fun i=>i=j \/ i=j' \/ ∃cs,A2 st.regs i=some (.cells cs)) (R':=ins j' (.vec e k n f false) (ins j .dead (Wb j n j' st.regs))) (rho':=rho') (w':=w)
  (fun i hi=>by
   rw[hget,if_neg (fun h=>hi (.inr (.inl h.symm))),if_neg (fun h=>hi (.inl h.symm))];cases ho:A2 st.regs i with
   |none=>rfl
   |some o=>cases o<;>first|rfl|exact absurd (.inr (.inr ⟨_,ho⟩)) hi)
  hlive (AS4 _)
  (fun i hi hl=>by
   unfold Lv at hi hl;rw[hget]at hl;split at hl
   ·rename_i e1;omega
   ·split at hl
    ·rename_i e1 e2;subst e2;rw[hj]at hi;exact absurd rfl hi
    ·exact absurd (by simpa using hl) hi)
  (fun i r b hi=>by
   rw[hget];split
   ·simp
   ·rename_i e1;split
    ·simp
    ·rename_i e2;rcases hi with rfl|rfl|⟨cs,hc⟩
     ·exact absurd rfl e2
     ·exact absurd rfl e1
     ·rw[hc];simp[AJ4])
  (fun _ _ _=>rfl)
  (fun i o b hi ho hb=>by
   obtain⟨i0,o0,g1,g2,g3,_⟩:=hwas i o b ho hb;refine .inl ⟨i0,o0,?_,g1,g2⟩;rcases g3 with⟨rfl,rfl⟩ | ⟨g3,rfl⟩
   ·exact .inl rfl
   ·exact hi)
  (fun i i' oi oj b hi hi' ho ho' hb hb'=>by
   obtain⟨i0,o0,g1,g2,g3,_⟩:=hwas i oi b ho hb;obtain⟨i1,o1,g1',g2',g3',_⟩:=hwas i' oj b ho' hb';have hs':=hs.hp.sep i0 i1 o0 o1 b g1 g1' g2 g2';have hd:∀i o,A2 (ins j' (.vec e k n f false) (ins j .dead (Wb j n j' st.regs))) i=some o->G5 (rho' i) o=some b->i≠j:=by rintro i o ho hb rfl;rw[hget,if_neg (fun h=>hne h.symm),if_pos rfl]at ho;cases ho;cases hb
   have d1:=hd i oi ho hb;have d2:=hd i' oj ho' hb';rcases g3 with⟨rfl,rfl⟩ | ⟨g3,rfl⟩<;>rcases g3' with⟨rfl,rfl⟩ | ⟨g3',rfl⟩
   ·rfl
   ·exact absurd hs'.symm d2
   ·exact absurd hs' d1
   ·exact hs')
  (fun i oi b off v hi ho hb hp hc=>absurd (hpriv i oi b off hi ho hb) hp)
  (fun hk i o hi ho=>by
   rw[hget]at ho;split at ho
   ·rename_i e1;subst e1;cases ho;have hold:=hold.keeps (w':=w) hk (fun i hi=>hlive i hi) (fun _ _=>rfl);rcases hold with⟨h,h0⟩ | ⟨b,cap,c,h,g1,g2,g3,g4,g5,g6⟩
    ·refine .inl ⟨?_,by omega⟩
     have:=hr2 _ _ _ h
     rw[this]
     have:n=0:=by omega
     rw[this]
    ·exact .inr ⟨b,cap,c,hr2 _ _ _ h,g1,by omega,g3,g4,fun i hi=>g5 i (by omega),fun i l hi hl=>g6 i l (by omega) hl⟩
   ·rename_i e1;split at ho
    ·cases ho;trivial
    ·rename_i e2;obtain⟨o0,ho0,rfl⟩:=AT9.1 ho;rw[hr1 i (fun h=>e1 h.symm)];have hh:=hs.hp.holds i _ ho0;cases o0 with
     |cells cs=>obtain⟨b,c,T,g0,g1,g2,g3⟩:=hh;refine⟨b,c,T,g0,g1,by rw[PK];exact g2,fun l hl=>?_⟩;rw[PK]at hl;rw[Wl];exact⟨Wm hk hlive hlj hr2 (g3 l hl).1,(g3 l hl).2⟩
     |_=>exact hh.keeps hk (fun i hi=>hlive i hi) (fun _ _=>rfl))
 refine⟨_,rho',hK,?_,⟨h2.toSatE,fun t=>?_,h2.pin,h2.marks⟩⟩
 ·rintro b off (hX|⟨i,o,hi,hb,hp⟩)
  ·exact .inl hX
  ·obtain⟨i0,o0,g1,g2,_,g4⟩:=hwas i o b hi hb;exact .inr ⟨i0,o0,g1,g2,g4 off hp⟩
 ·show RepA w _ _ rho' (a.tmps.getD t undef) (get (Av8 j n j' st.env) t);rw[An1];exact Wm hk hlive hlj hr2 (hs.env t)
end Go.AM
set_option linter.unusedVariables false
namespace Go.AM
def FW (ro:Option Nat):Fence:={ Fence.wide with round:=ro }
theorem Og {ro:Option Nat}{m n:Nat}{P:Program}{f:FuncId}{vs:Array Value}{w:World}{R:Ending->World->Prop}(h:CallsIn Fence.wide m P f vs w R):CallsIn (FW ro) n P f vs w R:=
 ⟨trivial,fun cs _=>h.2 cs (room_wide _)⟩
theorem Aa9 {ro:Option Nat}{m n:Nat}{P:Program}{f:String}{vs:Array Value}{w:World}{R:Value->World->Prop}(h:RowsIn Fence.wide m P f vs w R):RowsIn (FW ro) n P f vs w R:=
 fun c cs _=>h c cs (room_wide _)
theorem XH {ro:Option Nat}{m n:Nat}{P:Program}{l:Nat}{f:FuncId}{tmps:Array Value}{as body:Code}{w:World}{R:Ending->World->Prop}(h:RoundIn Fence.wide m P l f tmps as body w R):RoundIn (FW ro) n P l f tmps as body w R:=
 ⟨trivial,fun c cs _=>h.2 c cs (room_wide _)⟩
section
variable {P:Program}{C:Ctx}{st:St}{a:Act}{w:World}{rho:Nat->Value}{𝒢 : Prot P}{n:Nat}
def NextOk (𝒢 : Prot P)(n:Nat)(k:St->Prop)(a:Act)(w:World):Prop:=∃C st rho,𝒢.G C/\Sat C st a w rho/\a.tmps.size=n/\k st
def PanicOk (𝒢 : Prot P)(n:Nat)(Q:J3)(chain:List PanicEntry)(a:Act)(w:World):Prop:=∃C st rho v x,chain=[{ v,recovered:=false }] /\ 𝒢.G C/\Sat C st a w rho/\a.tmps.size=n/\RepP w (PiS C st rho) v x/\Q (.panic x) st
def WP (𝒢 : Prot P)(n:Nat)(Q:J3):Exit->Act->World->Prop
 |.normal,a,w=>NextOk 𝒢 n (Q .normal) a w
 |.exit id,a,w=>NextOk 𝒢 n (Q (.exit id)) a w
 |.goto l,a,w=>NextOk 𝒢 n (Q (.goto l)) a w
 |.ret,a,w=>NextOk 𝒢 n (Q .ret) a w
 |.panic chain,a,w=>PanicOk 𝒢 n Q chain a w
 |.outgrown,_,_=>False
theorem Ja:∀(xs:List Operand) (st:St) (l:List AV) (R' : D1),Sat C st a w rho->MU st.regs (xs.map (aev st.env))=some (l,R') ->
 Sat C { st with regs:=R' } a w rho/\Kp C st.regs R' w w rho rho/\l.length=xs.length/\∀i x,xs[i]? = some x->RS C { st with regs:=R' } w rho (a.eval x) (l.getD i .top)
 |[],st,l,R',h,he=>by simp only[Bh7,MU,AS0,AU5]at he;obtain⟨rfl,rfl⟩:=he;exact⟨h,Kp.refl _ _ _ _,rfl,fun i x hx=>by simp at hx⟩
 |x::xs,st,l,R',h,he=>by
  simp only[AU8,MU]at he;split at he
  ·rename_i y R1 hv;have step:Sat C { st with regs:=R1 } a w rho/\Kp C st.regs R1 w w rho rho/\RS C { st with regs:=R1 } w rho (a.eval x) y:=by
    have gen:(match HE st.regs (aev st.env x)with|some (x,regs)=>some (AV.p x,regs)|none=>none)=some (y,R1)->Sat C { st with regs:=R1 } a w rho/\Kp C st.regs R1 w w rho rho/\RS C { st with regs:=R1 } w rho (a.eval x) y:=by
     intro hv;split at hv
     ·rename_i z R2 hz;simp only[AS0,AU5]at hv;obtain⟨rfl,rfl⟩:=hv;obtain⟨h1,h2,h3⟩:=DX h (h.aev x) hz;exact⟨h1,h3,.p _ _ h2⟩
     ·cases hv
    split at hv
    ·exact gen hv
    ·exact gen hv
    ·simp only[AS0,AU5]at hv;obtain⟨rfl,rfl⟩:=hv;exact⟨h,Kp.refl _ _ _ _,h.aev x⟩
   obtain⟨h1,h2,h3⟩:=step;split at he
   ·rename_i l' R2 hvs;cases he;obtain⟨h4,h5,h6,h7⟩:=Ja xs { st with regs:=R1 } l' R' h1 hvs;refine⟨h4,h2.trans h5,by simp[h6],fun i z hz=>?_⟩;cases i with
    |zero=>simp only[AX7,AS0]at hz;subst hz;exact h5.av h3
    |succ i=>exact h7 i z (by simpa using hz)
   ·cases he
  ·cases he
theorem Ug {xs:List Operand}{st:St}{l:List AV}{R' : D1}(h:Sat C st a w rho)(he:AK4 st.regs (xs.map (aev st.env)) l R') :Sat C { st with regs:=R' } a w rho/\Kp C st.regs R' w w rho rho/\l.length=xs.length/\∀i x,xs[i]? = some x->RS C { st with regs:=R' } w rho (a.eval x) (l.getD i .top):=by
 rcases he with he|⟨rfl,rfl⟩
 ·exact Ja xs st l R' h he
 ·refine⟨h,Kp.refl _ _ _ _,by simp,fun i x hx=>?_⟩
  have:(xs.map (aev st.env)).getD i .top=aev st.env x:=by simp[AR7,hx]
  rw[this];exact h.aev x
theorem Lh (hG : 𝒢.G C)(h:Sat C st a w rho)(hsz:a.tmps.size=n){d:Nat}{ids:List Nat}{f:FuncId}{as:List AV}{K:KQ->St->Prop}(hc:TU (GD P) d ids f as st K)
 {vs:Array Value}(hvs:vs.size=as.length) (hv:∀i,i<as.length->RS C st w rho (vs.getD i undef) (as.getD i .top)) :
 CallF P f vs w fun e w'=>∃st' rho' r,Sat C st' a w' rho' /\ K r st' /\ AB5 w' (PiS C st' rho') (Lv (A2 st'.regs)) rho' e r:=by
 obtain⟨args,objs,hd,hr,hob,hny,hF⟩:=hc;have hs:=Jy h hd hob hny trivial hr hvs hv;refine (hF (Prot.triv P (C.callee st.regs w rho ids) (fun _ _ h=>h) ((𝒢.tab C hG).keeps h.keep)) _ w vs _ rfl hs (by rw[hvs];exact (BM hr).1)).mono ?_;rintro e w' ⟨C',r,objs',ks,rho',hC',⟨hf,hK⟩,hE,hend,hks⟩;obtain rfl:C' = C.callee st.regs w rho ids:=hC';obtain⟨g1,g2,g3,g4⟩:=XG h hd hob hE hks hf;refine⟨_,_,_,g1,hK,?_⟩;cases r with
 |ret x=>obtain⟨v,he,hv⟩:=hend;exact⟨v,he,hv.un g3 g4⟩
 |panic x=>obtain⟨v,he,hv⟩:=hend;exact⟨v,he,hv.keeps g3⟩
theorem Rz {ro:Option Nat}{o:Oper}(hd:∀t,o.dst=some t->t<n){next:Act->World->Prop}{Q' : Exit->Act->World->Prop}{k:St->Prop}{Q:J3}
 (hk:∀a w,NextOk 𝒢 n k a w->next a w) (hq:∀chain a w,PanicOk 𝒢 n Q chain a w->Q' (.panic chain) a w) (hG : 𝒢.G C) (hsz:a.tmps.size=n) {f:FuncId}{vs:Array Value}
 (hrun:(o.semAt ro a.eval).run P w=(callFunc f vs).run P w)
 (h:CallF P f vs w fun e w'=>∃st' rho' r,Sat C st' a w' rho' /\ GF o.dst k Q r st' /\ AB5 w' (PiS C st' rho') (Lv (A2 st'.regs)) rho' e r) :
 o.uponIn (FW ro) 0 P a next Q' ((o.semAt ro a.eval).run P w):=by
 obtain⟨nx,w1,h1,h2⟩:=h;rw[hrun,h1];have fin:∀v w',(∃st' rho' r,Sat C st' a w' rho' /\ GF o.dst k Q r st' /\ AB5 w' (PiS C st' rho') (Lv (A2 st'.regs)) rho' (.returned v) r)->next (a.put o.dst v) w':=by
  rintro v w' ⟨st',rho',r,g1,g2,g3⟩;cases r with
  |ret x=>obtain⟨v',he,hv'⟩:=g3;cases he;refine hk _ _ ⟨C,_,rho',hG,g1.put hv' (fun t ht=>by rw[hsz];exact hd t ht),?_,g2⟩;rw[<- hsz];cases o.dst<;>simp[Act.put]
  |panic x=>obtain⟨v',he,_⟩:=g3;cases he
 cases nx with
 |enter f' as=>
  rw[Oper.uponIn_enter];refine⟨fun h=>by simp[FW,Fence.wide]at h,(Og h2).mono ?_⟩;intro e w' he;cases e with
  |returned v=>exact fin v w' he
  |panicked chain=>
   obtain⟨st',rho',r,g1,g2,g3⟩:=he;cases r with
   |ret x=>obtain⟨v',he,_⟩:=g3;cases he
   |panic x=>obtain⟨v',he,hv'⟩:=g3;cases he;exact hq _ _ _ ⟨C,st',rho',v',x,rfl,hG,g1,hsz,hv',g2⟩
  |outgrown=>obtain⟨st',rho',r,g1,g2,g3⟩:=he;cases r<;>(obtain⟨v',he,_⟩:=g3;cases he)
 |value v=>rw[Oper.uponIn_value];exact fin v w1 h2
 |row row as=>rw[Oper.uponIn_row];exact⟨fun h=>by simp[FW,Fence.wide]at h,(Aa9 h2).mono fun v w'=>fin v w'⟩
 |_=>exact h2.elim
def RepV (w:World)(Pi:Nat->Nat->Prop)(live:Nat->Prop)(rho:Nat->Value)(vs:Array Value)(l:List AV):Prop:=
 vs.size=l.length/\∀i,i<l.length->RepA w Pi live rho (vs.getD i undef) (l.getD i .top)
theorem RepV.append {Pi:Nat->Nat->Prop}{live:Nat->Prop}{vs us:Array Value}{l m:List AV}(h:RepV w Pi live rho vs l)(h' : RepV w Pi live rho us m):RepV w Pi live rho (vs++us) (l++m):=by
 refine⟨by simp[h.1,h'.1],fun i hi=>?_⟩;simp only[AW5]at hi;by_cases hl:i<l.length
 ·have:=h.2 i hl
  have hv:i<vs.size:=by rw[h.1];exact hl
  simpa[AR9,AZ1,hv,AX8 hl]using this
 ·have:=h'.2 (i-l.length) (by omega)
  have hv:¬i<vs.size:=by rw[h.1];exact hl
  simpa[AR9,AZ1,hv,hl,Bc6 (show l.length<=i by omega),h.1]using this
theorem RepV.ofP {Pi:Nat->Nat->Prop}{live:Nat->Prop}{vs:Array Value}{l:List PV}(hs:vs.size=l.length)(h:∀i,i<l.length->RepP w Pi (vs.getD i undef) (l.getD i default)):RepV w Pi live rho vs (l.map .p):=by
 refine⟨by simpa using hs,fun i hi=>?_⟩;have hi' : i<l.length:=by simpa using hi
 have:=h i hi'
 simp only[AR7,AS5,AS2 hi',AT0,AS8]at this⊢;exact .p _ _ this
theorem XJ (h:Sat C st a w rho){f:Operand}{f' : FuncId}{as as' : List AV}(hw:TV st.env f as=some (f',as')){R' : D1}(hkp:Kp C st.regs R' w w rho rho){vals:Array Value}(hv:RepV w (Prv C.X (A2 R') rho) (Lv (A2 R')) rho vals as) :∃x y,a.eval f=.func (.func f') x y/\RepV w (Prv C.X (A2 R') rho) (Lv (A2 R')) rho (x++vals++y) as':=by
 unfold TV at hw;have hf:=hkp.av (h.aev f);split at hw
 ·rename_i g first caps hg
  cases hw;rw[hg]at hf;generalize a.eval f=v at hf;cases hf with
  |clo _ x y _ _ hx hy ha hb=>exact⟨x,y,rfl,RepV.append (RepV.append ⟨hx,ha⟩ hv) ⟨hy,hb⟩⟩
 ·rename_i g x y hg;split at hw
  ·rename_i hx hy;cases hw;rw[hg]at hf;have e1:x = #[]:=by simpa using hx
   have e2:y = #[]:=by simpa using hy
   subst e1;subst e2;exact⟨#[],#[],hf.toP.toV,by simpa using hv⟩
  ·cases hw
 ·rename_i g first caps hg
  cases hw;rw[hg]at hf;have hf:=hf.toP;generalize a.eval f=v at hf;cases hf with
  |fn _ x y _ _ hx hy ha hb=>exact⟨x,y,rfl,RepV.append (RepV.append (RepV.ofP hx ha) hv) (RepV.ofP hy hb)⟩
 ·cases hw
theorem Uh (h:Sat C st a w rho){f:Operand}{f' : FuncId}{first caps:List AV}(hw:DC st.env f=some (f',first,caps)) :∃x y,a.eval f=.func (.func f') x y/\RepV w (PiS C st rho) (Lv (A2 st.regs)) rho x first/\RepV w (PiS C st rho) (Lv (A2 st.regs)) rho y caps:=by
 unfold DC at hw;have hf:=h.aev f;split at hw
 ·rename_i g first caps hg
  cases hw;rw[hg]at hf;generalize a.eval f=v at hf;cases hf with
  |clo _ x y _ _ hx hy ha hb=>exact⟨x,y,rfl,⟨hx,ha⟩,⟨hy,hb⟩⟩
 ·rename_i g x y hg;split at hw
  ·rename_i hx hy;cases hw;rw[hg]at hf;have e1:x = #[]:=by simpa using hx
   have e2:y = #[]:=by simpa using hy
   subst e1;subst e2;exact⟨#[],#[],hf.toP.toV,⟨rfl,fun i hi=>absurd hi (by simp)⟩,⟨rfl,fun i hi=>absurd hi (by simp)⟩⟩
  ·cases hw
 ·rename_i g first caps hg
  cases hw;rw[hg]at hf;have hf:=hf.toP;generalize a.eval f=v at hf;cases hf with
  |fn _ x y _ _ hx hy ha hb=>exact⟨x,y,rfl,RepV.ofP hx ha,RepV.ofP hy hb⟩
 ·cases hw
theorem Li {args:Array Operand}{i:Nat}(hi:i<args.toList.length):(args.map a.eval).getD i undef=a.eval (args.toList[i]):=by
 have:i<args.size:=by simpa using hi
 simp[AR9,this]
theorem Wn {Pi:Nat->Nat->Prop}:∀{xs ys:List PV},Az7 xs ys->xs.length=ys.length/\∀i,i<xs.length->∀v,RepP w Pi v (xs.getD i default)->RepP w Pi v (ys.getD i default)
 |[],[],_=>⟨rfl,fun i hi=>absurd hi (by simp)⟩
 |[],y::ys,h=>by simp[Az7]at h
 |x::xs,[],h=>by simp[Az7]at h
 |x::xs,y::ys,h=>by
  obtain⟨h1,h2⟩:=h;obtain⟨h3,h4⟩:=Wn (Pi:=Pi) h2;refine⟨by simp[h3],fun i hi v hv=>?_⟩;cases i with
  |zero=>
   have hv:RepP w Pi v x:=by simpa using hv
   have:RepP w Pi v y:=by
    rcases h1 with rfl|⟨nn,k,n,f,g,rfl,rfl,he⟩ | ⟨k,f,rfl,rfl⟩
    ·exact hv
    ·exact hv.leP (.inr (.inl ⟨nn,k,n,f,g,rfl,rfl,he⟩))
    ·exact hv.leP (.inr (.inr (.inl ⟨k,f,rfl,rfl⟩)))
   simpa using this
  |succ i=>simpa using h4 i (by simpa using hi) v (by simpa using hv)
theorem Sat.rel (h:Sat C st a w rho):Rel C w (TQ st.regs rho a.defers) (PvR st.regs rho):=by
 refine⟨h.ext,h.size,h.same,h.keep,?_,?_,?_,fun b off hX=>h.hp.bound b off hX,fun b off ⟨j,o,hj,hb,_⟩=>.inl ⟨j,o,hj,hb⟩⟩
 ·rintro b (hb|hb)
  ·exact h.own b hb
  ·obtain⟨r,h1,h2,_⟩:=h.marks.2 _ hb;cases h1;exact h2
 ·rintro b off (⟨j,o,hj,hb⟩ | hb)
  ·exact h.hp.out j o b off hj hb
  ·obtain⟨r,h1,_,_,h2⟩:=h.marks.2 _ hb;cases h1;exact h2 off
 ·rintro b (hb|hb)
  ·exact h.hp.lt hb
  ·obtain⟨r,h1,_,h2,_⟩:=h.marks.2 _ hb;cases h1;exact (AS7.1 h2).1
theorem Sat.yielded (h:Sat C st a w rho){C' : Ctx}{w' : World}{j:Nat}{r0 rest:List (List PV)}{l0 live:Bool}(hj:A2 st.regs j=some (.yld r0 l0))(hY:C'.Y rest live)(hyv:C'.yv=C.yv)(hrho:C'.rho0=C.rho0)(hw:C'.w0=w')(hE:C'.E0=TQ st.regs rho a.defers)
 (hPi:C'.Pi0=fun b o=>C'.X b o \/ PvR st.regs rho b o) (hR:Rel C' w' (TQ st.regs rho a.defers) (PvR st.regs rho)) (hsame:∀b,TQ st.regs rho a.defers b->w'.heap[b]? = w.heap[b]?)
 (hk:Keeps w (fun b o=>C.X b o \/ PvR st.regs rho b o) w' (fun b o=>C'.X b o \/ PvR st.regs rho b o)) (honly:∀i r b,A2 st.regs i=some (.yld r b)->i=j) :
 Sat C' { st with regs:=ins j (.yld rest live) st.regs } a w' rho:=by
 have hlive:∀i,Lv (A2 st.regs) i->Lv (A2 (ins j (.yld rest live) st.regs)) i/\rho i=rho i:=by
  intro i hi;refine⟨?_,rfl⟩;simp only[Lv,A9];split
  ·rfl
  ·exact hi
 have hpv:∀b off,PvR (ins j (.yld rest live) st.regs) rho b off↔PvR st.regs rho b off:=by
  intro b off;constructor
  ·rintro⟨i,o,hi,hb,hp⟩;rw[A9]at hi;split at hi
   ·cases hi;simp[G5]at hb
   ·exact⟨i,o,hi,hb,hp⟩
  ·rintro⟨i,o,hi,hb,hp⟩;refine⟨i,o,?_,hb,hp⟩;rw[A9,if_neg]
   ·exact hi
   ·rintro rfl;rw[hj]at hi;cases hi;simp[G5]at hb
 have hown:∀b,Own (A2 (ins j (.yld rest live) st.regs)) rho b↔Own (A2 st.regs) rho b:=by
  intro b;constructor
  ·rintro⟨i,o,hi,hb⟩;rw[A9]at hi;split at hi
   ·cases hi;simp[G5]at hb
   ·exact⟨i,o,hi,hb⟩
  ·rintro⟨i,o,hi,hb⟩;refine⟨i,o,?_,hb⟩;rw[A9,if_neg]
   ·exact hi
   ·rintro rfl;rw[hj]at hi;cases hi;simp[G5]at hb
 have hprv:∀b off,Prv C'.X (A2 (ins j (.yld rest live) st.regs)) rho b off↔(C'.X b off \/ PvR st.regs rho b off):=fun b off=>or_congr Bc0 (hpv b off);have hk1:Keeps w (Prv C.X (A2 st.regs) rho) w' (Prv C'.X (A2 (ins j (.yld rest live) st.regs)) rho):=fun b o v hp hc=>
  let ⟨h1,h2⟩:=hk b o v hp hc
  ⟨h1,fun hp'=>h2 ((hprv b o).1 hp')⟩
 have hold:∀i o,A2 (ins j (.yld rest live) st.regs) i=some o->(i=j/\o=.yld rest live) \/ (i≠j/\A2 st.regs i=some o):=by
  intro i o hi;rw[A9]at hi;split at hi
  ·rename_i e;cases hi;exact .inl ⟨e.symm,rfl⟩
  ·rename_i e;exact .inr ⟨fun e'=>e e'.symm,hi⟩
 refine⟨⟨⟨?_,?_,?_,fun b off hX=>hR.bnd b off hX⟩,hR.ext,hR.size,hR.same,?_,?_,?_⟩,fun t=>(h.env t).keeps hk1 hlive,?_,h.marks.1,?_⟩
 ·intro i o hi;rcases hold i o hi with⟨rfl,rfl⟩ | ⟨_,hi⟩
  ·exact h.hp.holds i _ hj
  ·exact (h.hp.holds i o hi).keeps hk1 hlive fun b hb=>hsame b (.inl ⟨i,o,hi,hb⟩)
 ·intro i i' oi oj b hi hi' hb hb';rcases hold i oi hi with⟨rfl,rfl⟩ | ⟨_,hi⟩
  ·simp[G5]at hb
  ·rcases hold i' oj hi' with⟨rfl,rfl⟩ | ⟨_,hi'⟩
   ·simp[G5]at hb'
   ·exact h.hp.sep i i' oi oj b hi hi' hb hb'
 ·intro i o b off hi hb;exact hR.out b off (.inl ((hown b).1 ⟨i,o,hi,hb⟩))
 ·intro b o v hp hc;obtain⟨h1,h2⟩:=hR.keep b o v hp hc;exact⟨h1,fun hp'=>h2 ((hprv b o).1 hp')⟩
 ·intro b hb;exact hR.own b (.inl ((hown b).1 hb))
 ·intro i r b hi;rcases hold i _ hi with⟨rfl,he⟩ | ⟨hne,hi⟩
  ·cases he;exact⟨hY,by rw[hyv];exact (h.yld i _ _ hj).2⟩
  ·exact absurd (honly i r b hi) hne
 ·intro i hi hl;rw[hrho];refine h.pin i hi ?_;simp only[Lv,A9]at hl;split at hl
  ·rename_i e;subst e;simp[Lv,hj]
  ·exact hl
 ·intro d hd;obtain⟨r,h1,h2,h3,h4⟩:=h.marks.2 d hd;have hm:Uf a.defers r:=by unfold Uf;rw[<- h1];exact hd
  refine⟨r,h1,hR.own r (.inr hm),?_,fun off=>hR.out r off (.inr hm)⟩;rw[hsame r (.inr hm)];exact h3
theorem JA {j:Nat}:∀{regs:D1},Ex j regs=true->∀i r b,A2 regs i=some (.yld r b)->i=j
 |[],_,i,r,b,h=>by simp[A2]at h
 |(x,o)::regs,hy,i,r,b,h=>by
  have hrec:Ex j regs=true:=by cases o<;>simp only[Ex,AS3]at hy<;>first|exact hy.2|exact hy
  simp only[A2]at h;split at h
  ·rename_i e;cases h;subst e;simp only[Ex,AS3,beq_iff_eq]at hy;exact hy.1
  ·exact JA hrec i r b h
end
end Go.AM
set_option linter.unusedVariables false
namespace Go.AM
section
variable {P:Program}{C:Ctx}{st:St}{a:Act}{w:World}{rho:Nat->Value}{𝒢 : Prot P}{n:Nat}
theorem XK {t:TypeId}{m:String}{f:FuncId}(hm:Rd P t m=some f)(x:Value):(method (P.types.size+Made.depth) t x m).run P w=.ok (f,x) w:=by
 unfold Rd at hm;split at hm
 ·rename_i i d hi hu;split at hm
  ·cases hm
  ·rename_i hnp;split at hm
   ·rename_i q hq;split at hm
    ·rename_i f' hp hf;cases hm;show (method (P.types.size+99+1) t x m).run P w=_;generalize P.types.size+99=fuel;have hp' : q.path = #[]:=by simpa using hp
     cases d<;>first
      |exact absurd rfl (hnp _)
      |simp[method,AL3 w hi,hq,hp,hf,follow,receiverAt,BQ w hu,Place.get]
    ·cases hm
   ·cases hm
 ·cases hm
theorem Ui (a:Act)(d:Option Nat)(v:Value):(a.put d v).tmps.size=a.tmps.size:=by cases d<;>simp[Act.put]
theorem Wo {o:Oper}{k:St->Prop}{Q:J3}(hG : 𝒢.G C)(h:Sat C st a w rho)(hsz:a.tmps.size=n)(hd:∀t,o.dst=some t->t<n)(hw:wOp (GD P) P o k Q st){ro:Option Nat}{next:Act->World->Prop}{Q' : Exit->Act->World->Prop}
 (hk:∀a w,NextOk 𝒢 n k a w->next a w) (hq:∀chain a w,PanicOk 𝒢 n Q chain a w->Q' (.panic chain) a w):o.wpIn (FW ro) 0 P a w next Q':=by
 refine⟨fun f _=>trivial,?_⟩;have hdef:∀c,o.op ≠ .defer c:=by intro c he;simp[wOp,he,aop,Rb]at hw
 have hsem:o.semAt ro a.eval=execOp a.eval o:=Oper.semAt_eq _ _ _ hdef;have hput:∀t,o.dst=some t->t<a.tmps.size:=fun t ht=>by rw[hsz];exact hd t ht
 show o.uponIn (FW ro) 0 P a next Q' ((o.semAt ro a.eval).run P w)
 unfold wOp at hw;split at hw
 ·rename_i f args types he;rcases hw with⟨as,regs,f',as',ha,hwh,ids,hc⟩ | ⟨j,xs,regs,ys,rest,hf,hvs,hj,honly,hle,hk'⟩
  ·obtain⟨g1,g2,g3,g4⟩:=Ug h ha;have hv:RepV w (Prv C.X (A2 regs) rho) (Lv (A2 regs)) rho (args.map a.eval) as:=
    ⟨by simp[g3],fun i hi=>by rw[Li (by omega)];exact g4 i _ (AS2 (by omega))⟩
   obtain⟨x,y,hx,hvv⟩:=XJ h hwh g2 hv;have hcf:=Lh hG g1 hsz hc hvv.1 hvv.2;refine Rz hd hk hq hG hsz ?_ hcf;rw[hsem];simp[execOp,he,resolve,Deferred.ofValue,hx,invoke]
  ·obtain⟨g1,g2,g3,g4,_⟩:=Ey args.toList st xs regs h hvs;have hyf:=g2.av (h.aev f);rw[hf]at hyf;obtain⟨hY,hyv⟩:=g1.yld j _ _ hj;obtain⟨hl,hrep⟩:=Wn (w:=w) (Pi:=Prv C.X (A2 regs) rho) hle;have hcall:=𝒢.call C w _ _ ys rest (args.map a.eval) hG g1.rel hY (by simp;rw[<- hl,g3];simp) (fun i hi=>by rw[Li (by omega)];exact hrep i (by omega) _ (g4 i _ (AS2 (by omega))))
   obtain⟨l,fn,tmps,assign,body,h1,h2,h3⟩:=hcall;have hfv:a.eval f=.func (.yield l) #[] #[]:=by
    generalize a.eval f=v at hyf;cases hyf with
    |yf _ l' hlv hr=>have hr' : rho j=.func (.yield l') #[] #[]:=hr;rw[hyv,h1]at hr';cases hr';rfl
   have hrun:(o.semAt ro a.eval).run P w=.ok (.round l fn tmps assign body) w:=by rw[hsem];simp[execOp,he,resolve,Deferred.ofValue,hfv,invoke,h2]
   rw[hrun,Oper.uponIn_round];refine⟨fun h=>by simp[FW,Fence.wide]at h,(XH h3).mono ?_⟩;rintro e w' ⟨b,rfl,C',hG',hyv',hrho',hY',hw0,hE,hPi,hR,hsame,hkeep,_⟩;have hs:=g1.yielded hj hY' hyv' hrho' hw0 hE hPi hR hsame hkeep (JA honly);exact hk _ _ ⟨C',_,rho,hG',hs.put (x:=.p (.bb b)) (.p _ _ (.bb b)) hput,by rw[Ui,hsz],hk' b⟩
 ·rename_i r m args types he;obtain⟨as,regs,t,y,f',ha,hr,hm,ids,hc⟩:=hw;obtain⟨g1,g2,g3,g4⟩:=Ja args.toList st as regs h ha;have hv:RepV w (Prv C.X (A2 regs) rho) (Lv (A2 regs)) rho (args.map a.eval) as:=
   ⟨by simp[g3],fun i hi=>by rw[Li (by omega)];exact g4 i _ (AS2 (by omega))⟩
  have hrv:=g2.av (h.aev r);rw[hr]at hrv;have hrv:=hrv.toP;obtain⟨x,hx,hxr⟩:∃x,a.eval r=.iface t x/\RepP w (Prv C.X (A2 regs) rho) x y:=by
   generalize a.eval r=v at hrv;cases hrv with
   |iface _ x _ hx=>exact⟨x,rfl,hx⟩
  have hvv:RepV w (Prv C.X (A2 regs) rho) (Lv (A2 regs)) rho (#[x]++args.map a.eval) (.p y::as):=
   RepV.append (vs:=#[x]) (l:=[.p y]) ⟨rfl,fun i hi=>by
    simp only[AX6]at hi;obtain rfl:i=0:=by omega
    exact .p _ _ hxr⟩ hv
  have hcf:=Lh hG g1 hsz hc hvv.1 hvv.2;refine Rz hd hk hq hG hsz ?_ hcf;rw[hsem];have e0:(#[Value.iface t x]++args.map a.eval)[0]? = some (.iface t x):=by simp[AZ1]
  have e1:(args.map a.eval).extract 0 args.size=args.map a.eval:=by
   have:=Array.extract_size (xs:=args.map a.eval)
   rwa [Array.size_map]at this
  simp[execOp,he,resolve,invoke,hx,callMethod,e0,e1,XK hm]
 ·rename_i x he;obtain⟨t,y,hx,hQ⟩:=hw;have hxr:=h.aev x;rw[hx]at hxr;have hxr:=hxr.toP;obtain⟨v,hv⟩:∃v,a.eval x=.iface t v:=by
   generalize a.eval x=z at hxr;cases hxr with
   |iface _ v _ _=>exact⟨v,rfl⟩
  have hrun:(o.semAt ro a.eval).run P w=.halt (.panic (.iface t v)) w:=by rw[hsem];simp[execOp,he,Instr.panic,hv,goPanic,Result.andThen]
  rw[hrun,Oper.uponIn_panic];exact hq _ _ _ ⟨C,st,rho,_,_,rfl,hG,h,hsz,by rw[<- hv];exact hxr,hQ⟩
 ·have hw2:∃out,OpOk P C o st a w rho out/\k (AM.put { st with regs:=out.regs } o.dst out.val):=by
   rcases hw with⟨out,ha,hc,hk'⟩ | ⟨c,x,ha,hc,hk'⟩
   ·exact⟨out,Aa6 h ha hc,hk'⟩
   ·exact⟨⟨c,.p x,st.regs⟩,XE h ha hc,hk'⟩
  obtain⟨out,⟨nx,v,w',rho',h1,h2,h3,_,h5⟩,hk'⟩:=hw2;have hfin:next (a.put o.dst v) w':=hk _ _ ⟨C,_,rho',hG,h3.put h5 hput,by rw[Ui,hsz],hk'⟩
  rw[hsem,h1];rcases h2 with rfl|⟨rfl,rfl⟩
  ·rw[Oper.uponIn_value];exact hfin
  ·rw[Oper.uponIn_skip];exact hfin
theorem NextOk.up {K:St->Prop}{a:Act}{w:World}(hG : 𝒢.G C)(h:Sat C st a w rho)(hsz:a.tmps.size=n)(hu:semUp st K):NextOk 𝒢 n K a w:=
 let ⟨st',rho',hK,_,hs⟩:=hu C a w rho h
 ⟨C,st',rho',hG,hs,hsz,hK⟩
theorem XL (h:Sat C st a w rho)(hsz:a.tmps.size=n){ops:Array Oper}{j:Nat}{o' : Oper}{d:Nat}(ho:ops[j]? = some o')(hdst:o'.dst=some d)(hdn:d<n){b:Option Bool}(hy:yv (get st.env (DD ops.toList j))=some b):yielded ops a.tmps j=b:=by
 have hj:DD ops.toList j=d:=by simp[DD,ho,hdst]
 rw[hj]at hy;have hr:=h.env d;have ht:a.tmps[d]? = some (a.tmps.getD d undef):=by
  have:d<a.tmps.size:=by omega
  simp[AR9,this]
 unfold yielded;simp only[ho,hdst,AS1,ht];unfold yv at hy;split at hy
 ·rename_i x hx;cases hy;rw[hx]at hr;rw[hr.toP.toV]
 ·rename_i x hx;cases hy;rw[hx]at hr;rw[hr.toP.toBool]
 ·rename_i x hx;cases hy;rw[hx]at hr;rw[hr.toP.toV]
 ·cases hy
theorem Oh {ops:Array Oper}{o:Oper}(hok:GH n ops.toList o=true)(hdall:∀(j:Nat) (o' : Oper) d,ops[j]? = some o' -> o'.dst=some d->d<n){K:St->Prop}{Q:J3}(hG : 𝒢.G C)(h:Sat C st a w rho)(hsz:a.tmps.size=n)(hw:Fm (GD P) P ops.toList o K Q st){ro:Option Nat}{next:Act->World->Prop}{Q' : Exit->Act->World->Prop}
 (hk:∀a w,NextOk 𝒢 n K a w->next a w) (hq:∀chain a w,PanicOk 𝒢 n Q chain a w->Q' (.panic chain) a w) :
 if Region.wanted o (yielded ops a.tmps)then o.wpIn (FW ro) 0 P a w next Q' else (∀f,o.about P w a.eval=some f->(FW ro).fn f)/\next (a.put o.dst undef) w:=by
 simp only[GH,AS3]at hok;obtain⟨hod,hog⟩:=hok;have hdn:∀t,o.dst=some t->t<n:=fun t ht=>by rw[ht]at hod;simpa using hod
 obtain⟨st1,rho1,hw,_,h⟩:=hw C a w rho h;cases hg:o.guard with
 |none=>
  simp only[hg]at hw
  have:Region.wanted o (yielded ops a.tmps)=true:=by simp[Region.wanted,hg]
  rw[if_pos this];exact Wo hG h hsz hdn hw hk hq
 |some q=>
  obtain⟨j,want⟩:=q;simp only[hg]at hw hog;obtain⟨b,hy,hw⟩:=hw;split at hog
  ·rename_i o' ho';have ho' : ops[j]? = some o':=by simpa using ho'
   obtain⟨d,hd'⟩:=AU0.1 hog;have hyy:=XL h hsz ho' hd' (hdall j o' d ho' hd') hy;have hwant:Region.wanted o (yielded ops a.tmps)=(b==some want):=by simp[Region.wanted,hg,hyy]
   by_cases hb:b=some want
   ·rw[if_pos hb]at hw;rw[if_pos (by rw[hwant];simp[hb])];exact Wo hG h hsz hdn hw hk hq
   ·rw[if_neg hb]at hw;rw[if_neg (by rw[hwant];simpa using hb)];refine⟨fun f _=>trivial,hk _ _ ⟨C,_,rho1,hG,h.put (x:=AY) (.p _ _ (.v _)) (fun t ht=>by rw[hsz];exact hdn t ht),by rw[Ui,hsz],hw⟩⟩
  ·cases hog
end
end Go.AM
set_option linter.unusedVariables false
namespace Go.AM
section
variable {P:Program}{C:Ctx}{st:St}{a:Act}{w:World}{rho:Nat->Value}{𝒢 : Prot P}{n:Nat}{ro:Option Nat}{ops:Array Oper}{Q:J3}
theorem RA (hok:ops.toList.all (GH n ops.toList)=true)(j:Nat)(o' : Oper)(d:Nat)(ho:ops[j]? = some o')(hd:o'.dst=some d):d<n:=by
 rw[AT4]at hok
 have:=hok o' (by
  have:ops.toList[j]? = some o':=by simpa using ho
  exact AT7 this)
 simp only[GH,hd,AS3]at this;simpa using this.1
theorem Lj (hok:ops.toList.all (GH n ops.toList)=true):∀(l:List Oper) (i:Nat),ops.toList.drop i=l->i+l.length=ops.size->∀{C st a w rho},𝒢.G C->Sat C st a w rho->a.tmps.size=n->Gx (GD P) P ops.toList l Q st ->
 wpOpsIn (FW ro) 0 P ops (WP 𝒢 n Q) ((List.range ops.size).drop i) a w
 |[],i,hl,hi,C,st,a,w,rho,hG,h,hsz,hw=>by rw[AY5 (by simp at hi⊢;omega)];exact⟨C,st,rho,hG,h,hsz,hw⟩
 |o::l,i,hl,hi,C,st,a,w,rho,hG,h,hsz,hw=>by
  have hlt:i<ops.size:=by simp at hi;omega
  have hdrop:(List.range ops.size).drop i=i::(List.range ops.size).drop (i+1):=by rw[Ba7 (by simpa using hlt)];simp
  rw[hdrop];have hget:ops.toList[i]? = some o:=by
   have:(ops.toList.drop i)[0]? = some o:=by rw[hl];rfl
   simpa using this
  have ho:ops[i]? = some o:=by simpa using hget
  have hl' : ops.toList.drop (i+1)=l:=by
   have:(ops.toList.drop i).drop 1=l:=by rw[hl];rfl
   rwa [Bc8]at this
  have hmem:GH n ops.toList o=true:=by rw[AT4]at hok;exact hok o (AT7 hget)
  simp only[wpOpsIn,ho]
  have:=Oh (ro:=ro) (Q':=WP 𝒢 n Q) (next:=wpOpsIn (FW ro) 0 P ops (WP 𝒢 n Q) ((List.range ops.size).drop (i+1))) hmem (RA hok) hG h hsz hw
   (fun a w ⟨C,st,rho,hG,h,hsz,hw⟩=>Lj hok l (i+1) hl' (by simp at hi⊢;omega) hG h hsz hw) (fun chain a w h=>h)
  exact this
def cnt:List Bool->Nat
 |[]=>0
 |true::r=>cnt r+1
 |false::r=>cnt r
theorem Ab0:∀{l:List Bool}{i:Nat},l[i]? = some false->cnt (l.set i true)=cnt l+1
 |[],i,h=>by simp at h
 |b::r,0,h=>by simp at h;subst h;simp[cnt]
 |b::r,i+1,h=>by
  have:=Ab0 (l:=r) (i:=i) (by simpa using h)
  cases b<;>simp[cnt,this]
theorem Ab1:∀(l:List Bool),cnt l<=l.length
 |[]=>by simp[cnt]
 |true::r=>by simp[cnt,Ab1 r]
 |false::r=>by have:=Ab1 r;simp[cnt];omega
theorem Wp:∀{l:List Bool},l.length<=cnt l->∀i,i<l.length->l[i]? = some true
 |[],_,i,hi=>by simp at hi
 |true::r,h,i,hi=>by
  cases i with
  |zero=>simp
  |succ i=>simpa using Wp (l:=r) (by simpa[cnt]using h) i (by simpa using hi)
 |false::r,h,i,hi=>by have:=Ab1 r;simp[cnt]at h;omega
theorem Ab2 (m:Region.Mode)(ops:Array Oper):∀(fuel t:Nat) (listed:Array Bool) (acc:List Nat),Region.linearise.go m ops fuel t listed acc=acc.reverse++Region.linearise.go m ops fuel t listed []
 |0,t,listed,acc=>by simp[Region.linearise.go]
 |fuel+1,t,listed,acc=>by
  simp only[Region.linearise.go];split
  ·rename_i i hi;rw[Ab2 m ops fuel _ _ (i::acc),Ab2 m ops fuel _ _ [i]];simp
  ·simp
theorem XM (hok:ops.toList.all (GH n ops.toList)=true)(hdep:GG ops.toList=true){Inv:(Nat->Bool)->St->Prop}
 (hstep:∀D i s o,Inv D s->ops.toList[i]? = some o->D i=false->(∀e∈o.after.toList,CN e=true->D e.on=true)->Fm (GD P) P ops.toList o (Inv fun j=>if j=i then true else D j) Q s)
 (hfin:∀D s,Inv D s->(∀i,i<ops.toList.length->D i=true)->semUp s (Q .normal)):∀(fuel t:Nat) (listed:Array Bool),listed.size=ops.size->ops.size<=cnt listed.toList+fuel->∀{a w},NextOk 𝒢 n (Inv fun j=>listed.getD j false) a w ->
 wpOpsIn (FW ro) 0 P ops (WP 𝒢 n Q) (Region.linearise.go .any ops fuel t listed []) a w:=by
 have hdone:∀(listed:Array Bool) {a w},NextOk 𝒢 n (Inv fun j=>listed.getD j false) a w->(∀i,i<ops.size->listed.getD i false=true)->wpOpsIn (FW ro) 0 P ops (WP 𝒢 n Q) [] a w:=by intro listed a w h hall;obtain⟨C,st,rho,hG,hs,hsz,hI⟩:=h;exact NextOk.up hG hs hsz (hfin _ st hI fun i hi=>hall i (by simpa using hi))
 intro fuel
 induction fuel with
 |zero=>
  intro t listed hsz hcnt a w h;simp only[Region.linearise.go,List.reverse_nil];refine hdone listed h fun i hi=>?_
  have:=Wp (l:=listed.toList) (by simp;omega) i (by simp;omega)
  simp only[AX1]at this;simp[AR9,this]
 |succ fuel ih=>
  intro t listed hsz hcnt a w h;simp only[Region.linearise.go];generalize hrs:(List.range ops.size).filter (fun i=>!listed.getD i true&&((ops[i]?).map (·.after.all fun e=>!Region.binds .any e||listed.getD e.on false)).getD false)=rs;split
  ·rename_i i hi;rw[Ab2];have hmem:i∈rs:=AT7 hi;rw[<- hrs,Bd7]at hmem;obtain⟨hr,hc⟩:=hmem;simp only[AW2]at hr;simp only[AS3,AU3]at hc;obtain⟨hl,ha⟩:=hc;have ho:ops[i]? = some ops[i]:=AV4 hr;have hof:listed[i]? = some false:=by
    have:i<listed.size:=by omega
    simp only[AR9,AV4 this,AS8]at hl;rw[AV4 this,hl]
   simp only[ho,AT0,AS8,Bj3,AT6,AU3]at ha;have hmemo:GH n ops.toList ops[i]=true:=by rw[AT4]at hok;exact hok _ (by simp)
   show wpOpsIn (FW ro) 0 P ops (WP 𝒢 n Q) (i::Region.linearise.go .any ops fuel (t / rs.length) (listed.setIfInBounds i true) []) a w;simp only[wpOpsIn,ho];obtain⟨C,st,rho,hG,hs,hsz',hI⟩:=h;have hw:=hstep _ i st ops[i] hI (by simp[hr]) (by simp[AR9,hof]) (fun e he hb=>by
    rcases ha e (by simpa using he)with h1|h1
    ·unfold CN at hb;rw[hb]at h1;cases h1
    ·exact h1)
   have hset:(fun j=>if j=i then true else listed.getD j false)=fun j=>(listed.setIfInBounds i true).getD j false:=by
    funext j;by_cases e:j=i
    ·subst e;simp[AR9,show j<listed.size by omega]
    ·simp[AR9,e,Bc7 e]
   rw[hset]at hw;exact Oh (ro:=ro) (Q':=WP 𝒢 n Q) hmemo (RA hok) hG hs hsz' hw
    (fun a w h=>ih _ _ (by simp[hsz]) (by rw[Bf7,Ab0 (by simpa using hof)];omega) h) (fun chain a w h=>h)
  ·rename_i hnone;have hempty:rs=[]:=by
    cases rs with
    |nil=>rfl
    |cons x r=>
     rw[List.getElem?_eq_none_iff]at hnone
     have:=Nat.mod_lt t (show 0<(x::r).length by simp)
     omega
   subst hempty;refine hdone listed h fun i hi=>?_
   induction i using Nat.strongRecOn with
   |_ i ihi=>
    cases hv:listed.getD i false with
    |true=>rfl
    |false=>
     exfalso;have hmem:i∈(List.range ops.size).filter (fun i=>!listed.getD i true&&((ops[i]?).map (·.after.all fun e=>!Region.binds .any e||listed.getD e.on false)).getD false):=by
      rw[Bd7];refine⟨by simpa using hi,?_⟩;have ho:ops[i]? = some ops[i]:=AV4 hi;have hlt:i<listed.size:=by omega
      simp only[ho,AT0,AS8,AS3,AU3,Bj3,AT6];refine⟨by simpa[AR9,hlt]using hv,fun e he=>?_⟩;unfold GG at hdep;rw[AT4]at hdep
      have:=hdep i (by simpa using hi)
      simp only[AX1,ho,AT4,AT6,AU3,decide_eq_true_eq]at this;rcases this e (by simpa using he)with h1|h1
      ·exact .inl h1
      ·exact .inr (ihi e.on h1 (by omega))
     rw[hrs]at hmem;simp at hmem
end
end Go.AM
set_option linter.unusedVariables false
namespace Go.AM
section
variable {P:Program}{C:Ctx}{st:St}{a:Act}{w:World}{rho:Nat->Value}{𝒢 : Prot P}{n:Nat}{ro:Option Nat}{Q:J3}
def AL9 (𝒢 : Prot P)(ro:Option Nat):Prop:=∀l,ro=some l->∀C,𝒢.G C->∃r,C.w0.heap[l]? = some (.loop r)/\¬C.E0 l
def HO (P:Program)(n:Nat)(c:Code):Prop:=∀(𝒢 : Prot P) (ro:Option Nat),AL9 𝒢 ro->∀(Q:J3) (C:Ctx) (st:St) (a:Act) (w:World) (rho:Nat->Value),𝒢.G C->Sat C st a w rho->a.tmps.size=n->awp (GD P) P c Q st->c.wpIn (FW ro) 0 P (WP 𝒢 n Q) a w
theorem Bx {b:Frame}{c:Code}{k:List Item}{cs:List Frame}:step P (lone (b.atR a (.code (.scope c)::k)) cs w)=.next (lone (b.atR a (.code c :: .inScope c::k)) cs w):=
 step_lone_go (by simp[stepG,stepG.exec,Frame.atR])
theorem PL {b:Frame}{c:Code}{k:List Item}{cs:List Frame}:step P (lone (b.atR a (.inScope c::k)) cs w)=.next (lone (b.atR a k) cs w):=
 step_lone_go (by simp[stepG,stepG.exec,Frame.atR])
theorem XN {F:Fence}{m:Nat}{c:Code}{Q:Exit->Act->World->Prop}(h:c.wpIn F m P (fun e a w=>(∀l,e ≠ .goto l)/\Q e a w) a w):(Code.scope c).wpIn F m P Q a w:=by
 intro b k cs hro hb hr;have h0:(lone (b.atR a (.code (.scope c)::k)) cs w).fenced P F:=fenced_calm hb hr rfl;obtain⟨e,a₁,w₁,⟨hg,hq⟩,harr⟩:=h b (.inScope c::k) cs hro hb hr;cases e with
 |normal=>exact⟨.normal,a₁,w₁,hq,.head h0 Bx (StepsIn.trans harr (.one (fenced_calm hb hr rfl) PL))⟩
 |exit id=>
  have hx:exitTo id (.inScope c::k)=exitTo id k:=by simp[exitTo]
  exact⟨_,a₁,w₁,hq,fun k' hk=>.head h0 Bx (harr.1 k' (by rw[hx];exact hk)),
   fun hr' hk=>let ⟨k₁,h1,h2⟩:=harr.2 hr' (by rw[hx];exact hk);⟨k₁,h1,.head h0 Bx h2⟩⟩
 |goto l=>exact absurd rfl (hg l)
 |ret=>exact⟨_,a₁,w₁,hq,.of_steps (.one h0 Bx) harr⟩
 |panic ch=>exact⟨_,a₁,w₁,hq,.of_steps (.one h0 Bx) harr⟩
 |outgrown=>exact⟨_,a₁,w₁,hq,.of_steps (b:=b) (k:=k) (cs:=cs) (e:=.outgrown) (.one h0 Bx) harr⟩
theorem PanicOk.mono {Q Q' : J3}{ch:List PanicEntry}{a:Act}{w:World}(h:PanicOk 𝒢 n Q ch a w)(hq:∀x s,Q (.panic x) s->Q' (.panic x) s):PanicOk 𝒢 n Q' ch a w:=
 let ⟨C,st,rho,v,x,h1,h2,h3,h4,h5,h6⟩:=h
 ⟨C,st,rho,v,x,h1,h2,h3,h4,h5,hq _ _ h6⟩
theorem AB7 (h:Sat C st a w rho){c:Operand}{b:Bool}(hb:KR (aev st.env c)=some b):a.eval c=.bool b:=by
 have hr:=h.aev c;unfold KR at hb;split at hb
 ·rename_i x hx;cases hb;rw[hx]at hr;exact hr.toP.toV
 ·rename_i x hx;cases hb;rw[hx]at hr;exact hr.toP.toBool
 ·cases hb
open Classical in
theorem XO {b:Code}(ih:HO P n b)(hro:AL9 𝒢 ro)(hG : 𝒢.G C)(h:Sat C st a w rho)(hsz:a.tmps.size=n)(hw:awp (GD P) P (.loop b) Q st):(Code.loop b).wpIn (FW ro) 0 P (WP 𝒢 n Q) a w:=by
 obtain⟨X,s,J,m,hu,hround⟩:=hw
 let at' : Act->World->X->Prop:=fun a w x=>J x/\∃C rho,𝒢.G C/\Sat C (s x) a w rho/\a.tmps.size=n
 let I:Act->World->Prop:=fun a w=>∃x,at' a w x
 let le:Act->World->Nat->Prop:=fun a w k=>∃x,at' a w x/\m x=k
 have hmin:∀(p:Nat->Prop),(∃k,p k)->∃k,p k/\∀j,p j->k<=j:=by
  intro p ⟨k,hk⟩
  induction k using Nat.strongRecOn with
  |_ k ih=>
   by_cases hex:∃j,j<k/\p j
   ·obtain⟨j,hj,hp⟩:=hex;exact ih j hj hp
   ·exact⟨k,hk,fun j hj=>Bb7 fun hlt=>hex ⟨j,hlt,hj⟩⟩
 let μ : Act->World->Nat:=fun a w=>if hx:∃k,le a w k then (hmin _ hx).choose else 0
 have hμ : ∀a w x,at' a w x->∃y,at' a w y/\m y = μ a w /\ μ a w<=m x:=by
  intro a w x hx;have hex:∃k,le a w k:=⟨m x,x,hx,rfl⟩;have h1:=(hmin _ hex).choose_spec;have h2 : μ a w=(hmin _ hex).choose:=by simp only[μ,dif_pos hex]
  obtain⟨⟨y,hy,hm⟩,hle⟩:=h1;exact⟨y,hy,by rw[h2];exact hm,by rw[h2];exact hle _ ⟨x,hx,rfl⟩⟩
 refine wpIn_loop I μ ?_ ?_
 ·obtain⟨C',st',rho',hG',hs',hsz',⟨x,rfl,hJ⟩⟩:=NextOk.up hG h hsz hu;exact⟨x,hJ,C',rho',hG',hs',hsz'⟩
 ·rintro a w ⟨x,hx⟩;obtain⟨y,⟨hJ,C',rho',hG',hs',hsz'⟩,hm,_⟩:=hμ a w x hx;refine wpIn_mono (ih 𝒢 ro hro _ C' (s y) a w rho' hG' hs' hsz' (hround y hJ)) ?_;intro e a' w' he;cases e with
  |normal=>obtain⟨C2,st2,rho2,hG2,hs2,hsz2,hu2⟩:=he;obtain⟨C3,st3,rho3,hG3,hs3,hsz3,⟨z,rfl,hJz,hmz⟩⟩:=NextOk.up hG2 hs2 hsz2 hu2;have hz:at' a' w' z:=⟨hJz,C3,rho3,hG3,hs3,hsz3⟩;obtain⟨_,_,_,hle⟩:=hμ a' w' z hz;exact⟨⟨z,hz⟩,by omega⟩
  |exit id=>exact he
  |goto l=>exact he
  |ret=>exact he
  |panic ch=>exact he.mono fun x s h=>h
  |outgrown=>exact he
theorem Uj (hrange:∀g ps asg body,(ps.toList.all fun t=>Nat.blt t n)=true->HO P n asg->HO P n body->HO P n (.rangeFunc g ps asg body)):∀(c:Code),Af n c=true->HO P n c:=by
 intro c
 induction c with
 |skip=>exact fun _ 𝒢 ro hro Q C st a w rho hG h hsz hw=>wpIn_skip ⟨C,st,rho,hG,h,hsz,hw⟩
 |label l=>exact fun _ 𝒢 ro hro Q C st a w rho hG h hsz hw=>wpIn_label ⟨C,st,rho,hG,h,hsz,hw⟩
 |exit id=>exact fun _ 𝒢 ro hro Q C st a w rho hG h hsz hw=>wpIn_exit ⟨C,st,rho,hG,h,hsz,hw⟩
 |goto l=>exact fun _ 𝒢 ro hro Q C st a w rho hG h hsz hw=>wpIn_goto ⟨C,st,rho,hG,h,hsz,hw⟩
 |ret=>exact fun _ 𝒢 ro hro Q C st a w rho hG h hsz hw=>wpIn_ret ⟨C,st,rho,hG,h,hsz,hw⟩
 |refuse y=>exact fun _ 𝒢 ro hro Q C st a w rho hG h hsz hw=>hw.elim
 |region id ops draw=>
  intro hok 𝒢 ro hro Q C st a w rho hG h hsz hw;simp only[Af]at hok;simp only[awp]at hw;cases draw with
  |false=>
   simp only[AS6,if_false]at hw
   have:=Lj (ro:=ro) hok ops.toList 0 (by simp) (by simp) hG h hsz hw
   exact wpIn_region (by simpa using this)
  |true=>
   simp only[if_true]at hw;obtain⟨hmix,hdep,Inv,h0,hstep,hfin⟩:=hw;refine wpIn_region_draw fun t=>?_;have hsch:Region.schedule (P.follows .mixedOrders) ops t=Region.linearise.go .any ops ops.size t (Array.replicate ops.size false) []:=by simp[Region.schedule,hmix,Region.linearise]
   rw[hsch];obtain⟨h1,_⟩:=h.grow (w':={ w with drawn:=w.drawn+1 }) (AS4 _) (fun _ _=>rfl);refine XM hok hdep hstep hfin _ _ _ (by simp) (by simp) ⟨C,st,rho,hG,h1,hsz,?_⟩
   have:(fun j=>(Array.replicate ops.size false).getD j false)=fun _=>false:=by funext j;simp only[AR9,Array.getElem?_replicate];split<;>rfl
   rw[this];exact h0
 |seq x y ihx ihy=>
  intro hok 𝒢 ro hro Q C st a w rho hG h hsz hw;simp only[Af,AS3]at hok;refine wpIn_seq (wpIn_mono (ihx hok.1 𝒢 ro hro _ C st a w rho hG h hsz hw) ?_);intro e a' w' he;cases e with
  |normal=>obtain⟨C2,st2,rho2,hG2,hs2,hsz2,hu2⟩:=he;obtain⟨C3,st3,rho3,hG3,hs3,hsz3,hw3⟩:=NextOk.up hG2 hs2 hsz2 hu2;exact ihy hok.2 𝒢 ro hro _ C3 st3 a' w' rho3 hG3 hs3 hsz3 hw3
  |exit id=>exact he
  |goto l=>exact he
  |ret=>exact he
  |panic ch=>exact he.mono fun x s h=>h
  |outgrown=>exact he
 |cond c x y ihx ihy=>
  intro hok 𝒢 ro hro Q C st a w rho hG h hsz hw;simp only[Af,AS3]at hok;obtain⟨b,hb,hw⟩:=hw;refine wpIn_cond (AB7 h hb) ?_;cases b
  ·exact ihy hok.2 𝒢 ro hro _ C st a w rho hG h hsz hw
  ·exact ihx hok.1 𝒢 ro hro _ C st a w rho hG h hsz hw
 |block id b ih=>
  intro hok 𝒢 ro hro Q C st a w rho hG h hsz hw;refine wpIn_block (wpIn_mono (ih hok 𝒢 ro hro _ C st a w rho hG h hsz hw) ?_);intro e a' w' he;cases e with
  |normal=>exact he
  |exit i=>
   simp only[Exit.inBlock];obtain⟨C2,st2,rho2,hG2,hs2,hsz2,hq⟩:=he;by_cases hi:i=id
   ·simp only[blk,hi,if_true]at hq;rw[if_pos hi];exact⟨C2,st2,rho2,hG2,hs2,hsz2,hq⟩
   ·simp only[blk,hi,if_false]at hq;rw[if_neg hi];exact⟨C2,st2,rho2,hG2,hs2,hsz2,hq⟩
  |goto l=>exact he
  |ret=>exact he
  |panic ch=>exact he.mono fun x s h=>h
  |outgrown=>exact he
 |loop b ih=>exact fun hok 𝒢 ro hro Q C st a w rho hG h hsz hw=>XO (ih hok) hro hG h hsz hw
 |scope b ih=>
  intro hok 𝒢 ro hro Q C st a w rho hG h hsz hw;refine XN (wpIn_mono (ih hok 𝒢 ro hro _ C st a w rho hG h hsz hw) ?_);intro e a' w' he;cases e with
  |normal=>exact⟨fun l h=>(by cases h),he⟩
  |exit id=>exact⟨fun l h=>(by cases h),he⟩
  |goto l=>obtain⟨C2,st2,rho2,hG2,hs2,hsz2,hq⟩:=he;exact hq.elim
  |ret=>exact⟨fun l h=>(by cases h),he⟩
  |panic ch=>exact⟨fun l h=>(by cases h),he.mono fun x s h=>h⟩
  |outgrown=>exact he.elim
 |rangeFunc g ps asg body iha ihb=>intro hok;simp only[Af,AS3]at hok;exact hrange g ps asg body hok.1.1 (iha hok.1.2) (ihb hok.2)
end
end Go.AM
set_option linter.unusedVariables false
namespace Go.AM
section
variable {P:Program}{C:Ctx}{st:St}{a:Act}{w:World}{rho:Nat->Value}{𝒢 : Prot P}{n:Nat}{Q:J3}
def Prot.fix (𝒢 : Prot P)(r0:Nat->Value):Prot P where
 G:=fun C=>𝒢.G C/\C.rho0=r0
 tab:=fun C h=>𝒢.tab C h.1
 call:=by intro C w O V ys rest vs hG hR hY hs hv;obtain⟨l,fn,tmps,as,body,h1,h2,h3⟩:=𝒢.call C w O V ys rest vs hG.1 hR hY hs hv;refine⟨l,fn,tmps,as,body,h1,h2,h3.mono ?_⟩;rintro e w' ⟨b,he,C',g1,g2,g3,g4⟩;exact⟨b,he,C',⟨g1,g3.trans hG.2⟩,g2,g3,g4⟩
theorem Sat.unmark (h:Sat C st a w rho){d:Deferred}{ds:List Deferred}(hd:a.defers=d::ds):∃r w',d.target=.collected r/\(Instr.takeDeferred r).run P w=.ok [] w' /\ Sat C st { a with defers:=ds } w' rho:=by
 obtain⟨r,rfl,hown,hheap,hX⟩:=h.marks.2 d (by rw[hd];simp);have hlt:r<w.heap.size:=(AS7.1 hheap).1;refine⟨r,w.putObj r (.deferred none),rfl,run_takeDeferred hheap,?_⟩;have hother:∀b,b≠r->(w.putObj r (.deferred none)).heap[b]? = w.heap[b]?:=fun b hb=>AX2 hb;have hcell:∀b off v,w.cell? ⟨b,off,none⟩=some v->b≠r:=by rintro b off v hc rfl;simp[World.cell?,hheap]at hc
 have hk:Keeps w (Prv C.X (A2 st.regs) rho) (w.putObj r (.deferred none)) (Prv C.X (A2 st.regs) rho):=fun b o v hp hc=>
  ⟨by rw[<- hc];exact AW1 (hother b (hcell b o v hc)),hp⟩
 refine⟨⟨⟨?_,h.hp.sep,h.hp.out,fun b off hX=>by rw[AV8];exact h.hp.bound b off hX⟩,h.ext.trans ⟨rfl,rfl⟩,by rw[AV8];exact h.size,?_,h.keep.trans hk,h.own,h.yld⟩,fun t=>(h.env t).keeps hk fun j hj=>⟨hj,rfl⟩,h.pin,?_,?_⟩
 ·intro j o hj;exact (h.hp.holds j o hj).keeps hk (fun j hj=>⟨hj,rfl⟩) fun b hb=>hother b fun e=>(h.hp.holds j o hj).kind hb (by rw[e];exact hheap)
 ·intro b hb hE;rw[hother b (fun e=>by subst e;rcases hown with h1|h1;exact hE h1;omega)];exact h.same b hb hE
 ·have:=h.marks.1;rw[hd]at this;exact (AX4.1 this).2
 ·intro d' hd';obtain⟨r',h1,h2,h3,h4⟩:=h.marks.2 d' (by rw[hd];exact AU9 _ hd');refine⟨r',h1,h2,?_,h4⟩;rw[hother r' ?_]
  ·exact h3
  ·rintro rfl
   have:=h.marks.1;rw[hd]at this
   exact (AX4.1 this).1 (by rw[<- h1];exact hd')
theorem JB {fn:Func}{R:Ending->World->Prop}{u:FrameMode}(hu:u ≠ .run){tmps:Array Value}(hfin:∀a w,Sat C st a w rho->a.tmps=tmps->a.defers=[]->LeavesIn Fence.wide 0 P fn tmps R [] u w):∀(ds:List Deferred) (a:Act) (w:World),a.defers=ds->a.tmps=tmps->Sat C st a w rho ->
 LeavesInM Fence.wide 0 P fn tmps R ds u w
 |[],a,w,hd,ht,h=>hfin a w h ht hd
 |d::ds,a,w,hd,ht,h=>by obtain⟨r,w',h1,h2,h3⟩:=h.unmark hd;exact⟨hu,.inl ⟨r,w',h1,h2,JB hu hfin ds { a with defers:=ds } w' rfl ht h3⟩⟩
theorem An2 {Pi:Nat->Nat->Prop}{live:Nat->Prop}{regs:D1}{t:TypeId}{v:Value}{x:AV}{r:List Prop×AV}(hv:RepA w Pi live rho v x)(he:load P regs t x=some r):∃ad,v=.pointer (some ad):=by
 cases hv with
 |reg=>exact⟨_,rfl⟩
 |elt=>exact⟨_,rfl⟩
 |p _ y hy=>cases hy<;>first|exact⟨_,rfl⟩ | simp[load]at he
 |_=>simp[load]at he
def AQ9 (tmps:Array Value):ResultVar->Sem Value
 |.tmp t=>pure (tmps.getD t undef)
 |.cell a t=>do loadVar t (<- asAddr (tmps.getD a undef))
theorem XP (fn:Func)(tmps:Array Value):results fn tmps=(do
 let vs <- fn.results.mapM (AQ9 tmps)
 pure (if h:vs.size=1 then vs[0]else .tuple vs):Sem Value):=by
 unfold results;refine congrArg (fun f=>((fn.results.mapM f >>= fun vs=>pure (if h:vs.size=1 then vs[0]else .tuple vs)):Sem Value)) ?_;funext r;cases r<;>rfl
theorem HP (h:Sat C st a w rho):∀(rs:List ResultVar) (l:List AV),Fq P st rs=some l ->
 ∃vs:List Value,(rs.mapM (AQ9 a.tmps)).run P w=.ok vs w/\vs.length=l.length/\∀i,i<l.length->RS C st w rho (vs.getD i undef) (l.getD i .top)
 |[],l,he=>by simp only[Fq,AS0]at he;subst he;exact⟨[],by simp,rfl,fun i hi=>absurd hi (by simp)⟩
 |r::rs,l,he=>by
  simp only[Fq]at he;split at he
  ·rename_i x l' hx hl;cases he;obtain⟨vs,h1,h2,h3⟩:=HP h rs l' hl;have hone:∃v,(AQ9 a.tmps r).run P w=.ok v w/\RS C st w rho v x:=by
    cases r with
    |tmp t=>simp only[ZL,AS0]at hx;subst hx;exact⟨_,rfl,h.env t⟩
    |cell y t=>
     simp only[ZL]at hx;split at hx
     ·rename_i z hz;cases hx;obtain⟨u,hu,hr⟩:=NW h (h.env y) hz trivial;obtain⟨ad,had⟩:=An2 (h.env y) hz;rw[had]at hu;refine⟨u,?_,hr⟩;simp only[AQ9,had];simpa[Instr.loadAt,Instr.sureAddr,asAddr]using hu
     ·cases hx
   obtain⟨v,hv,hr⟩:=hone;refine⟨v::vs,?_,by simp[h2],fun i hi=>?_⟩
   ·rw[List.mapM_cons];simp only[AV6,hv,AT5,h1,AX5]
   ·cases i with
    |zero=>simpa using hr
    |succ i=>simpa using h3 i (by simpa using hi)
  ·cases he
theorem PM (h:Sat C st a w rho){fn:Func}{l:List AV}(he:Fq P st fn.results.toList=some l):∃v,(results fn a.tmps).run P w=.ok v w/\RS C st w rho v (one l):=by
 obtain⟨vs,h1,h2,h3⟩:=HP h _ l he;refine⟨if h:vs.toArray.size=1 then vs.toArray[0]else .tuple vs.toArray,?_,?_⟩
 ·rw[XP,Array.mapM_eq_mapM_toList];simp only[AV6,map_eq_pure_bind,h1,AT5,AX5]
 ·by_cases hl:l.length=1
  ·obtain⟨x,rfl⟩:=Bg9.1 hl;obtain⟨v,rfl⟩:=Bg9.1 (h2.trans hl);simpa[one]using h3 0 (by simp)
  ·rw[dif_neg (by simpa using (h2 ▸ hl:¬vs.length=1))]
   have:one l=.tup l:=by
    cases l with
    |nil=>rfl
    |cons x r=>
     cases r with
     |nil=>exact absurd rfl hl
     |cons _ _=>rfl
   rw[this];refine .tup _ l (by simpa using h2) fun i hi=>?_
   have:=h3 i hi
   simpa[AR7,AR9]using this
theorem Lk (h:Sat C st a w rho){outs:List Nat}{objs:List Obj}(hd:F7 outs=true)(hob:J4 outs st.regs outs=some objs) :SatE C (objRegs objs) w (fun p=>rho (outs.getD p 0))/\Keeps w (PiS C st rho) w (Prv C.X (A2 (objRegs objs)) (fun p=>rho (outs.getD p 0))) /\
  ∀p j:Nat,outs[p]? = some j->Lv (A2 st.regs) j->Lv (A2 (objRegs objs)) p/\rho (outs.getD p 0)=rho j:=by
 obtain⟨hl,hg⟩:=X6 hob;have hdup:=Bw hd;have hfrom:∀p o',A2 (objRegs objs) p=some o' -> ∃j o,outs[p]? = some j/\A2 st.regs j=some o/\Rc outs o=some o' /\ rho (outs.getD p 0)=rho j:=by
  intro p o' hp;rw[D2]at hp;have hlt:p<outs.length:=by rw[<- hl];exact (AS9.1 hp).1
  obtain⟨o,o2,h1,h2,h3⟩:=hg p _ (AS2 hlt);rw[hp]at h3;cases h3;exact⟨_,o,AS2 hlt,h1,h2,by rw[Ck (AS2 hlt)]⟩
 have hpi:∀b off,Prv C.X (A2 (objRegs objs)) (fun p=>rho (outs.getD p 0)) b off->Prv C.X (A2 st.regs) rho b off:=by
  rintro b off (hX|⟨p,o',hp,hb,hpr⟩)
  ·exact .inl hX
  ·obtain⟨j,o,h1,h2,h3,h4⟩:=hfrom p o' hp;simp only[h4,X5 h3]at hb;exact .inr ⟨j,o,h2,hb,(HN h3 off).1 hpr⟩
 have hk:Keeps w (PiS C st rho) w (Prv C.X (A2 (objRegs objs)) (fun p=>rho (outs.getD p 0))):=fun b o v hp hc=>⟨hc,fun hp'=>hp (hpi b o hp')⟩;have hren:∀p j:Nat,outs[p]? = some j->Lv (A2 st.regs) j->Lv (A2 (objRegs objs)) p/\rho (outs.getD p 0)=rho j:=by intro p j hp _;obtain⟨o,o2,h1,h2,h3⟩:=hg p j hp;exact⟨by simp[Lv,D2,h3],by rw[Ck hp]⟩
 refine⟨⟨⟨?_,?_,?_,fun b off hX=>h.hp.bound b off hX⟩,h.ext,h.size,h.same,h.keep.trans hk,?_,?_⟩,hk,hren⟩
 ·intro p o' hp;obtain⟨j,o,h1,h2,h3,h4⟩:=hfrom p o' hp;show HoldsO w _ _ _ (rho (outs.getD p 0)) o';rw[h4];exact (h.hp.holds j o h2).ren hk hren (fun b _=>rfl) h3
 ·intro p q op oq b hp hq hbp hbq;obtain⟨j,o,h1,h2,h3,h4⟩:=hfrom p op hp;obtain⟨j',o',h1',h2',h3',h4'⟩:=hfrom q oq hq;simp only[h4,h4',X5 h3,X5 h3']at hbp hbq
  have:=h.hp.sep j j' o o' b h2 h2' hbp hbq
  subst this;exact Ea hdup h1 h1'
 ·intro p o' b off hp hb hX;obtain⟨j,o,h1,h2,h3,h4⟩:=hfrom p o' hp;simp only[h4,X5 h3]at hb;exact h.hp.out j o b off h2 hb hX
 ·rintro b ⟨p,o',hp,hb⟩;obtain⟨j,o,h1,h2,h3,h4⟩:=hfrom p o' hp;simp only[h4,X5 h3]at hb;exact h.own b ⟨j,o,h2,hb⟩
 ·intro p r b hp;obtain⟨j,o,h1,h2,h3,h4⟩:=hfrom p _ hp
  have:o=.yld r b:=by
   cases o<;>simp only[Rc]at h3
   case cells=>split at h3<;>cases h3
   case ghost=>split at h3<;>cases h3
   case yld=>cases h3;rfl
   all_goals cases h3
  subst this;simp only[h4];exact h.yld j r b h2
theorem XQ {m:Nat}{outs:List Nat}(hm:m<1000){i:Nat}(hk:(EY m outs)[i]? = some true):i<m/\outs[i]? = some i:=by
 unfold EY at hk;rw[AS5,AT9]at hk;obtain⟨q,hq,he⟩:=hk;have hlt:i<m:=by simpa using (AS9.1 hq).1
 rw[Lg hlt]at hq;cases hq;refine⟨hlt,?_⟩;simp only[beq_iff_eq,AR7]at he;cases ho:outs[i]? with
 |none=>rw[ho]at he;simp at he;omega
 |some j=>rw[ho]at he;simp at he;rw[he]
theorem XR (hcode:∀c,Af n c=true->HO P n c){f:FuncId}{fn:Func}{code:Code}{args:List AV}{objs:List Obj}{Q:KQ->List Obj->List Bool->Prop}(hf:P.funcs[f]? = some fn)(hb:fn.body=some code)(hname:(fn.name == "runtime.NumGoroutine")=false)(hn:fn.ntmps=n)
 (hok:Af n code=true) (hargs:args.length<=n) (hobjs:objs.length<1000)
 (hw:semUp ⟨argEnv args,objRegs objs⟩ (awp (GD P) P code (BP (GD P) P objs.length fn.results.toList Q))):SemF P f args objs Q:=by
 intro 𝒢 C w vs rho hG hS hvs;have hn' : ¬fn.name = "runtime.NumGoroutine" := by simpa using hname
 refine⟨.enter f vs,w,by simp[callFunc,hf,hn',hb],?_⟩;refine callsIn_of_wp_marks hf hb trivial ?_;have hS' : Sat C ⟨argEnv args,objRegs objs⟩ { tmps:=vs++Array.replicate (fn.ntmps-vs.size) undef,defers:=[] } w rho:=by
  refine⟨hS.toSatE,fun t=>?_,hS.pin,hS.marks⟩
  have:=hS.env t
  by_cases ht:t<vs.size
  ·simpa[AR9,AZ1,ht]using this
  ·show RepA w _ _ _ _ (get (argEnv args) t);rw[AJ,AR7,AW6 (by omega)];exact .top _
 obtain⟨st1,rho1,hw1,_,hS1⟩:=hw C _ w rho hS';have hsz:(vs++Array.replicate (fn.ntmps-vs.size) undef).size=n:=by simp;omega
 have hro:AL9 (𝒢.fix C.rho0) none:=fun l h=>by cases h
 refine wpIn_mono (hcode code hok (𝒢.fix C.rho0) none hro _ C st1 _ w rho1 ⟨hG,rfl⟩ hS1 hsz hw1) ?_;have hkept:∀{C' : Ctx}{st' : St}{a' : Act}{w' : World}{rho' : Nat->Value}{outs:List Nat}{objs' : List Obj},C'.rho0=C.rho0->Sat C' st' a' w' rho' -> J4 outs st'.regs outs=some objs' -> ∀i:Nat,(EY objs.length outs)[i]? = some true->i<objs'.length/\rho' (outs.getD i 0)=rho i:=by intro C' st' a' w' rho' outs objs' hr hs hob i hi;obtain⟨h1,h2⟩:=XQ hobjs hi;obtain⟨hl,hg⟩:=X6 hob;obtain⟨o,_,ho,_⟩:=hg i i h2;refine⟨by rw[hl];exact (AS9.1 h2).1,?_⟩;rw[Ck h2,hs.pin i (by omega) (by simp[Lv,ho]),hr];exact (hS.pin i (by omega) (by simp[Lv,D2,h1])).symm
 have hret:∀(a' : Act) (w' : World),NextOk (𝒢.fix C.rho0) n (fun st=>semUp st fun st1=>∃l outs a objs',Fq P st1 fn.results.toList=some l/\F7 outs=true/\QU outs (one l)=some a/\J4 outs st1.regs outs=some objs' /\ Q (.ret a) objs' (EY objs.length outs)) a' w' ->
  LeavesInM Fence.wide 0 P fn a'.tmps (fun e w'=>∃C' r objs' ks rho', 𝒢.G C' /\ Q r objs' ks/\SatE C' (objRegs objs') w' rho' /\
   AB5 w' (Prv C'.X (A2 (objRegs objs')) rho') (Lv (A2 (objRegs objs'))) rho' e r/\∀i:Nat,ks[i]? = some true->i<objs'.length/\rho' i=rho i) a'.defers .returning w':=by
  rintro a' w' ⟨C',st',rho',hG',hs',hsz',hu⟩;obtain⟨st2,rho2,⟨l,outs,x,objs',h1,h2,h3,h4,h5⟩,_,hs2⟩:=hu C' a' w' rho' hs';refine JB (C:=C') (st:=st2) (rho:=rho2) (by simp) ?_ a'.defers a' w' rfl rfl hs2;intro a3 w3 hs3 ht hd;obtain⟨v,hv,hrep⟩:=PM hs3 h1;obtain⟨g1,g2,g3⟩:=Lk hs3 h2 h4;rw[ht]at hv;exact⟨v,hv,C', .ret x,objs',_,_,hG'.1,h5,g1,⟨v,rfl,hrep.ren g2 g3 h3⟩,hkept hG'.2 hs3 h4⟩
 intro e a' w' he;cases e with
 |normal=>exact hret a' w' he
 |ret=>exact hret a' w' he
 |exit id=>obtain⟨_,_,_,_,_,_,h⟩:=he;exact h.elim
 |goto l=>obtain⟨_,_,_,_,_,_,h⟩:=he;exact h.elim
 |outgrown=>exact he.elim
 |panic ch=>
  obtain⟨C',st',rho',v,x,rfl,hG',hs',hsz',hv,outs,objs',h2,h4,h5⟩:=he
  have:∀(ds:List Deferred) (a2:Act) (w2:World),a2.defers=ds->a2.tmps=a'.tmps->Sat C' st' a2 w2 rho' -> RepP w2 (PiS C' st' rho') v x ->
   LeavesInM Fence.wide 0 P fn a'.tmps (fun e w'=>∃C' r objs' ks rho', 𝒢.G C' /\ Q r objs' ks/\SatE C' (objRegs objs') w' rho' /\
    AB5 w' (Prv C'.X (A2 (objRegs objs')) rho') (Lv (A2 (objRegs objs'))) rho' e r/\∀i:Nat,ks[i]? = some true->i<objs'.length/\rho' i=rho i) ds (.panicking [{ v,recovered:=false }]) w2:=by
   intro ds
   induction ds with
   |nil=>intro a2 w2 hd ht hs2 hv2;obtain⟨g1,g2,g3⟩:=Lk hs2 h2 h4;exact⟨C', .panic x,objs',_,_,hG'.1,h5,g1,⟨v,rfl,hv2.keeps g2⟩,hkept hG'.2 hs2 h4⟩
   |cons d ds ih=>
    intro a2 w2 hd ht hs2 hv2;obtain⟨r,w3,h6,h7,h8⟩:=hs2.unmark (P:=P) hd;refine⟨by simp,.inl ⟨r,w3,h6,h7,ih { a2 with defers:=ds } w3 rfl ht h8 ?_⟩⟩;obtain⟨r',h9,_,h10,_⟩:=hs2.marks.2 d (by rw[hd];simp);have e6:r=r':=by rw[h9]at h6;cases h6;rfl
    subst e6;have hw3:w3=w2.putObj r (.deferred none):=by rw[run_takeDeferred h10]at h7;cases h7;rfl
    subst hw3;refine hv2.keeps fun b o u hp hc=>⟨?_,hp⟩;rw[<- hc];refine AW1 (AX2 ?_);rintro rfl;simp[World.cell?,h10]at hc
  exact this a'.defers a' w' rfl rfl hs' hv
end
end Go.AM
