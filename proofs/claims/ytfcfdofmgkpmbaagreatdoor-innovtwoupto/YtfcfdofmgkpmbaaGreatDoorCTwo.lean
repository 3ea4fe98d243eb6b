/- What a law's walk and its plain proof need, part 12: no condition of its own. -/
import Derived.Test.YtfcfdofmgkpmbaaGreatDoorNG
import Derived.Test.YtfcfdofmgkpmbaaGreatDoorNF
import Derived.Test.YtfcfdofmgkpmbaaGreatDoorNI
import Derived.Lay
set_option linter.defProp false
set_option linter.unusedSimpArgs false
set_option linter.unusedVariables false
set_option linter.unusedSectionVars false
namespace Go.AM
def AK3:=@Int.toNat_natCast
def AN0:=@Bool.eq_iff_iff
def AN6:=@List.range_succ
def AO8:=@BitVec.getLsbD_and
def AP4:=@BitVec.eq_of_toNat_eq
def AP8:=@BitVec.eq_of_getLsbD_eq
def AQ3:=@Go.Proofs.Tryz.underlying5
def AR6:=@List.map_append
def AU0:=@Bool.not_eq_true
def AU3:=@Go.Proofs.Tryz.underlying4
def AU6:=@Nat.pow_le_pow_right
def AV5:=@Bool.or_eq_false_iff
def AV8:=@List.any_eq_false
def AW4:=@BitVec.toNat_shiftLeft
def AX3:=@Bool.eq_false_iff
def AX8:=@Go.Claim7.holds_tied_plain_at
def AY0:=@Nat.shiftRight_eq_div_pow
def AY6:=@BitVec.toNat_ushiftRight
def AY9:=@List.filter_append
def AZ1:=@Bool.and_comm
def AZ3:=@BitVec.getLsbD_not
def Ba0:=@Go.OpenSpec.preRow_of_cond
def Ba3:=@Go.OpenClaim.holds_of_cond
def Ba6:=@Go.OpenClaim.pre_eq_preRow
def Bb3:=@Classical.not_not
def Bb7:=@Nat.shiftLeft_eq
def Bc4:=@Nat.testBit_two_pow_sub_one
def Bc6:=@List.filter_nil
def Bd2:=@Int.fdiv_eq_ediv_of_nonneg
def Bd4:=@BitVec.getLsbD_ushiftRight
def Bd7:=@BitVec.toNat_ofInt
def Bd9:=@BitVec.getLsbD_one
def Be3:=@Go.Proofs.Tryz.underlying44
def Be8:=@List.filter_cons_of_pos
def Bf0:=@List.filter_cons_of_neg
def Bf2:=@BitVec.getLsbD_setWidth
def Bf5:=@Nat.add_sub_cancel_left
def Bf8:=@Nat.min_eq_right
def Bg4:=@List.mem_toArray
def Bg7:=@List.not_mem_nil
def Bh3:=@BitVec.getLsbD_ofBool
def Bh7:=@List.mem_append
def Bi4:=@Nat.pow_lt_pow_right
def Bi6:=@BitVec.getLsbD_ofNat
def Bi8:=@List.pairwise_append
def Bj2:=@Nat.mul_le_mul
def Bj7:=@Int.toNat_of_nonneg
def Bk2:=@Int.natCast_nonneg
def Bk4:=@Int.add_emod_right
def Bk6:=@List.filter_filter
def Bl1:=@Go.Proofs.Tryz.params13
def Bm0:=@Go.Proofs.Tryz.func13
namespace Sl
variable {α : Type}
end Sl
section
variable {R:Type}
variable {A B C D E F G H:Type}
theorem Bw {N:Nat}{body:(A->Option R)->A->Option R}{a:A}:Y1 (N+1) body a=body (Y1 N body) a:=rfl
end
section
variable {R X Y:Type}{r:R}
end
section
variable {S:Q8}{P:Program}{F:I2}{K:List It}{st:St}
end
section
variable {regs:D1}{ids:List (Nat×Nat)}
variable {env r:Env}{t:Nat}{a b:AV}{x y:PV}
end
end Go.AM
namespace Go.AM
section
variable {S:Q8}{P:Program}{F:I2}{K:List It}{st:St}
end
section
variable {regs:D1}{ids:List (Nat×Nat)}
end
end Go.AM
namespace Go.AM
section
variable {R T A B C D:Type}
end
section
variable {S:Q8}{P:Program}{F:I2}{K:List It}{st:St}
end
end Go.AM
namespace Go.AM
section
variable {S:Q8}{P:Program}{all:List Oper}{k:Env->D1->Prop}
end
end Go.AM
namespace Go.AM
open Go.RowKit Go.ChangeShapes Go.Deep
section
variable {P:Program}{t e:TypeId}{m:Nat}{pvs:List PV}
def FN (f:Nat->Nat):Nat->Nat
 |0=>0
 |k+1=>FN f k+f k
theorem La {f g:Nat->Nat}:∀{n:Nat},(∀i,i<n->f i<=g i)->FN f n<=FN g n
 |0,_=>AK6 _
 |n+1,h=>by have h1:=La (n:=n) fun i a=>h i (by omega);have b:=h n (by omega);simp only[FN];omega
theorem QU (f:Nat->Nat):∀n,Oz ((List.range n).map f)=FN f n:=by
 have app:∀a b:List Nat,Oz (a++b)=Oz a+Oz b:=by
  intro a b
  induction a with
  |nil=>simp[Oz]
  |cons x r ih=>simp only[AN4,Mp,ih];omega
 intro n
 induction n with
 |zero=>rfl
 |succ n ih=>rw[AN6,AR6,app,ih];simp[FN,Oz]
theorem OK {T:Type}[Inhabited T]{c:T->List PV}{W:T->Prop}{sz:T->Nat}{k:Nat}(ht:P.underlying t=some (.slice e))(hk:P.cellsOf e=k)(h:LF P e c W sz) :LF P t (cL k c) (fun s=>∀i,i<s.n->W (s.g i)) (fun s=>FN (fun i=>sz (s.g i)) s.n+1):=by
 intro m pvs hs;cases hs with
 |int ht'=>rw[ht]at ht';cases ht'
 |bool ht'=>rw[ht]at ht';cases ht'
 |str ht'=>rw[ht]at ht';cases ht'
 |arr ht'=>rw[ht]at ht';cases ht'
 |struct ht'=>rw[ht]at ht';cases ht'
 | @slice _ _ e' n f ms ht' hl hel hm=>
  rw[ht]at ht';cases ht';obtain⟨g,b⟩:=choose_lt (α:=T) (p:=fun i x=>LeDs (f i) (c x)/\W x/\sz x<=ms i) fun i a=>h _ _ (hel i a);refine⟨⟨n,g⟩,?_,fun i a=>(b i a).2.1,?_⟩
  .subst hk;exact .cons (.sl fun i a=>(b i a).1) .nil
  have h1:=La (n:=n) fun i a=>(b i a).2.2;rw[QU]at hm;show FN (fun i=>sz (g i)) n+1<=m;omega
end
end Go.AM
namespace Go.AM
open Go.Proofs
abbrev EE:Nat:=13
def Ih:AJ8[EE]? = some Tryz.f13:=Bm0
abbrev Ek:Nat:=37
abbrev PI:Nat:=44
abbrev Q3:Nat:=51
abbrev Gx:Nat:=52
abbrev Z4:Nat:=53
abbrev Fl:Nat:=96
abbrev Hc:Nat:=131
end Go.AM
namespace Go.AM
open IntKind (wrap)
def El {n:Nat}(h:n<2 ^ 64):IntKind.u64.wrap (n:Int)=n:=by have h1:((n:Int) % (2 ^ 64:Int))=n:=AS0 (by omega) (by omega);unfold wrap;simp only[IntKind.bits,IntKind.signed,h1,AV2,AK8,Cj]
def PJ (x:BitVec 64):BitVec.ofInt 64 (U x)=x:=by
 apply AP4;rw[Bd7]
 have:=x.isLt
 show ((x.toNat:Int) % ((2 ^ 64:Nat):Int)).toNat=x.toNat;omega
def Mf (x y:BitVec 64):E3 .and .u64 (U x) (U y)=U (x &&& y):=by simp only[E3,IntKind.bits,PJ];exact El (x &&& y).isLt
def DH (x y:BitVec 64):E3 .andNot .u64 (U x) (U y)=U (x &&& ~~~ y):=by simp only[E3,IntKind.bits,PJ];exact El (x &&& ~~~ y).isLt
def shr64 (x:BitVec 64)(n:Nat):shI .shr .u64 (U x) n=U (x >>> n):=by
 simp only[shI,IntKind.bits,AK3];have hx:=x.isLt;show Int.fdiv (x.toNat:Int) (2 ^ min n 64)=((x >>> n).toNat:Int);rw[AY6,AY0];have e:((2:Int) ^ (min n 64))=((2 ^ (min n 64):Nat):Int):=by norm_cast
 rw[e,Bd2 _ (Bk2 _),<- Int.natCast_ediv];congr 1;by_cases h:n<=64
 .rw[AS8 h]
 rw[Bf8 (by omega),AT7 hx,AT7];exact AM6 hx (AU6 (by omega) (by omega))
def one64:(1:Int)=U 1#64:=rfl
def Aj2 (n:Nat)(h:n<64):shI .shl .u64 1 n=U (1#64 <<< n):=by
 simp only[shI,IntKind.bits,AK3];rw[AS8 (by omega)];show wrap .u64 (1*2 ^ n)=((1#64 <<< n).toNat:Int);rw[AW4,Bb7];have h1:(2:Nat) ^ n<2 ^ 64:=Bi4 (by omega) h;have e:((1:Int)*2 ^ n)=((2 ^ n:Nat):Int):=by norm_cast;omega
 rw[e,El h1]
 norm_cast
 rw[AQ9]
 .simp
 simpa using h1
def Yk {i:Nat}:(1#64).getLsbD i=decide (i=0):=by rw[Bd9];simp
def AD7 (x:BitVec 64)(i:Nat):(E3 .and .u64 (shI .shr .u64 (U x) (i:Int)) 1==1)=x.getLsbD i:=by
 rw[shr64,one64,Mf];have h:(x >>> i &&& 1#64)=(BitVec.ofBool (x.getLsbD i)).setWidth 64:=by
  apply AP8;intro j b;simp only[AO8,Bd4,Bf2,Bh3];by_cases a:j=0
  .subst a;simp
  have:(1#64).getLsbD j=false:=by rw[Yk];simp[a]
  simp[this,a]
 rw[h];cases x.getLsbD i<;>rfl
def Vb {x y:BitVec 64}(h:∀b,b<64->(x.getLsbD b=true↔y.getLsbD b=true)):x=y:=
 AP8 fun b hb=>AN0.2 (h b hb)
end Go.AM
namespace Go.AM
open Go.Proofs
set_option maxRecDepth 10000
set_option maxHeartbeats 2000000
variable {S:Q8}(hS:H1 S Tryz.prog) (hL:GL S)
include hS hL
def I5 (N:Nat)(a:A3)(b:Int)(c:Int):Option (Bool×Int):= (F2 N a).bind fun y1=>if (y1 != 0) then some (false,y1) else if ((((decide (b<0))||(decide (c<0)))||(decide ((a.Has.n:Int)<=b)))||(decide ((a.Has.n:Int)<=c))) then some (false,3) else if (((0:Int)<=b/\b<(a.Has.n:Int))/\((0:Int)<=c/\c<(a.Has.n:Int)))then (V4 N (a.Has.g b.toNat) (a.Has.g c.toNat)).bind fun y2=>some (y2,0) else none
theorem Em {N:Nat}{b:A3}{c:Int}{d:Int}{y:Bool×Int}(h:I5 N b c d=some y) :FunO S Ek [.p (.agg (E5 b)),pN c,pN d] [] (.tup [pB y.1,pN y.2]) ([]) []:=by
 unfold I5 at h;refine A6 hS Tryz.func37 ?_;refine J3 hS Df 6 4000 [pI .i64 b.Langs,vSl 1 (cI .u64) b.Has] ?_;obtain⟨y1,e1,h⟩:=B8 h;refine C0 hS [] (by decide:(2:Nat)<=2) (P9 hS hL e1) ?_;apply kI hS h<;>intro h
 .cases h;exact kR hS
 refine kB hS (A5 hS) Df Df 17 (.o (.o (.o (.a (decide (c<0))) (.a (decide (d<0)))) (.a (decide ((b.Has.n:Int)<=c)))) (.a (decide ((b.Has.n:Int)<=d)))) ?_;apply kI hS h<;>intro h
 .cases h;exact kR hS
 refine G9 hS Df [1,3,4,6,8,9,10] ?_;obtain⟨c3,h⟩:=E8 h;obtain⟨y2,e2,h⟩:=B8 h;refine V7 c3 (MS hS hL e2) ?_;refine O0 Df ?_;cases h;exact kR hS
end Go.AM
namespace Go.AM
open IntKind (wrap)
open Go.Proofs
set_option maxRecDepth 10000
set_option maxHeartbeats 2000000
variable {S:Q8}(hS:H1 S Tryz.prog) (hL:GL S)
include hS hL
def Kq (N:Nat)(b:Int)(a:Sl Int):Option A3:= if ((0:Int)<=(if 64<(a.n:Int)then 64 else (a.n:Int))/\(if 64<(a.n:Int)then 64 else (a.n:Int))<=(a.n:Int))then BC N (fun c (x1:Sl Int) (x2:Int)=>if (decide (x2<((a.take (if 64<(a.n:Int)then 64 else (a.n:Int)).toNat).n:Int))) then if ((0:Int)<=x2/\x2<((a.take (if 64<(a.n:Int)then 64 else (a.n:Int)).toNat).n:Int))then if (0:Int)<=((wrap .i64 b).tmod 33)then if ((x1.n+(Sl.of [E3 .and .u64 ((a.take (if 64<(a.n:Int)then 64 else (a.n:Int)).toNat).g x2.toNat) (wrap .u64 ((shI .shl .u64 1 ((wrap .i64 b).tmod 33))-1))]:Sl Int).n)*8<=140737488355328/\x1.n+(Sl.of [E3 .and .u64 ((a.take (if 64<(a.n:Int)then 64 else (a.n:Int)).toNat).g x2.toNat) (wrap .u64 ((shI .shl .u64 1 ((wrap .i64 b).tmod 33))-1))]:Sl Int).n<=140737488355328)then c (x1.push (E3 .and .u64 ((a.take (if 64<(a.n:Int)then 64 else (a.n:Int)).toNat).g x2.toNat) (wrap .u64 ((shI .shl .u64 1 ((wrap .i64 b).tmod 33))-1)))) (wrap .i64 (x2+1)) else none else none else none else some (⟨(wrap .i64 b).tmod 33,x1⟩:A3)) (Sl.nil:Sl Int) 0 else none
end Go.AM
namespace Go.AM
variable {N:Nat}
open IntKind (wrap)
open Go.Proofs
set_option maxRecDepth 10000
set_option maxHeartbeats 2000000
variable {S:Q8}(hS:H1 S Tryz.prog) (hL:GL S)
include hS hL
def Z5 (N:Nat)(p_x:Int):Option Bool:= some (p_x != p_x)
theorem Hd {p_x:Int}{y:Bool}(h:Z5 N p_x=some y) :FunO S Hc [pN p_x] [] (pB y) ([]) []:=by unfold Z5 at h;refine A6 hS Tryz.func131 ?_;cases h;exact kR hS
def T9 (N:Nat)(p_x:Int)(a:Int):Option Int:= (Z5 N p_x).bind fun y1=>(Z5 N a).bind fun y2=>if y1 then if y2 then some 0 else some (-1) else if y2 then some 1 else if (decide (p_x<a)) then some (-1) else if (decide (a<p_x)) then some 1 else some 0
theorem Kr {p_x:Int}{a:Int}{y:Int}(h:T9 N p_x a=some y) :FunO S Fl [pN p_x,pN a] [] (pN y) ([]) []:=by
 unfold T9 at h;refine A6 hS Tryz.func96 ?_;refine kC hS h (Hd hS hL) (fun y1 h=>?_);refine kC hS h (Hd hS hL) (fun y2 h=>?_);apply kI hS h<;>intro h
 .apply kI hS h<;>intro h
  .cases h;exact kR hS
  cases h;exact kR hS
 apply kI hS h<;>intro h
 .cases h;exact kR hS
 apply kI hS h<;>intro h
 .cases h;exact kR hS
 apply kI hS h<;>intro h
 .cases h;exact kR hS
 cases h;exact kR hS
def J8 (N:Nat)(a:Sl Int)(b:Sl Int):Option Int:= Y1 N (fun c (x1:Int)=>if (decide (x1<(a.n:Int))) then if ((0:Int)<=x1/\x1<(a.n:Int))then if (decide ((b.n:Int)<=x1)) then some 1 else if ((0:Int)<=x1/\x1<(b.n:Int))then (T9 N (a.g x1.toNat) (b.g x1.toNat)).bind fun y3=>if (y3 != 0) then some y3 else c (wrap .i64 (x1+1)) else none else none else if (decide ((a.n:Int)<(b.n:Int))) then some (-1) else some 0) 0
theorem DI {a:Sl Int}{c:Sl Int}{y:Int}(h:J8 N a c=some y) :FunO S Z4 [.p (vSl 1 (cI .i64) a),.p (vSl 1 (cI .i64) c)] [] (pN y) ([]) []:=by
 unfold J8 at h;refine A6 hS Tryz.func53 ?_;refine N4 hS Df h (fun x1=>⟨[(11,pN x1),(10,pN (a.n:Int)),(9,.p (vSl 1 (cI .i64) a)),(1,.p (vSl 1 (cI .i64) c)),(0,.p (vSl 1 (cI .i64) a))],[]⟩) (ids:=[]) (fun _ _ _ _ _ d x1 f h=>?_);apply kI hS h<;>intro h
 .obtain⟨c12,h⟩:=E8 h;refine D9 hS c12 (b:=decide ((c.n:Int)<=x1)) (fun c13=>?_) (fun c13=>?_)
  .replace h:=itT c13 h;cases h;exact kR hS
  replace h:=itF c13 h;obtain⟨c14,h⟩:=E8 h;obtain⟨y3,e3,h⟩:=B8 h;refine C0 hS [] c14 (Kr hS hL e3) ?_;apply kI hS h<;>intro h
  .cases h;exact kR hS
  exact f _ [] _ (wrap .i64 (x1+1)) Df h
 apply kI hS h<;>intro h
 .cases h;exact kR hS
 cases h;exact kR hS
end Go.AM
namespace Go.AM
variable {N:Nat}
open IntKind (wrap)
open Go.Proofs
set_option maxRecDepth 10000
set_option maxHeartbeats 2000000
variable {S:Q8}(hS:H1 S Tryz.prog) (hL:GL S)
include hS hL
def C6 (N:Nat)(p_x:Sl C4)(a:C4->C4->Option Int):Option Bool:= Y1 N (fun b (x1:Int)=>if (decide (0<x1)) then if (((0:Int)<=x1/\x1<(p_x.n:Int))/\((0:Int)<=(wrap .i64 (x1-1))/\(wrap .i64 (x1-1))<(p_x.n:Int)))then (a (p_x.g x1.toNat) (p_x.g (wrap .i64 (x1-1)).toNat)).bind fun y3=>if (decide (y3<0)) then some false else b (wrap .i64 (x1-1)) else none else some true) (wrap .i64 ((p_x.n:Int)-1))
theorem AG {p_x:Sl C4}{a:C4->C4->Option Int}{kp_cmp:Nat}(c:∀{a0:C4}{a1:C4}{b:Int},a a0 a1=some b->FunO S kp_cmp [.p (.agg (H3 a0)),.p (.agg (H3 a1))] [] (pN b) [] []){y:Bool}(h:C6 N p_x a=some y) :FunO S Q3 [.p (vSl 2 H3 p_x),.clo kp_cmp [] []] [] (pB y) ([]) []:=by
 unfold C6 at h;refine A6 hS Tryz.func51 ?_;refine N4 hS Df h (fun x1=>⟨[(5,pN x1),(1,.clo kp_cmp [] []),(0,.p (vSl 2 H3 p_x))],[]⟩) (ids:=[]) (fun _ _ _ _ _ d x1 f h=>?_);apply kI hS h<;>intro h
 .refine G9 hS Df [3,4,8,9,10] ?_;obtain⟨c8,h⟩:=E8 h;obtain⟨y3,e3,h⟩:=B8 h;refine V7 (And.intro (And.intro (And.intro c8.1 (by decide:(2:Nat)<=2)) c8.2) (by decide:(2:Nat)<=2)) (c e3) ?_;refine O0 Df ?_;apply kI hS h<;>intro h
  .cases h;exact kR hS
  exact f _ [] _ (wrap .i64 (x1-1)) Df h
 cases h;exact kR hS
def O6 (N:Nat)(p_x:C4)(a:C4):Option Int:= (J8 N (Sl.of [p_x.a0,p_x.a1]:Sl Int) (Sl.of [a.a0,a.a1]:Sl Int)).bind fun y1=>some y1
theorem LN {p_x:C4}{a:C4}{y:Int}(h:O6 N p_x a=some y) :FunO S Gx [.p (.agg (H3 p_x)),.p (.agg (H3 a))] [] (pN y) ([]) []:=by unfold O6 at h;refine A6 hS Tryz.func52 ?_;refine J3 hS Df 3 3000 [pI .i64 p_x.a0,pI .i64 p_x.a1] ?_;refine J3 hS Df 4 4000 [pI .i64 a.a0,pI .i64 a.a1] ?_;refine G9 hS Df [2] ?_;obtain⟨y1,e1,h⟩:=B8 h;refine V7 Df (FunO.le hS (args:=[.p (.sl true 1 2 (fun i=>[([pI .i64 p_x.a0,pI .i64 p_x.a1]:List PV).getD i default])),.p (.sl true 1 2 (fun i=>[([pI .i64 a.a0,pI .i64 a.a1]:List PV).getD i default]))]) (by exact⟨WC rfl (fun i b=>match i,b with|0,_=>rfl|1,_=>rfl|_+2,b=>Bc b (by omega)),⟨WC rfl (fun i b=>match i,b with|0,_=>rfl|1,_=>rfl|_+2,b=>Bc b (by omega)),trivial⟩⟩) (DI hS hL e1)) ?_;refine O0 Df ?_;cases h;exact kR hS
def FO (N:Nat)(b:Int)(a:Sl Int):Option A3:= if ((0:Int)<=(if 64<(a.n:Int)then 64 else (a.n:Int))/\(if 64<(a.n:Int)then 64 else (a.n:Int))<=(a.n:Int))then BC N (fun c (x1:Sl Int) (x2:Int)=>if (decide (x2<((a.take (if 64<(a.n:Int)then 64 else (a.n:Int)).toNat).n:Int))) then if ((0:Int)<=x2/\x2<((a.take (if 64<(a.n:Int)then 64 else (a.n:Int)).toNat).n:Int))then if (0:Int)<=((wrap .i64 b).tmod 33)then if ((x1.n+(Sl.of [E3 .and .u64 ((a.take (if 64<(a.n:Int)then 64 else (a.n:Int)).toNat).g x2.toNat) (wrap .u64 ((shI .shl .u64 1 ((wrap .i64 b).tmod 33))-1))]:Sl Int).n)*8<=140737488355328/\x1.n+(Sl.of [E3 .and .u64 ((a.take (if 64<(a.n:Int)then 64 else (a.n:Int)).toNat).g x2.toNat) (wrap .u64 ((shI .shl .u64 1 ((wrap .i64 b).tmod 33))-1))]:Sl Int).n<=140737488355328)then c (x1.push (E3 .and .u64 ((a.take (if 64<(a.n:Int)then 64 else (a.n:Int)).toNat).g x2.toNat) (wrap .u64 ((shI .shl .u64 1 ((wrap .i64 b).tmod 33))-1)))) (wrap .i64 (x2+1)) else none else none else none else some (⟨(wrap .i64 b).tmod 33,x1⟩:A3)) (Sl.nil:Sl Int) 0 else none
theorem Vc {a:Int}{b:Sl Int}{y:A3}(h:FO N a b=some y) :FunO S PI [.p (pI .u8 a),.p (vSl 1 (cI .u64) b)] [] (.agr [pN y.Langs,.vec 0]) ([.vec P8 1 y.Has.n (fun i=>cI .u64 (y.Has.g i)) false]) []:=by
 unfold FO at h;refine A6 hS Tryz.func44 ?_;obtain⟨c1,h⟩:=E8 h;refine I8 hS (And.intro (by decide:(33:Int)≠0) c1) h (fun x1 x2=>⟨[(18,pN x2),(17,pN ((b.take (if 64<(b.n:Int)then 64 else (b.n:Int)).toNat).n:Int)),(16,.p (vSl 1 (cI .u64) (b.take (if 64<(b.n:Int)then 64 else (b.n:Int)).toNat))),(5,.reg 6000 0),(4,.reg 5000 0)],[(6500,.vec P8 1 x1.n (fun i=>cI .u64 (x1.g i)) false),(6000,.cells [pN ((wrap .i64 a).tmod 33),.vec 6500]),(5000,.cells [pN 0,.p G1])]⟩) (ids:=[(5000,5000),(6000,6000)]) (fun _ _ _ _ _ d x1 x2 f h=>?_);apply kI hS h<;>intro h
 .obtain⟨c11,h⟩:=E8 h;refine FP hS c11 ?_;obtain⟨c12,h⟩:=E8 h;refine W9 c12 (x:=.sl true 1 1 (D3 [pI .u64 0] [(0,cI .u64 (E3 .and .u64 ((b.take (if 64<(b.n:Int)then 64 else (b.n:Int)).toNat).g x2.toNat) (wrap .u64 ((shI .shl .u64 1 ((wrap .i64 a).tmod 33))-1))))])) ?_;obtain⟨c13,h⟩:=E8 h;refine O0 c13 ?_;exact f _ [(5000,5000),(6000,6000),(6500,32000)] _ (x1.push (E3 .and .u64 ((b.take (if 64<(b.n:Int)then 64 else (b.n:Int)).toNat).g x2.toNat) (wrap .u64 ((shI .shl .u64 1 ((wrap .i64 a).tmod 33))-1)))) (wrap .i64 (x2+1)) Df h (hle:=klR [(3,.fn (x1.n+1) (x1.push (E3 .and .u64 ((b.take (if 64<(b.n:Int)then 64 else (b.n:Int)).toNat).g x2.toNat) (wrap .u64 ((shI .shl .u64 1 ((wrap .i64 a).tmod 33))-1)))).n (AP x1.n (fun i=>cI .u64 (x1.g i)) (D3 [pI .u64 0] [(0,cI .u64 (E3 .and .u64 ((b.take (if 64<(b.n:Int)then 64 else (b.n:Int)).toNat).g x2.toNat) (wrap .u64 ((shI .shl .u64 1 ((wrap .i64 a).tmod 33))-1))))])) (fun i=>cI .u64 ((x1.push (E3 .and .u64 ((b.take (if 64<(b.n:Int)then 64 else (b.n:Int)).toNat).g x2.toNat) (wrap .u64 ((shI .shl .u64 1 ((wrap .i64 a).tmod 33))-1)))).g i)))] (al1 ⟨rfl,LI (c:=cI .u64) (v:=x1) (x:=E3 .and .u64 ((b.take (if 64<(b.n:Int)then 64 else (b.n:Int)).toNat).g x2.toNat) (wrap .u64 ((shI .shl .u64 1 ((wrap .i64 a).tmod 33))-1))) (z:=[(pI .u64 0)]) same rfl rfl⟩ al0))
 obtain rfl:=C7 h;exact B3 hS Df ⟨[(4,.reg 5000 0)],[(6500,.vec P8 1 x1.n (fun i=>cI .u64 (x1.g i)) false),(5000,.cells [pN ((wrap .i64 a).tmod 33),.vec 6500])]⟩ [6500] (ids:=[(5000,5000),(6500,6500)]) ⟨rfl,rfl,rfl⟩
def Cm (N:Nat)(c:Int)(q:Sl Int):Option Bool:= (FO N c q).bind fun y1=>lt (fun (z1:Sl Int)=>if (0:Int)<=y1.Langs then if ((z1.n+(Sl.of [0,wrap .u64 ((shI .shl .u64 1 y1.Langs)-1)]:Sl Int).n)*8<=140737488355328/\z1.n+(Sl.of [0,wrap .u64 ((shI .shl .u64 1 y1.Langs)-1)]:Sl Int).n<=140737488355328)then (G6 N (⟨y1.Langs,z1.app (Sl.of [0,wrap .u64 ((shI .shl .u64 1 y1.Langs)-1)]:Sl Int)⟩:A3)).bind fun y2=>lt (fun (z2:Bool)=>if z2 then some false else BC N (fun i (x5:Int) (x6:Int)=>if (decide (x6<((z1.app (Sl.of [0,wrap .u64 ((shI .shl .u64 1 y1.Langs)-1)]:Sl Int)).n:Int))) then if ((0:Int)<=x6/\x6<((z1.app (Sl.of [0,wrap .u64 ((shI .shl .u64 1 y1.Langs)-1)]:Sl Int)).n:Int))then BC N (fun d (x9:Int) (a:Int)=>if (decide (a<((z1.app (Sl.of [0,wrap .u64 ((shI .shl .u64 1 y1.Langs)-1)]:Sl Int)).n:Int))) then if ((0:Int)<=a/\a<((z1.app (Sl.of [0,wrap .u64 ((shI .shl .u64 1 y1.Langs)-1)]:Sl Int)).n:Int))then (I5 N (⟨y1.Langs,z1.app (Sl.of [0,wrap .u64 ((shI .shl .u64 1 y1.Langs)-1)]:Sl Int)⟩:A3) x6 a).bind fun f=>(I5 N (⟨y1.Langs,z1.app (Sl.of [0,wrap .u64 ((shI .shl .u64 1 y1.Langs)-1)]:Sl Int)⟩:A3) a x6).bind fun l=>if (((((f.2 != 0)||(l.2 != 0))||((f.1==l.1) != true))||((f.1==((((E3 .and .u64 ((z1.app (Sl.of [0,wrap .u64 ((shI .shl .u64 1 y1.Langs)-1)]:Sl Int)).g x6.toNat) ((z1.app (Sl.of [0,wrap .u64 ((shI .shl .u64 1 y1.Langs)-1)]:Sl Int)).g a.toNat))==0)||((E3 .and .u64 ((z1.app (Sl.of [0,wrap .u64 ((shI .shl .u64 1 y1.Langs)-1)]:Sl Int)).g x6.toNat) ((z1.app (Sl.of [0,wrap .u64 ((shI .shl .u64 1 y1.Langs)-1)]:Sl Int)).g a.toNat))==((z1.app (Sl.of [0,wrap .u64 ((shI .shl .u64 1 y1.Langs)-1)]:Sl Int)).g x6.toNat)))||((E3 .and .u64 ((z1.app (Sl.of [0,wrap .u64 ((shI .shl .u64 1 y1.Langs)-1)]:Sl Int)).g x6.toNat) ((z1.app (Sl.of [0,wrap .u64 ((shI .shl .u64 1 y1.Langs)-1)]:Sl Int)).g a.toNat))==((z1.app (Sl.of [0,wrap .u64 ((shI .shl .u64 1 y1.Langs)-1)]:Sl Int)).g a.toNat)))) != true))||((!f.1)&&(((decide ((z1.n:Int)<=x6))||(decide ((z1.n:Int)<=a)))||(x6==a)))) then some false else if ((decide (x6<a))&&(!f.1)) then if ((decide ((y2.1.n:Int)<=x9))=false->((0:Int)<=x9/\x9<(y2.1.n:Int)))then if ((decide ((y2.1.n:Int)<=x9))||((((y2.1.g x9.toNat).a0==x6)&&((y2.1.g x9.toNat).a1==a)) != true)) then some false else d (wrap .i64 (x9+1)) (wrap .i64 (a+1)) else none else d x9 (wrap .i64 (a+1)) else none else i x9 (wrap .i64 (x6+1))) x5 0 else none else Y1 N (fun j (b:Int)=>if (decide (b<y1.Langs)) then if y1.Langs≠0 then (N3 N (⟨y1.Langs,z1.app (Sl.of [0,wrap .u64 ((shI .shl .u64 1 y1.Langs)-1)]:Sl Int)⟩:A3) b ((wrap .i64 ((wrap .i64 (b*7))+(z1.n:Int))).tmod y1.Langs)).bind fun m=>(N3 N (⟨y1.Langs,z1.app (Sl.of [0,wrap .u64 ((shI .shl .u64 1 y1.Langs)-1)]:Sl Int)⟩:A3) ((wrap .i64 ((wrap .i64 (b*7))+(z1.n:Int))).tmod y1.Langs) b).bind fun o=>if (((m.2 != 0)||(o.2 != 0))||(m.1 != o.1)) then some false else j (wrap .i64 (b+1)) else none else lt (fun (z3:Bool)=>some z3) fun k3=>if (x5==(y2.1.n:Int)) then (D0 N ).bind fun r=>k3 r else k3 false) 0) 0 0) fun k2=>if (y2.2 != 0) then k2 true else (C6 N y2.1 (fun (u3:C4) (u4:C4)=>O6 N u3 u4)).bind fun y4=>k2 (!y4) else none else none) fun k1=>if (decide (62<(y1.Has.n:Int))) then if ((0:Int)<=62/\62<=(y1.Has.n:Int))then k1 (y1.Has.take 62) else none else k1 y1.Has
theorem OL {j:Int}{u:Sl Int}{y:Bool}(h:Cm N j u=some y) :FunO S EE [.p (pI .u8 j),.p (vSl 1 (cI .u64) u)] [] (pB y) ([]) []:=by
 unfold Cm at h;refine A6 hS Ih ?_;refine kC hS h (Vc hS hL) (fun y1 h=>?_);refine Ef hS Df (A5 hS) h 0 (fun z1=>⟨[(5,.reg 6000 0)],[(6500,.vec P8 1 z1.n (fun i=>cI .u64 (z1.g i)) false),(6000,.cells [pN y1.Langs,.vec 6500])]⟩) (fun M1 k1 z h=>?_) (fun z1 h=>?_)
 .apply kI hS h<;>intro h
  .obtain⟨c5,h⟩:=E8 h;refine Ar1 hS c5 35 28000 62 28007 (e:=P8) (k:=1) (N:=y1.Has.n) (f:=fun i=>cI .u64 (y1.Has.g i)) (by have hq:=c5;omega) ?_;exact z _ [(6000,6000),(6500,28007)] _ (y1.Has.take 62) Df h
  exact z _ [(6000,6000),(6500,28000)] _ y1.Has Df h
 refine FP hS Df ?_;obtain⟨c6,h⟩:=E8 h;refine W9 c6 (x:=.sl true 1 2 (D3 [pI .u64 0] [(0,cI .u64 0),(1,cI .u64 (wrap .u64 ((shI .shl .u64 1 y1.Langs)-1)))])) ?_;obtain⟨c7,h⟩:=E8 h;refine O0 c7 ?_;refine I7 hS Df 49 ⟨[(6,pN (z1.n:Int)),(5,.reg 6000 0)],[(6000,.cells [pN y1.Langs,.p (vSl 1 (cI .u64) (z1.app (Sl.of [0,wrap .u64 ((shI .shl .u64 1 y1.Langs)-1)]:Sl Int)))])]⟩ (ids:=[(6000,6000)]) ?_ (hle:=klR [(2,.fn (z1.n+2) (z1.app (Sl.of [0,wrap .u64 ((shI .shl .u64 1 y1.Langs)-1)]:Sl Int)).n (AP z1.n (fun i=>cI .u64 (z1.g i)) (D3 [pI .u64 0] [(0,cI .u64 0),(1,cI .u64 (wrap .u64 ((shI .shl .u64 1 y1.Langs)-1)))])) (fun i=>cI .u64 ((z1.app (Sl.of [0,wrap .u64 ((shI .shl .u64 1 y1.Langs)-1)]:Sl Int)).g i)))] (al1 ⟨rfl,Au3 (c:=cI .u64) (v:=z1) (w:=(Sl.of [0,wrap .u64 ((shI .shl .u64 1 y1.Langs)-1)]:Sl Int)) same rfl (fun i hi=>match i,hi with|0,_=>rfl|1,_=>rfl|_+2,hi=>Bc hi (by omega)) rfl⟩ al0));refine kC hS h (Cd hS hL) (fun y2 h=>?_);refine Ef hS Df (A5 hS) h 0 (fun z2=>⟨[(59,pB z2),(7,.p (vSl 2 H3 y2.1)),(6,pN (z1.n:Int)),(5,.reg 6000 0)],[(6000,.cells [pN y1.Langs,.p (vSl 1 (cI .u64) (z1.app (Sl.of [0,wrap .u64 ((shI .shl .u64 1 y1.Langs)-1)]:Sl Int)))])]⟩) (fun M2 k2 a2 h=>?_) (fun z2 h=>?_)
 .refine kG hS h (fun h=>?_) (fun h=>?_)
  .exact a2 _ [(6000,6000)] _ true Df h
  refine kC hS h (AG hS hL (fun e=>LN hS hL e)) (fun y4 h=>?_);exact a2 _ [(6000,6000)] _ (!y4) Df h
 apply kI hS h<;>intro h
 .cases h;exact kR hS
 refine I8 hS Df h (fun x5 x6=>⟨[(63,pN x6),(62,pN ((z1.app (Sl.of [0,wrap .u64 ((shI .shl .u64 1 y1.Langs)-1)]:Sl Int)).n:Int)),(61,.p (vSl 1 (cI .u64) (z1.app (Sl.of [0,wrap .u64 ((shI .shl .u64 1 y1.Langs)-1)]:Sl Int)))),(9,pN x5),(7,.p (vSl 2 H3 y2.1)),(6,pN (z1.n:Int)),(5,.reg 6000 0)],[(6000,.cells [pN y1.Langs,.p (vSl 1 (cI .u64) (z1.app (Sl.of [0,wrap .u64 ((shI .shl .u64 1 y1.Langs)-1)]:Sl Int)))])]⟩) (ids:=[(6000,6000)]) (fun _ _ _ _ _ self3 x5 x6 a3 h=>?_);apply kI hS h<;>intro h
 .obtain⟨c65,h⟩:=E8 h;refine I8 hS c65 h (fun x9 d=>⟨[(71,pN d),(70,pN ((z1.app (Sl.of [0,wrap .u64 ((shI .shl .u64 1 y1.Langs)-1)]:Sl Int)).n:Int)),(69,.p (vSl 1 (cI .u64) (z1.app (Sl.of [0,wrap .u64 ((shI .shl .u64 1 y1.Langs)-1)]:Sl Int)))),(63,pN x6),(62,pN ((z1.app (Sl.of [0,wrap .u64 ((shI .shl .u64 1 y1.Langs)-1)]:Sl Int)).n:Int)),(61,.p (vSl 1 (cI .u64) (z1.app (Sl.of [0,wrap .u64 ((shI .shl .u64 1 y1.Langs)-1)]:Sl Int)))),(11,.p (pI .u64 ((z1.app (Sl.of [0,wrap .u64 ((shI .shl .u64 1 y1.Langs)-1)]:Sl Int)).g x6.toNat))),(10,pN x6),(9,pN x9),(7,.p (vSl 2 H3 y2.1)),(6,pN (z1.n:Int)),(5,.reg 6000 0)],[(6000,.cells [pN y1.Langs,.p (vSl 1 (cI .u64) (z1.app (Sl.of [0,wrap .u64 ((shI .shl .u64 1 y1.Langs)-1)]:Sl Int)))])]⟩) (ids:=[(6000,6000)]) (fun _ _ _ _ _ self4 x9 d m h=>?_);apply kI hS h<;>intro h
  .obtain⟨c83,h⟩:=E8 h;obtain⟨l,e21,h⟩:=B8 h;refine C0 hS [] c83 (Em hS hL e21) ?_;refine kC hS h (Em hS hL) (fun a4 h=>?_);refine kB hS (A5 hS) Df Df 13 (.o (.o (.a ((E3 .and .u64 ((z1.app (Sl.of [0,wrap .u64 ((shI .shl .u64 1 y1.Langs)-1)]:Sl Int)).g x6.toNat) ((z1.app (Sl.of [0,wrap .u64 ((shI .shl .u64 1 y1.Langs)-1)]:Sl Int)).g d.toNat))==0)) (.a ((E3 .and .u64 ((z1.app (Sl.of [0,wrap .u64 ((shI .shl .u64 1 y1.Langs)-1)]:Sl Int)).g x6.toNat) ((z1.app (Sl.of [0,wrap .u64 ((shI .shl .u64 1 y1.Langs)-1)]:Sl Int)).g d.toNat))==((z1.app (Sl.of [0,wrap .u64 ((shI .shl .u64 1 y1.Langs)-1)]:Sl Int)).g x6.toNat)))) (.a ((E3 .and .u64 ((z1.app (Sl.of [0,wrap .u64 ((shI .shl .u64 1 y1.Langs)-1)]:Sl Int)).g x6.toNat) ((z1.app (Sl.of [0,wrap .u64 ((shI .shl .u64 1 y1.Langs)-1)]:Sl Int)).g d.toNat))==((z1.app (Sl.of [0,wrap .u64 ((shI .shl .u64 1 y1.Langs)-1)]:Sl Int)).g d.toNat)))) ?_;refine kB hS (A5 hS) Df Df 32 (.o (.o (.o (.o (.a (l.2 != 0)) (.a (a4.2 != 0))) (.a ((l.1==a4.1) != true))) (.a ((l.1==((((E3 .and .u64 ((z1.app (Sl.of [0,wrap .u64 ((shI .shl .u64 1 y1.Langs)-1)]:Sl Int)).g x6.toNat) ((z1.app (Sl.of [0,wrap .u64 ((shI .shl .u64 1 y1.Langs)-1)]:Sl Int)).g d.toNat))==0)||((E3 .and .u64 ((z1.app (Sl.of [0,wrap .u64 ((shI .shl .u64 1 y1.Langs)-1)]:Sl Int)).g x6.toNat) ((z1.app (Sl.of [0,wrap .u64 ((shI .shl .u64 1 y1.Langs)-1)]:Sl Int)).g d.toNat))==((z1.app (Sl.of [0,wrap .u64 ((shI .shl .u64 1 y1.Langs)-1)]:Sl Int)).g x6.toNat)))||((E3 .and .u64 ((z1.app (Sl.of [0,wrap .u64 ((shI .shl .u64 1 y1.Langs)-1)]:Sl Int)).g x6.toNat) ((z1.app (Sl.of [0,wrap .u64 ((shI .shl .u64 1 y1.Langs)-1)]:Sl Int)).g d.toNat))==((z1.app (Sl.of [0,wrap .u64 ((shI .shl .u64 1 y1.Langs)-1)]:Sl Int)).g d.toNat)))) != true))) (.n (.a (!l.1)) (.o (.o (.a (decide ((z1.n:Int)<=x6))) (.a (decide ((z1.n:Int)<=d)))) (.a (x6==d))))) ?_;apply kI hS h<;>intro h
   .cases h;exact kR hS
   refine kB hS (A5 hS) Df Df 3 (.n (.a (decide (x6<d))) (.a (!l.1))) ?_;apply kI hS h<;>intro h
   .obtain⟨c87,h⟩:=E8 h;obtain⟨t9,s⟩:∃x:Bool,x=((decide ((y2.1.n:Int)<=x9))||((((y2.1.g x9.toNat).a0==x6)&&((y2.1.g x9.toNat).a1==d)) != true)):=⟨_,rfl⟩;refine LH hS Df (A5 hS) 0 ⟨[(163,pB t9),(71,pN d),(70,pN ((z1.app (Sl.of [0,wrap .u64 ((shI .shl .u64 1 y1.Langs)-1)]:Sl Int)).n:Int)),(69,.p (vSl 1 (cI .u64) (z1.app (Sl.of [0,wrap .u64 ((shI .shl .u64 1 y1.Langs)-1)]:Sl Int)))),(63,pN x6),(62,pN ((z1.app (Sl.of [0,wrap .u64 ((shI .shl .u64 1 y1.Langs)-1)]:Sl Int)).n:Int)),(61,.p (vSl 1 (cI .u64) (z1.app (Sl.of [0,wrap .u64 ((shI .shl .u64 1 y1.Langs)-1)]:Sl Int)))),(11,.p (pI .u64 ((z1.app (Sl.of [0,wrap .u64 ((shI .shl .u64 1 y1.Langs)-1)]:Sl Int)).g x6.toNat))),(10,pN x6),(9,pN x9),(7,.p (vSl 2 H3 y2.1)),(6,pN (z1.n:Int)),(5,.reg 6000 0)],[(6000,.cells [pN y1.Langs,.p (vSl 1 (cI .u64) (z1.app (Sl.of [0,wrap .u64 ((shI .shl .u64 1 y1.Langs)-1)]:Sl Int)))])]⟩ (fun M11 q=>?_) ?_
    .refine FG hS Df (b:=decide ((y2.1.n:Int)<=x9)) (fun c88=>?_) (fun c88=>?_)
     .exact q _ [(6000,6000)] _ Df (hle:=klR [(0,.eq (.bb true) (.bb t9))] (al1 (by simp only[s,c88,Leaf.ok,pm,Bq,Cj]) al0))
     exact q _ [(6000,6000)] _ (And.intro (And.intro (c87 c88) (by decide:(2:Nat)<=2)) (by decide +kernel:(!Program.eqGuardType Tryz.prog (Program.depth Tryz.prog) MT)=true)) (hle:=klR [(0,.eq (.bb ((((y2.1.g x9.toNat).a0==x6)&&((y2.1.g x9.toNat).a1==d)) != true)) (.bb t9))] (al1 (by simp only[s,c88,Leaf.ok,pm,Bq,Cj]) al0))
    subst s;apply kI hS h<;>intro h
    .cases h;exact kR hS
    exact m _ [(6000,6000)] _ (wrap .i64 (x9+1)) (wrap .i64 (d+1)) Df h
   exact m _ [(6000,6000)] _ x9 (wrap .i64 (d+1)) Df h
  exact a3 _ [(6000,6000)] _ x9 (wrap .i64 (x6+1)) Df h
 refine N4 hS Df h (fun t=>⟨[(170,pN t),(169,pN y1.Langs),(9,pN x5),(7,.p (vSl 2 H3 y2.1)),(6,pN (z1.n:Int)),(5,.reg 6000 0)],[(6000,.cells [pN y1.Langs,.p (vSl 1 (cI .u64) (z1.app (Sl.of [0,wrap .u64 ((shI .shl .u64 1 y1.Langs)-1)]:Sl Int)))])]⟩) (ids:=[(6000,6000)]) (fun _ _ _ _ _ self5 t a5 h=>?_);apply kI hS h<;>intro h
 .obtain⟨c97,h⟩:=E8 h;obtain⟨a6,e27,h⟩:=B8 h;refine C0 hS [] c97 (EF hS hL e27) ?_;refine kC hS h (EF hS hL) (fun a7 h=>?_);refine kB hS (A5 hS) Df Df 8 (.o (.o (.a (a6.2 != 0)) (.a (a7.2 != 0))) (.a (a6.1 != a7.1))) ?_;apply kI hS h<;>intro h
  .cases h;exact kR hS
  exact a5 _ [(6000,6000)] _ (wrap .i64 (t+1)) Df h
 refine Ef hS Df (A5 hS) h 0 (fun z3=>⟨[(4,pB z3)],[]⟩) (fun M12 k3 r h=>?_) (fun z3 h=>?_)
 .refine kG hS h (fun h=>?_) (fun h=>?_)
  .refine kC hS h (F7 hS hL) (fun y30 h=>?_);exact r _ [] _ y30 Df h
  exact r _ [] _ false Df h
 cases h;exact kR hS
end Go.AM
namespace Go.AM
set_option maxRecDepth 1000000
def QV:D0 4194304=some true:=by decide +kernel
end Go.AM
namespace Go.AM
open IntKind (wrap)
open Go.Proofs
def QW {A R:Type}{body:(A->Option R)->A->Option R}(I:Nat->A->Prop)(n:Nat)(I2:R->Prop)
 (b:∀self i a,i<=n->I i a->(i<n->∀a',I (i+1) a' -> ∃r,self a' = some r/\I2 r)->∃r,body self a=some r/\I2 r) :
 ∀(N i:Nat) (a:A),i<=n->I i a->n-i<N->∃r,Y1 N body a=some r/\I2 r
 |0,_,_,_,_,h=>by omega
 |N+1,i,a,hi,hI,h=>by rw[Bw];exact b _ i a hi hI fun c a' d=>QW I n I2 b N (i+1) a' c d (by omega)
def QX {A R:Type}{body:(A->Option R)->A->Option R}(I:Nat->A->Prop)(n:Nat)(I2:R->Prop){N:Nat}(c:n<N){a:A}(d:I 0 a)
 (b:∀self i a,i<=n->I i a->(i<n->∀a',I (i+1) a' -> ∃r,self a' = some r/\I2 r)->∃r,body self a=some r/\I2 r):∃r,Y1 N body a=some r/\I2 r:=
 QW I n I2 b N 0 a (AT8 _) d c
def Mg {A B R:Type}{body:(A->B->Option R)->A->B->Option R}(I:Nat->A->B->Prop)(n:Nat)(I2:R->Prop){N:Nat}(g:n<N){a:A}{b:B}(j:I 0 a b)
 (d:∀c i a b,i<=n->I i a b->(i<n->∀a' b',I (i+1) a' b' -> ∃r,c a' b' = some r/\I2 r)->∃r,body c a b=some r/\I2 r):∃r,BC N body a b=some r/\I2 r:=
 QW (fun i x=>I i x.1 x.2) n I2 (fun c i x l m h=>d (fun a b=>c (a,b)) i x.1 x.2 l m fun hl a' b' f=>h hl (a',b') f) N 0 (a,b) (AT8 _) j g
def BK {X R:Type}{Q:R->Prop}{o:Option X}{f:X->Option R}{x:X}(h:o=some x)(a:∃r,f x=some r/\Q r):∃r,o.bind f=some r/\Q r:=by subst h;exact a
def Aa1 {R A:Type}{Q:R->Prop}{k:A->Option R}{f:(A->Option R)->Option R}(h:∃r,f k=some r/\Q r):∃r,lt k f=some r/\Q r:=h
def U0 {R:Type}{Q:R->Prop}{p:Prop}[Decidable p]{a b:Option R}(h:p)(c:∃r,a=some r/\Q r):∃r,(if p then a else b)=some r/\Q r:=by rw[Az h];exact c
def Bx {R:Type}{Q:R->Prop}{p:Prop}[Decidable p]{a b:Option R}(h:¬p)(c:∃r,b=some r/\Q r):∃r,(if p then a else b)=some r/\Q r:=by rw[Bb h];exact c
def CB {n:Int}(h : -9223372036854775808<=n)(h' : n<=9223372036854775807):IntKind.i64.wrap n=n:=by
 by_cases a:0<=n
 .have h1:n % (2 ^ 64:Int)=n:=AS0 a (by omega);unfold wrap;simp only[IntKind.bits,IntKind.signed,h1];rw[Bb];simp;omega
 have h1:n % (2 ^ 64:Int)=n+2 ^ 64:=by rw[<- Bk4];exact AS0 (by omega) (by omega)
 unfold wrap;simp only[IntKind.bits,IntKind.signed,h1];rw[Az]
 .omega
 simp;omega
def Cn {i:Nat}(h:i<1000000000000000000):IntKind.i64.wrap ((i:Int)+1)=((i+1:Nat):Int):=by rw[CB (by omega) (by omega)];rfl
def WD {i:Nat}(a:1<=i)(h:i<1000000000000000000):IntKind.i64.wrap ((i:Int)-1)=((i-1:Nat):Int):=by rw[CB (by omega) (by omega)];omega
end Go.AM
namespace Go.AM
variable {N:Nat}
open IntKind (wrap)
open Go.Proofs
def Yl {α : Type}(s:Sl α)(a : α):(s.push a).toList=s.toList++[a]:=by
 unfold Sl.toList;rw[AN6,AR6];congr 1
 .exact AN1 fun i b=>by rw[AL7]at b;show (if i<s.n then s.g i else a)=s.g i;rw[Az b]
 show [if s.n<s.n then s.g s.n else a]=[a];rw[Bb (by omega)]
def DJ {α : Type}(s:Sl α):s.toList.length=s.n:=by simp[Sl.toList]
def Jn (t:A3):Prop:=t.Has.n<=100/\∀i,i<t.Has.n->∃x:BitVec 64,t.Has.g i=U x
def AW (t:A3)(i:Nat):BitVec 64:=BitVec.ofNat 64 (t.Has.g i).toNat
def Dk {t:A3}(h:Jn t){i:Nat}(a:i<t.Has.n):t.Has.g i=U (AW t i):=by obtain⟨x,e⟩:=h.2 i a;rw[AW,e];show U x=U (BitVec.ofNat 64 (x.toNat:Int).toNat);rw[AK3];simp
def V5 (L:Nat):BitVec 64:=BitVec.ofNat 64 (2 ^ L-1)
def FQ {L k:Nat}(hk:k<64):(V5 L).getLsbD k=decide (k<L):=by unfold V5;rw[Bi6];simp[hk,Bc4]
def MU {t:A3}{L:Nat}(hL:t.Langs=L)(h:L<=32):G7 N t=some (U (V5 L)):=by
 unfold G7;rw[hL,Az (by omega),Aj2 L (by omega)];have a:2 ^ L<=2 ^ 32:=AU6 (by decide) h;have b:0<2 ^ L:=Nat.pow_pos (by decide);have h1:(1#64 <<< L).toNat=2 ^ L:=by rw[AW4,Bb7];simp only[AT3];omega
 have e:U (1#64 <<< L)-1=((2 ^ L-1:Nat):Int):=by show (((1#64 <<< L).toNat:Nat):Int)-1=_;rw[h1];omega
 rw[e,El (by omega)];show some ((2 ^ L-1:Nat):Int)=some (((BitVec.ofNat 64 (2 ^ L-1)).toNat:Nat):Int);rw[AT3,AQ9 (by omega)]
def MV {s:Sl Int}{f:Int->Option Bool}{p:Nat->Bool}(hn:s.n<N)(hb:s.n<1000000)(m:∀i,i<s.n->f (s.g i)=some (p i)) :∃r,Y1 N (fun b (x1:Int)=>
  if (decide (x1<(s.n:Int))) then
   if ((0:Int)<=x1/\x1<(s.n:Int))then
    (f (s.g x1.toNat)).bind fun y3=>
    if y3 then some x1 else b (wrap .i64 (x1+1))
   else none
  else some (-1)) 0=some r/\(decide (0<=r)=(List.range s.n).any p):=by
 refine QX (fun i x=>x=(i:Int)/\∀j,j<i->p j=false) s.n _ hn ⟨rfl,fun j d=>Bc d (by omega)⟩ ?_;rintro l i x o ⟨rfl,hp⟩ hs;by_cases c:i<s.n
 .refine U0 (by simp;omega) (U0 (by omega) ?_);rw[AK3];refine BK (m i c) ?_;by_cases a:p i=true
  .refine U0 a ⟨_,rfl,?_⟩;rw[decide_eq_true (by omega),eq_comm,AR7];exact⟨i,AL7.2 c,a⟩
  refine Bx a (hs c _ ⟨Cn (by omega),fun j d=>?_⟩);by_cases e:j=i
  .subst e;simpa using a
  exact hp j (by omega)
 refine Bx (by simp;omega) ⟨_,rfl,?_⟩;rw[decide_eq_false (by decide),eq_comm,AV8];intro j d;rw[AL7]at d;simp[hp j (by omega)]
def Ks {s:Sl Int}{f:Int->Option Bool}{p:Nat->Bool}(hn:s.n<N)(hb:s.n<1000000)(a:∀i,i<s.n->f (s.g i)=some (p i)) :B4 N s f=some ((List.range s.n).any p):=by obtain⟨r,h1,b⟩:=MV hn hb a;unfold B4 E1;rw[h1];show some (decide (0<=r))=_;rw[b]
def Jo {s:Sl Int}{f:Int->Option Bool}{p:Nat->Bool}(hn:s.n<N)(hb:s.n<1000000)(a:∀i,i<s.n->f (s.g i)=some (p i)) :D7 N s f=some ((List.range s.n).any p):=by obtain⟨r,h1,b⟩:=MV hn hb a;unfold D7 J1;rw[h1];show some (decide (0<=r))=_;rw[b]
def Kt (p:Nat->Bool)(n:Nat):List Int:=((List.range n).filter p).map fun (i:Nat)=>(i:Int)
def PK (p:Nat->Bool)(n:Nat):Kt p (n+1)=Kt p n++if p n then [(n:Int)]else []:=by
 unfold Kt;rw[AN6,AY9,AR6];congr 1;by_cases h:p n=true
 .simp[h]
 simp[h]
def Jp (p:Nat->Bool):∀n,(Kt p n).length<=n
 |0=>by simp[Kt]
 |n+1=>by rw[PK,AL4];have:=Jp p n;split<;>simp<;>omega
def Jq {t:A3}{q:Int->Option Bool}{p:Nat->Bool}(hb:t.Has.n<1000000)(b:∀i,i<t.Has.n->q (t.Has.g i)=some (p i)) :∀(k i:Nat),i+k=t.Has.n->∀N,k<N->Y1 N (fun a (x1:Int)=>
  if (decide (x1<(t.Has.n:Int))) then
   if ((0:Int)<=x1/\x1<(t.Has.n:Int))then
    (q (t.Has.g x1.toNat)).bind fun y3=>
    if y3 then GM x1 (a (wrap .i64 (x1+1)))else a (wrap .i64 (x1+1))
   else none
  else some []) (i:Int)=some (((List.range' i k).filter p).map fun (i:Nat)=>(i:Int))
 |0,i,hi,N+1,_=>by rw[Bw,Bb (by simp;omega)];rfl
 |k+1,i,hi,N+1,hN=>by
  rw[Bw,Az (by simp;omega),Az (by omega),AK3,b i (by omega)];show (if p i then _ else _)=_;rw[Cn (by omega),Jq hb b k (i+1) (by omega) N (by omega),Bf9];by_cases h:p i=true
  .rw[Az h,Be8 h];rfl
  rw[Bb h,Bf0 h]
def He {t:A3}{q:Int->Option Bool}{p:Nat->Bool}(hn:t.Has.n<N)(hb:t.Has.n<1000000)(a:∀i,i<t.Has.n->q (t.Has.g i)=some (p i)) :C8 N t q=some (Kt p t.Has.n):=by
 have:=Jq hb a t.Has.n 0 (by omega) N hn
 rw[<- Bb9]at this;exact this
def Ym {t:A3}{q:Int->Option Bool}{p:Nat->Bool}(hn:t.Has.n<N)(hb:t.Has.n<1000000)(a:∀i,i<t.Has.n->q (t.Has.g i)=some (p i)) :K8 N t q=some (Kt p t.Has.n):=He hn hb a
def Ku:∀(L:List Int) (z:Nat),z+L.length<1000000->X0 L (fun a (x1:Int) (z1:Int)=>a (wrap .i64 (z1+1))) (fun (z1:Int)=>some (z1,(0:Int))) (z:Int)=some (((z+L.length:Nat):Int),0)
 |[],z,_=>rfl
 |x::L,z,h=>by show X0 L _ _ (wrap .i64 ((z:Int)+1))=_;rw[Cn (by simp at h;omega),Ku L (z+1) (by simp at h⊢;omega)];simp only[AN3];congr 3;omega
end Go.AM
namespace Go.AM
open Go.Proofs
def MW (x:BitVec 64):Nat->Nat
 |0=>0
 |L+1=>MW x L+if x.getLsbD L then 1 else 0
def ST {x:BitVec 64}:∀{L:Nat},MW x L=0 ↔ ∀k,k<L->x.getLsbD k=false
 |0=>⟨fun _ k hk=>Bc hk (by omega),fun _=>rfl⟩
 |L+1=>by
  simp only[MW];constructor
  .intro h k hk;by_cases e:k=L
   .subst e;cases hb:x.getLsbD k with
    |true=>simp[hb]at h
    |false=>rfl
   have h1:MW x L=0:=by omega
   exact ST.1 h1 k (by omega)
  intro h;rw[ST.2 fun k hk=>h k (by omega),h L (by omega)];rfl
def MX {x:BitVec 64}:U x=0↔x=0#64:=⟨fun h=>AP4 (by have:(x.toNat:Int)=0:=h;simp;omega),fun h=>by subst h;rfl⟩
def En {x:BitVec 64}:x=0#64 ↔ ∀k,k<64->x.getLsbD k=false:=
 ⟨fun h k _=>by subst h;simp,fun h=>Vb fun b hb=>by rw[h b hb];simp⟩
def Cg (L:Nat)(x:BitVec 64):Prop:=∀k,L<=k->k<64->x.getLsbD k=false
def Ar2 {L:Nat}{x:BitVec 64}(hs:Cg L x)(hL:L<=64):x=0#64↔MW x L=0:=by rw[En,ST];exact⟨fun h k hk=>h k (by omega),fun h k hk=>by by_cases h1:k<L;exact h k h1;exact hs k (by omega) hk⟩
def X1 (f:Nat->Bool)(L:Nat):Bool:=(List.range L).any f
def MY {L:Nat}{x:BitVec 64}(hs:Cg L x)(hL:L<=64):(U x==0) = !X1 x.getLsbD L:=by
 rw[AN0,beq_iff_eq,MX,AL6,En,X1,AV8];exact⟨fun h k hk=>by rw[h k (by have:=AL7.1 hk;omega)];simp,fun h k hk=>by
  by_cases h1:k<L
  .simpa using h k (AL7.2 h1)
  exact hs k (by omega) hk⟩
def R6 (L:Nat)(x y:BitVec 64):Bool:=((!X1 (fun k=>x.getLsbD k&&y.getLsbD k) L)||(!X1 (fun k=>x.getLsbD k && !y.getLsbD k) L))||(!X1 (fun k=>(!x.getLsbD k)&&y.getLsbD k) L)
def Ar {f g:Nat->Bool}{L:Nat}(h:∀k,k<L->f k=g k):X1 f L=X1 g L:=by unfold X1;rw[AN0,AR7,AR7];exact⟨fun⟨k,h1,a⟩=>⟨k,h1,by rw[<- h k (AL7.1 h1)];exact a⟩,fun⟨k,h1,a⟩=>⟨k,h1,by rw[h k (AL7.1 h1)];exact a⟩⟩
def Kv {N L:Nat}{x y:BitVec 64}(hx:Cg L x)(hy:Cg L y)(hL:L<=64):V4 N (U x) (U y)=some (R6 L x y):=by
 unfold V4 R6;rw[Mf,DH,DH,MY (L:=L) (fun k h1 a=>by simp[hx k h1 a]) hL,MY (L:=L) (fun k h1 a=>by simp[hx k h1 a]) hL,MY (L:=L) (fun k h1 a=>by simp[hy k h1 a]) hL];rw[Ar (f:=(x &&& y).getLsbD) (g:=fun k=>x.getLsbD k&&y.getLsbD k) fun k _=>by simp,
  Ar (f:=(x &&& ~~~ y).getLsbD) (g:=fun k=>x.getLsbD k && !y.getLsbD k) fun k hk=>by simp[show k<64 by omega],
  Ar (f:=(y &&& ~~~ x).getLsbD) (g:=fun k=>(!x.getLsbD k)&&y.getLsbD k) fun k hk=>by simp[show k<64 by omega,AZ1]]
end Go.AM
namespace Go.AM
open Go.Proofs
def PL (t:A3)(L:Nat):Prop:=t.Langs=L/\L<=32/\t.Has.n<=64/\∀i,i<t.Has.n->Cg L (AW t i)
def any2 {a b:Int}{p:Int->Bool}:((List.range (Sl.of [a,b]:Sl Int).n).any fun i=>p ((Sl.of [a,b]:Sl Int).g i))=(p a||p b):=by show ((List.range 2).any fun i=>p (([a,b]:List Int).getD i default))=_;simp[AN6]
def any1 {a:Int}{p:Int->Bool}:((List.range (Sl.of [a]:Sl Int).n).any fun i=>p ((Sl.of [a]:Sl Int).g i))=p a:=by show ((List.range 1).any fun i=>p (([a]:List Int).getD i default))=_;simp[AN6]
def OM (L:Nat)(a:Int):Bool:=decide (a<0)||decide ((L:Int)<=a)
def Aj3 (p:Nat->Bool)(n:Nat):Nat:=(Kt p n).length
def Aa2 (p:Nat->Bool)(n:Nat):Aj3 p (n+1)=Aj3 p n+if p n then 1 else 0:=by unfold Aj3;rw[PK,AL4];split<;>rfl
def AB5 {N L:Nat}{t:A3}{q:Int->Option Bool}{p:Nat->Bool}{a:Int}(d:1000<=N)(h:Jn t)(hc:F2 N t=some 0)(hL:t.Langs=L)
 (c:OM L a=false->∀i,i<t.Has.n->q (t.Has.g i)=some (p i)) :
 R7 N t q (Sl.of [a]:Sl Int)=some (if OM L a then (0,3)else ((Aj3 p t.Has.n:Int),0)):=by
 have hn:=h.1;unfold R7;rw[hc,AL2,Bb (by decide),Jo (p:=fun i=>OM L ((Sl.of [a]:Sl Int).g i)) (by show 1<N;omega) (by show 1<_;omega) (fun i f=>by unfold J5 OM;rw[hL]),any1 (p:=OM L),AL2];by_cases b:OM L a=true
 .rw[Az b,Az b]
 rw[Bb b,Bb b];show (C8 N t q).bind _=_;rw[He (by omega) (by omega) (c (by simpa using b))];show X0 _ _ _ _=_;have hl:=Jp p t.Has.n
 have:=Ku (Kt p t.Has.n) 0 (by omega)
 rw[AO9]at this;exact this
def Yn {N L:Nat}{t:A3}{q:Int->Option Bool}{p:Nat->Bool}{a b:Int}(f:1000<=N)(h:Jn t)(hc:F2 N t=some 0)(hL:t.Langs=L)
 (d:(OM L a||OM L b)=false->∀i,i<t.Has.n->q (t.Has.g i)=some (p i)) :
 P2 N t q (Sl.of [a,b]:Sl Int)=some (if (OM L a||OM L b) then (0,3)else ((Aj3 p t.Has.n:Int),0)):=by
 have hn:=h.1;unfold P2;rw[hc,AL2,Bb (by decide),Jo (p:=fun i=>OM L ((Sl.of [a,b]:Sl Int).g i)) (by show 2<N;omega) (by show 2<_;omega) (fun i j=>by unfold J5 OM;rw[hL]),any2 (p:=OM L),AL2];by_cases c:(OM L a||OM L b)=true
 .rw[Az c,Az c]
 rw[Bb c,Bb c];show (K8 N t q).bind _=_;rw[Ym (by omega) (by omega) (d (by simpa using c))];show X0 _ _ _ _=_;have hl:=Jp p t.Has.n
 have:=Ku (Kt p t.Has.n) 0 (by omega)
 rw[AO9]at this;exact this
end Go.AM
namespace Go.AM
open Go.Proofs
def K5 (G8:Nat->Nat->Bool)(i m:Nat):List C4:=((List.range m).filter fun j=>decide (i<j)&&G8 i j).map fun (j:Nat)=>⟨(i:Int),(j:Int)⟩
def Z6 (G8:Nat->Nat->Bool)(i m:Nat):K5 G8 i (m+1)=K5 G8 i m++if (decide (i<m)&&G8 i m) then [⟨(i:Int),(m:Int)⟩]else []:=by
 unfold K5;rw[AN6,AY9,AR6];congr 1;by_cases h:(decide (i<m)&&G8 i m)=true
 .simp only[AS6,Bc6,h,Bq,AM0,AS9]
 rw[AU0]at h;simp only[AS6,Bc6,h,AK8,Cj,AS9]
def WE (G8:Nat->Nat->Bool)(i:Nat):∀m,m<=i+1->K5 G8 i m=[]
 |0,_=>rfl
 |m+1,h=>by rw[Z6,WE G8 i m (by omega),Bb (by simp;omega)];rfl
def MZ (G8:Nat->Nat->Bool)(i:Nat):∀m,(K5 G8 i m).length<=m
 |0=>by simp[K5]
 |m+1=>by rw[Z6,AL4];have:=MZ G8 i m;split<;>simp<;>omega
def Yo (G8:Nat->Nat->Bool)(i m:Nat):((Kt (G8 i) m).filter fun x=>decide ((i:Int)<x)).map (fun x=>(⟨(i:Int),x⟩:C4))=K5 G8 i m:=by unfold Kt K5;rw[List.filter_map,AS7,Bk6];congr 1;refine List.filter_congr fun j a=>?_;show (decide ((i:Int)<(j:Int))&&G8 i j)=_;congr 1;rw[AN0];simp
def J9 (G8:Nat->Nat->Bool)(n:Nat):Nat->List C4
 |0=>[]
 |i+1=>J9 G8 n i++K5 G8 i n
def IN (G8:Nat->Nat->Bool)(n:Nat):∀i,(J9 G8 n i).length<=i*n
 |0=>by simp[J9]
 |i+1=>by
  rw[J9,AL4,AY7]
  have:=IN G8 n i;have:=MZ G8 i n;omega
def Hf:∀(M:List Int) (i:Nat) (z:Sl C4) (k:Sl C4->Option (Sl C4×Int)) (Q:Sl C4×Int->Prop),z.n+M.length<1000000 ->
 (∀z' : Sl C4,z'.toList=z.toList++((M.filter fun x=>decide ((i:Int)<x)).map fun x=>(⟨(i:Int),x⟩:C4))->∃r,k z' = some r/\Q r) ->
 ∃r,X0 M (fun a (x7:Int) (z3:Sl C4)=>
  if (decide ((i:Int)<x7)) then
   if ((z3.n+(Sl.of [(⟨(i:Int),x7⟩:C4)]:Sl C4).n)*16<=140737488355328/\z3.n+(Sl.of [(⟨(i:Int),x7⟩:C4)]:Sl C4).n<=140737488355328)then
    a (z3.push (⟨(i:Int),x7⟩:C4))
   else none
  else a z3) k z=some r/\Q r
 |[],i,z,k,Q,_,hk=>hk z (by simp)
 |x::M,i,z,k,Q,hl,hk=>by
  simp only[AN3]at hl;by_cases hx:(decide ((i:Int)<x))=true
  .show ∃r,(if (decide ((i:Int)<x)) then _ else _)=some r/\Q r;refine U0 hx (U0 (by show (z.n+1)*16<=_/\z.n+1<=_;omega) (Hf M i (z.push ⟨i,x⟩) k Q (by show z.n+1+_<_;omega) fun z' b=>hk z' ?_));rw[b,Yl];simp only[AS6,hx,Bq,AM0,AR0,AN4,AW7]
  show ∃r,(if (decide ((i:Int)<x)) then _ else _)=some r/\Q r;refine Bx hx (Hf M i z k Q (by omega) fun z' b=>hk z' ?_);rw[AU0]at hx;rw[b];simp only[AS6,hx,AK8,Cj]
end Go.AM
namespace Go.AM
open Go.Proofs
def Aj4 (f:Nat->Nat):Nat->Nat
 |0=>0
 |n+1=>Aj4 f n+f n
end Go.AM
namespace Go.AM
open IntKind (wrap)
open Go.Proofs
def IO {N L:Nat}{t:A3}(f:1000<=N)(h:Jn t)(d:PL t L):F2 N t=some 0:=by
 obtain⟨hL,b,hn,hs⟩:=d;have h1:B4 N t.Has (fun (u1:Int)=>R0 N u1 t)=some ((List.range t.Has.n).any fun i=>U (AW t i &&& ~~~ V5 L) != 0):=
  Ks (by omega) (by omega) fun i c=>by unfold R0;rw[MU hL b,Dk h c];show some _=_;rw[DH]
 have a:((List.range t.Has.n).any fun i=>U (AW t i &&& ~~~ V5 L) != 0)=false:=by
  rw[AV8];intro i c
  have:=hs i (AL7.1 c)
  rw[bne_iff_ne,Ne,MX,En,Bb3];intro k a;rw[AO8,AZ3,FQ a];by_cases h1:k<L
  .simp[h1]
  simp[this k (by omega) a]
 unfold F2;rw[Bb (by simp;omega),Bb (by simp;omega),h1,a];rfl
def Aa3 {L:Nat}(h:L<=32):wrap .u64 ((shI .shl .u64 1 (L:Int))-1)=U (V5 L):=by
 have:=MU (N:=0) (t:=⟨(L:Int),Sl.nil⟩) rfl h
 unfold G7 at this;rw[Az (by show (0:Int)<=(L:Int);omega)]at this;exact AM8 this
def Aj5 (x:BitVec 64){L:Nat}(h:L<=64):Cg L (x &&& V5 L):=fun k h1 a=>by rw[AO8,FQ a];simp;omega
def AD8 {c:Nat}(h:c<256):(wrap .i64 (c:Int)).tmod 33=((c % 33:Nat):Int):=by rw[CB (by omega) (by omega)];rfl
def Aj6 {N:Nat}{l:Sl Int}{c:Nat}(r:1000<=N)(hc:c<256)(hl:∀i,i<l.n->∃x:BitVec 64,l.g i=U x) :∃t,Kq N (c:Int) l=some t/\Jn t/\PL t (c % 33):=by
 unfold Kq;rw[AD8 hc,Aa3 (by omega)];obtain⟨m,hm,f,q⟩:∃m:Nat,(if 64<(l.n:Int)then 64 else (l.n:Int))=m/\m<=64/\m<=l.n:=by
  by_cases h:64<l.n
  .exact⟨64,by rw[Az (by omega)];rfl,by omega,by omega⟩
  exact⟨l.n,by rw[Bb (by omega)],by omega,by omega⟩
 rw[hm,AK3];refine U0 (by omega) ?_;refine Mg (fun i (x1:Sl Int) x2=>x2=(i:Int)/\x1.n=i/\∀j,j<i->∃y:BitVec 64,x1.g j=U y/\Cg (c % 33) y) m _ (by omega) ⟨rfl,rfl,fun j a=>Bc a (by omega)⟩ ?_;rintro o i x1 x2 s ⟨rfl,hn,hx⟩ hs;by_cases b:i<m
 .refine U0 (by show decide ((i:Int)<(m:Int))=true;simp;omega) (U0 (by show (0:Int)<=i/\(i:Int)<(m:Int);omega) (U0 (by omega) (U0 (by show (x1.n+1)*8<=_/\x1.n+1<=_;omega) (hs b _ _ ⟨Cn (by omega),by show x1.n+1=_;omega,fun j a=>?_⟩))));obtain⟨x,d⟩:=hl i (by omega);show ∃y,(if j<x1.n then x1.g j else E3 .and .u64 ((l.take m).g (i:Int).toNat) (U (V5 (c % 33))))=U y/\_;by_cases e:j<x1.n
  .rw[Az e];exact hx j (by omega)
  rw[Bb e,AK3];refine⟨x &&& V5 (c % 33),?_,Aj5 x (by omega)⟩;show E3 .and .u64 (l.g i) _=_;rw[d,Mf]
 obtain rfl:i=m:=by omega
 refine Bx (by show ¬decide (((i:Nat):Int)<(i:Int))=true;simp) ⟨_,rfl,⟨by show x1.n<=100;omega,fun j a=>?_⟩,rfl,by omega,by show x1.n<=64;omega,fun j a=>?_⟩
 .obtain⟨y,e,_⟩:=hx j (by rw[<- hn];exact a);exact⟨y,e⟩
 obtain⟨y,e,g⟩:=hx j (by rw[<- hn];exact a);show Cg _ (BitVec.ofNat 64 (x1.g j).toNat);rw[e];show Cg _ (BitVec.ofNat 64 (y.toNat:Int).toNat);rw[AK3];simpa using g
def Aj7 (t:A3)(a i:Nat):Bool:=(AW t i).getLsbD a
def Aa4 {L:Nat}{a:Int}(b:OM L a=false):∃k:Nat,a=k/\k<L:=by simp only[OM,AV5,decide_eq_false_iff_not]at b;exact⟨a.toNat,by omega,by omega⟩
def Aa5 {L a:Nat}(h:a<L):OM L (a:Int)=false:=by simp[OM];omega
def PM {N L:Nat}{t:A3}(d:1000<=N)(h:Jn t)(c:PL t L)(a b:Int) :N3 N t a b=some (if (OM L a||OM L b) then (0,3)else ((Aj3 (fun i=>Aj7 t a.toNat i&&Aj7 t b.toNat i) t.Has.n:Int),0)):=by
 unfold N3;rw[Yn (L:=L) (p:=fun i=>Aj7 t a.toNat i&&Aj7 t b.toNat i) d h (IO d h c) c.1 fun c i f=>?_]
 .rfl
 rw[AV5]at c;obtain⟨k,rfl,hk⟩:=Aa4 c.1;obtain⟨m,rfl,hm⟩:=Aa4 c.2;unfold Bg;rw[Az (by omega),Az (fun _=>by omega),Dk h f,AD7,AD7];simp[Aj7]
def PN {N L:Nat}{t:A3}(b:1000<=N)(h:Jn t)(c:PL t L)(i j:Int) :I5 N t i j=some (if (0<=i/\i<(t.Has.n:Int))/\(0<=j/\j<(t.Has.n:Int))then (R6 L (AW t i.toNat) (AW t j.toNat),0)else (false,3)):=by
 obtain⟨hL,a,hn,hs⟩:=c;unfold I5;rw[IO b h ⟨hL,a,hn,hs⟩,AL2,Bb (show ¬((0:Int) != 0)=true by decide)];by_cases hb:(0<=i/\i<(t.Has.n:Int))/\(0<=j/\j<(t.Has.n:Int))
 .have q1:¬((((decide (i<0))||(decide (j<0)))||(decide ((t.Has.n:Int)<=i)))||(decide ((t.Has.n:Int)<=j)))=true:=by simp;omega
  rw[Bb q1,Az hb,Az hb,Dk h (show i.toNat<_ by omega),Dk h (show j.toNat<_ by omega),Kv (hs _ (by omega)) (hs _ (by omega)) (by omega)];rfl
 have q1:((((decide (i<0))||(decide (j<0)))||(decide ((t.Has.n:Int)<=i)))||(decide ((t.Has.n:Int)<=j)))=true:=by simp;omega
 rw[Az q1,Bb hb]
def Aj8 (f g:Nat->Nat):∀n,Aj4 (fun i=>f i+g i) n=Aj4 f n+Aj4 g n
 |0=>rfl
 |n+1=>by simp only[Aj4,Aj8 f g n];omega
def PO {f g:Nat->Nat}:∀{n:Nat},(∀i,i<n->f i=g i)->Aj4 f n=Aj4 g n
 |0,_=>rfl
 |n+1,h=>by simp only[Aj4,PO (n:=n) fun i a=>h i (by omega),h n (by omega)]
def QY (p:Nat->Bool):∀n,Aj3 p n=Aj4 (fun i=>if p i then 1 else 0) n
 |0=>rfl
 |n+1=>by rw[Aa2,QY p n];rfl
def Yp {p q:Nat->Bool}{n:Nat}(h:∀i,i<n->p i=q i):Aj3 p n=Aj3 q n:=by rw[QY,QY];exact PO fun i a=>by rw[h i a]
def inU64 (l:Sl Int):Prop:=∀i,i<l.n->∃x:BitVec 64,l.g i=U x
end Go.AM
namespace Go.AM
open Go.Proofs
def Aj9 {L:Nat}(h:L<=64):Cg L (V5 L):=fun k h1 a=>by rw[FQ a];simp;omega
def Av1 {f:Nat->Bool}{L:Nat}:X1 f L=true ↔ ∃k,k<L/\f k=true:=by unfold X1;rw[AR7];simp only[AL7]
end Go.AM
namespace Go.AM
open Go.Proofs
def G8:(!false)=true:=rfl
end Go.AM
namespace Go.AM
open Go.Proofs
def Ar3 {R:Type}{x:Option R}{y:R}(h:∃r,x=some r/\r=y):x=some y:=by obtain⟨r,h,rfl⟩:=h;exact h
end Go.AM
namespace Go.AM
open Go.Proofs
def LO {N L:Nat}{t:A3}(q:1000<=N)(h:Jn t)(s:PL t L):∃r:Sl C4×Int,G6 N t=some r/\r.1.toList=J9 (fun i j=>!R6 L (AW t i) (AW t j)) t.Has.n t.Has.n/\r.2=0:=by
 obtain⟨hL,d,a,hs⟩:=s;have hn:=h.1;unfold G6;rw[IO q h ⟨hL,d,a,hs⟩,AL2,Bb (show ¬((0:Int) != 0)=true by decide)];have hw:∀i,i<t.Has.n->C8 N t (fun (u6:Int)=>H4 N u6 (t.Has.g i))=some (Kt (fun j=>!R6 L (AW t i) (AW t j)) t.Has.n):=fun i b=>He (by omega) (by omega) fun j m=>by unfold H4;rw[Dk h b,Dk h m,Kv (hs i b) (hs j m) (by omega),AL2]
 have f:∀i,i<=t.Has.n->i*t.Has.n<=64*64:=fun i b=>Bj2 (by omega) a;refine Mg (fun i (x3:Sl C4) x4=>x4=(i:Int)/\x3.toList=J9 (fun i j=>!R6 L (AW t i) (AW t j)) t.Has.n i) t.Has.n _ (by omega) ⟨rfl,rfl⟩ ?_;rintro o i x3 x4 b ⟨rfl,hx⟩ l;have u:x3.n<=64*64:=by rw[<- DJ x3,hx];exact AO4 (IN _ _ i) (f i b)
 by_cases c:i<t.Has.n
 .refine U0 (by simp;omega) (U0 (by omega) ?_);rw[AK3];show ∃r,(C8 N t _).bind _=some r/\_;refine BK (hw i c) ?_;have hl:=Jp (fun j=>!R6 L (AW t i) (AW t j)) t.Has.n;refine Hf _ i x3 _ _ (by omega) fun z' v=>l c _ _ ⟨Cn (by omega),?_⟩;rw[v,hx];exact congrArg _ (Yo (fun i j=>!R6 L (AW t i) (AW t j)) i t.Has.n)
 obtain rfl:i=t.Has.n:=by omega
 exact Bx (by simp) ⟨_,rfl,hx,rfl⟩
end Go.AM
namespace Go.AM
variable {N:Nat}
open IntKind (wrap)
open Go.Proofs
def U_inj {x y:BitVec 64}:U x=U y↔x=y:=⟨fun h=>AP4 (by have:(x.toNat:Int)=y.toNat:=h;omega),fun h=>by rw[h]⟩
def SU (x y:BitVec 64):x &&& y=x↔x &&& ~~~y=0#64:=by
 constructor
 .intro h;rw[En];intro k hk;have h1:=congrArg (fun z=>z.getLsbD k) h;simp only[AO8]at h1;rw[AO8,AZ3];cases hx:x.getLsbD k<;>cases hy:y.getLsbD k<;>simp_all
 intro h;apply AP8;intro k hk;have h1:=En.1 h k hk;rw[AO8,AZ3]at h1;rw[AO8];cases hx:x.getLsbD k<;>cases hy:y.getLsbD k<;>simp_all
def Ak0 {L:Nat}{x y:BitVec 64}(hx:Cg L x)(hy:Cg L y)(hL:L<=64):(((E3 .and .u64 (U x) (U y)==0)||(E3 .and .u64 (U x) (U y)==U x))||(E3 .and .u64 (U x) (U y)==U y))=R6 L x y:=by
 have h:=Kv (N:=0) hx hy hL;unfold V4 at h;rw[<- AM8 h,Mf,DH,DH];have e:∀a b:BitVec 64,(U (a &&& b)==U a)=(U (a &&& ~~~b)==0):=fun a b=>by rw[AN0,beq_iff_eq,beq_iff_eq,U_inj,MX,SU]
 rw[e x y,BitVec.and_comm x y,e y x]
def Na (L:Nat)(x y:BitVec 64):R6 L x y=R6 L y x:=by have h1:X1 (fun k=>x.getLsbD k&&y.getLsbD k) L=X1 (fun k=>y.getLsbD k&&x.getLsbD k) L:=Ar fun k _=>AZ1 _ _;have a:X1 (fun k=>x.getLsbD k && !y.getLsbD k) L=X1 (fun k=>(!y.getLsbD k)&&x.getLsbD k) L:=Ar fun k _=>AZ1 _ _;have b:X1 (fun k=>(!x.getLsbD k)&&y.getLsbD k) L=X1 (fun k=>y.getLsbD k && !x.getLsbD k) L:=Ar fun k _=>AZ1 _ _;unfold R6;rw[h1,a,b,Bool.or_assoc,Bool.or_assoc,Bool.or_comm (!X1 (fun k=>(!y.getLsbD k)&&x.getLsbD k) L)]
def Vd {f:Nat->Bool}{L:Nat}(h:∀k,k<L->f k=false):X1 f L=false:=by rw[AX3];intro g;obtain⟨k,h1,a⟩:=Av1.1 g;rw[h k h1]at a;cases a
def SV (L:Nat)(y:BitVec 64):R6 L 0#64 y=true:=by unfold R6;rw[Vd (f:=fun k=>(0#64).getLsbD k&&y.getLsbD k) (fun k _=>by simp)];rfl
def WF {L:Nat}(hL:L<=64)(y:BitVec 64):R6 L (V5 L) y=true:=by unfold R6;rw[Vd (f:=fun k=>(!(V5 L).getLsbD k)&&y.getLsbD k) (fun k hk=>by rw[FQ (by omega)];simp[hk])];simp
def Aa6 (L:Nat)(x:BitVec 64):R6 L x x=true:=by unfold R6;rw[Vd (f:=fun k=>x.getLsbD k && !x.getLsbD k) (fun k _=>by simp)];simp
def WG (G8:Nat->Nat->Bool)(i:Nat){j:Nat}:∀m,j<=m->∃s,K5 G8 i m=K5 G8 i j++s
 |0,h=>⟨[],by obtain rfl:j=0:=(by omega);simp⟩
 |m+1,h=>by
  by_cases e:j=m+1
  .subst e;exact⟨[],by simp⟩
  obtain⟨s,hs⟩:=WG G8 i (j:=j) m (by omega);exact⟨_,by rw[Z6,hs,AR0]⟩
def WH (G8:Nat->Nat->Bool)(n:Nat){i:Nat}:∀m,i<=m->∃s,J9 G8 n m=J9 G8 n i++s
 |0,h=>⟨[],by obtain rfl:i=0:=(by omega);simp⟩
 |m+1,h=>by
  by_cases e:i=m+1
  .subst e;exact⟨[],by simp⟩
  obtain⟨s,hs⟩:=WH G8 n (i:=i) m (by omega);exact⟨_,by show J9 G8 n m++K5 G8 m n=_;rw[hs,AR0]⟩
def ltP (x y:C4):Prop:=x.a0<y.a0 \/ x.a0=y.a0/\x.a1<y.a1
def QZ {G8:Nat->Nat->Bool}{i m:Nat}{x:C4}(h:x∈K5 G8 i m):x.a0=(i:Int)/\x.a1<(m:Int):=by
 unfold K5 at h;obtain⟨j,h1,rfl⟩:=AV9.1 h
 have:=AL7.1 (Bc8.1 h1).1
 exact⟨rfl,by show (j:Int)<m;omega⟩
def Nb (G8:Nat->Nat->Bool)(i:Nat):∀m,(K5 G8 i m).Pairwise ltP
 |0=>by simp[K5]
 |m+1=>by
  rw[Z6,Bi8];refine⟨Nb G8 i m,?_,fun x hx y hy=>?_⟩
  .split<;>simp
  split at hy
  .obtain rfl:=AT4.1 hy;obtain⟨h1,a⟩:=QZ hx;exact .inr ⟨h1,a⟩
  cases hy
def WI {G8:Nat->Nat->Bool}{n:Nat}{x:C4}:∀{i:Nat},x∈J9 G8 n i->x.a0<(i:Int)
 |0,h=>by cases h
 |i+1,h=>by
  rcases Bh7.1 h with h|h
  .have:=WI h;omega
  have:=(QZ h).1;omega
def Nc (G8:Nat->Nat->Bool)(n:Nat):∀i,(J9 G8 n i).Pairwise ltP
 |0=>List.Pairwise.nil
 |i+1=>by show (J9 G8 n i++K5 G8 i n).Pairwise ltP;rw[Bi8];exact⟨Nc G8 n i,Nb G8 i n,fun x hx y hy=>.inl (by rw[(QZ hy).1];exact WI hx)⟩
def Av2 {α : Type}{s:Sl α}{l:List α}(h:s.toList=l){k:Nat}(hk:k<s.n):l[k]? = some (s.g k):=by rw[<- h];unfold Sl.toList;rw[AK7,AW0 hk];rfl
def Aa7 (x y:Int):T9 N x y=some (if x<y then -1 else if y<x then 1 else 0):=by
 unfold T9 Z5;simp only[AL2,bne_self_eq_false,AK8,Cj];by_cases h:x<y
 .rw[Az (by simpa using h),Az h]
 rw[Bb (by simpa using h),Bb h];by_cases a:y<x
 .rw[Az (by simpa using a),Az a]
 rw[Bb (by simpa using a),Bb a]
def Av3 (a:10<=N){x y:C4}(h:ltP y x):O6 N x y=some 1:=by
 obtain⟨M,rfl⟩:∃M,N=M+3:=⟨N-3,by omega⟩;unfold O6 J8;rw[Bw];have g0:(Sl.of [x.a0,x.a1]:Sl Int).g (0:Int).toNat=x.a0:=rfl;have g1:(Sl.of [y.a0,y.a1]:Sl Int).g (0:Int).toNat=y.a0:=rfl;have g2:(Sl.of [x.a0,x.a1]:Sl Int).g (1:Int).toNat=x.a1:=rfl;have g3:(Sl.of [y.a0,y.a1]:Sl Int).g (1:Int).toNat=y.a1:=rfl;have n1:((Sl.of [x.a0,x.a1]:Sl Int).n:Int)=2:=rfl;have n2:((Sl.of [y.a0,y.a1]:Sl Int).n:Int)=2:=rfl;rw[n1,n2,Az (by decide),Az (by decide),Bb (by decide),Az (by decide),g0,g1,Aa7,AL2];rcases h with h|⟨h,h'⟩
 .have c1:(if x.a0<y.a0 then (-1:Int)else if y.a0<x.a0 then 1 else 0)=1:=by rw[Bb (show ¬x.a0<y.a0 by omega),Az h]
  rw[c1,Az (by decide)];rfl
 have c1:(if x.a0<y.a0 then (-1:Int)else if y.a0<x.a0 then 1 else 0)=0:=by rw[Bb (show ¬x.a0<y.a0 by omega),Bb (show ¬y.a0<x.a0 by omega)]
 have c2:(if x.a1<y.a1 then (-1:Int)else if y.a1<x.a1 then 1 else 0)=1:=by rw[Bb (show ¬x.a1<y.a1 by omega),Az h']
 rw[c1,Bb (by decide),show wrap .i64 ((0:Int)+1)=1 from Cn (i:=0) (by omega),Bw,Az (by decide),Az (by decide),Bb (by decide),Az (by decide),g2,g3,Aa7,AL2,c2,Az (by decide)];rfl
def Yq (j:20000<=N){c:Sl C4}(hn:c.n<=10000)(hs:c.toList.Pairwise ltP):C6 N c (fun u3 u4=>O6 N u3 u4)=some true:=by
 refine Ar3 ?_;unfold C6;have a:∀k,k+1<c.n->ltP (c.g k) (c.g (k+1)):=fun k hk=>by have h1:=List.pairwise_iff_getElem.1 hs k (k+1) (by rw[DJ];omega) (by rw[DJ];omega) (by omega);have a1:=Av2 (s:=c) rfl (show k<c.n by omega);have a2:=Av2 (s:=c) rfl hk;rw[AK4 (by rw[DJ];omega)]at a1 a2;rw[AM8 a1,AM8 a2]at h1;exact h1
 by_cases f:c.n=0
 .obtain⟨M,rfl⟩:∃M,N=M+1:=⟨N-1,by omega⟩;rw[f,Bw];exact Bx (by decide) ⟨_,rfl,rfl⟩
 rw[WD (i:=c.n) (by omega) (by omega)];refine QX (fun i x1=>x1=((c.n-1-i:Nat):Int)) (c.n-1) _ (by omega) rfl ?_;rintro d i x1 l rfl b;by_cases e:i<c.n-1
 .obtain⟨k,hk⟩:∃k,c.n-1-i=k+1:=⟨c.n-2-i,by omega⟩;rw[hk,WD (i:=k+1) (by omega) (by omega),Nat.add_sub_cancel,AK3,AK3];refine U0 (by simp) (U0 (by omega) (BK (Av3 (by omega) (a k (by omega))) (Bx (by decide) (b e _ (by congr 1;omega)))))
 exact Bx (by simp;omega) ⟨_,rfl,rfl⟩
def Ak1 (N:Nat)(c:Int)(l:Sl Int):FO N c l=Kq N c l:=rfl
end Go.AM
namespace Go.AM
open IntKind (wrap)
open Go.Proofs
def SW {N:Nat}{l:Sl Int}{c:Nat}(hN:20000<=N)(hw:D0 N=some true)(hc:c<256)(hl:inU64 l):Cm N (c:Int) l=some true:=by
 obtain⟨t0,ht0,hT0,hC0⟩:=Aj6 (N:=N) (by omega) hc hl;have hL:c % 33<=32:=by omega
 generalize c % 33=L at hC0 hL;obtain⟨hL1,_,hn0,hs0⟩:=hC0;refine Ar3 ?_;unfold Cm;rw[Ak1];refine BK ht0 (Aa1 ?_);have main:∀z1:Sl Int,z1.n<=62->z1.n<=t0.Has.n->(∀i,i<z1.n->z1.g i=t0.Has.g i)->∃r,(if (0:Int)<=t0.Langs then
  if ((z1.n+(Sl.of [0,wrap .u64 ((shI .shl .u64 1 t0.Langs)-1)]:Sl Int).n)*8<=140737488355328/\z1.n+(Sl.of [0,wrap .u64 ((shI .shl .u64 1 t0.Langs)-1)]:Sl Int).n<=140737488355328)then
   (G6 N (⟨t0.Langs,z1.app (Sl.of [0,wrap .u64 ((shI .shl .u64 1 t0.Langs)-1)]:Sl Int)⟩:A3)).bind fun y2=>
   lt (fun (z2:Bool)=>
    if z2 then
     some false
    else
     BC N (fun u (x5:Int) (x6:Int)=>
      if (decide (x6<((z1.app (Sl.of [0,wrap .u64 ((shI .shl .u64 1 t0.Langs)-1)]:Sl Int)).n:Int))) then
       if ((0:Int)<=x6/\x6<((z1.app (Sl.of [0,wrap .u64 ((shI .shl .u64 1 t0.Langs)-1)]:Sl Int)).n:Int))then
        BC N (fun m (x9:Int) (d:Int)=>
         if (decide (d<((z1.app (Sl.of [0,wrap .u64 ((shI .shl .u64 1 t0.Langs)-1)]:Sl Int)).n:Int))) then
          if ((0:Int)<=d/\d<((z1.app (Sl.of [0,wrap .u64 ((shI .shl .u64 1 t0.Langs)-1)]:Sl Int)).n:Int))then
           (I5 N (⟨t0.Langs,z1.app (Sl.of [0,wrap .u64 ((shI .shl .u64 1 t0.Langs)-1)]:Sl Int)⟩:A3) x6 d).bind fun v=>
           (I5 N (⟨t0.Langs,z1.app (Sl.of [0,wrap .u64 ((shI .shl .u64 1 t0.Langs)-1)]:Sl Int)⟩:A3) d x6).bind fun y22=>
           if (((((v.2 != 0)||(y22.2 != 0))||((v.1==y22.1) != true))||((v.1==((((E3 .and .u64 ((z1.app (Sl.of [0,wrap .u64 ((shI .shl .u64 1 t0.Langs)-1)]:Sl Int)).g x6.toNat) ((z1.app (Sl.of [0,wrap .u64 ((shI .shl .u64 1 t0.Langs)-1)]:Sl Int)).g d.toNat))==0)||((E3 .and .u64 ((z1.app (Sl.of [0,wrap .u64 ((shI .shl .u64 1 t0.Langs)-1)]:Sl Int)).g x6.toNat) ((z1.app (Sl.of [0,wrap .u64 ((shI .shl .u64 1 t0.Langs)-1)]:Sl Int)).g d.toNat))==((z1.app (Sl.of [0,wrap .u64 ((shI .shl .u64 1 t0.Langs)-1)]:Sl Int)).g x6.toNat)))||((E3 .and .u64 ((z1.app (Sl.of [0,wrap .u64 ((shI .shl .u64 1 t0.Langs)-1)]:Sl Int)).g x6.toNat) ((z1.app (Sl.of [0,wrap .u64 ((shI .shl .u64 1 t0.Langs)-1)]:Sl Int)).g d.toNat))==((z1.app (Sl.of [0,wrap .u64 ((shI .shl .u64 1 t0.Langs)-1)]:Sl Int)).g d.toNat)))) != true))||((!v.1)&&(((decide ((z1.n:Int)<=x6))||(decide ((z1.n:Int)<=d)))||(x6==d)))) then
            some false
           else
            if ((decide (x6<d))&&(!v.1)) then
             if ((decide ((y2.1.n:Int)<=x9))=false->((0:Int)<=x9/\x9<(y2.1.n:Int)))then
              if ((decide ((y2.1.n:Int)<=x9))||((((y2.1.g x9.toNat).a0==x6)&&((y2.1.g x9.toNat).a1==d)) != true)) then
               some false
              else
               m (wrap .i64 (x9+1)) (wrap .i64 (d+1))
             else none
            else
             m x9 (wrap .i64 (d+1))
          else none
         else
          u x9 (wrap .i64 (x6+1))
         ) x5 0
       else none
      else
       Y1 N (fun w (o:Int)=>
        if (decide (o<t0.Langs)) then
         if t0.Langs≠0 then
          (N3 N (⟨t0.Langs,z1.app (Sl.of [0,wrap .u64 ((shI .shl .u64 1 t0.Langs)-1)]:Sl Int)⟩:A3) o ((wrap .i64 ((wrap .i64 (o*7))+(z1.n:Int))).tmod t0.Langs)).bind fun y27=>
          (N3 N (⟨t0.Langs,z1.app (Sl.of [0,wrap .u64 ((shI .shl .u64 1 t0.Langs)-1)]:Sl Int)⟩:A3) ((wrap .i64 ((wrap .i64 (o*7))+(z1.n:Int))).tmod t0.Langs) o).bind fun y28=>
          if (((y27.2 != 0)||(y28.2 != 0))||(y27.1 != y28.1)) then
           some false
          else
           w (wrap .i64 (o+1))
         else none
        else
         lt (fun (z3:Bool)=>
          some z3
          ) fun k3=>
          if (x5==(y2.1.n:Int)) then
           (D0 N ).bind fun y30=>
           k3 y30
          else
           k3 false
        ) 0
      ) 0 0
    ) fun k2=>
    if (y2.2 != 0) then
     k2 true
    else
     (C6 N y2.1 (fun (u3:C4) (u4:C4)=>O6 N u3 u4)).bind fun y4=>
     k2 (!y4)
  else none
  else none)=some r/\r=true:=by
  intro z1 hz62 hzt hzg;rw[hL1,Aa3 hL];have hap:(z1.app (Sl.of [0,U (V5 L)]:Sl Int)).n=z1.n+2:=rfl;obtain⟨t,ht⟩:∃t:A3,t=⟨(L:Int),z1.app (Sl.of [0,U (V5 L)]:Sl Int)⟩:=⟨_,rfl⟩;have htn:t.Has.n=z1.n+2:=by rw[ht];rfl
  have hg1:∀i,i<z1.n->t.Has.g i=U (AW t0 i):=fun i z=>by rw[ht];show (if i<z1.n then z1.g i else _)=_;rw[Az z,hzg i z,Dk hT0 (by omega)]
  have hg2:t.Has.g z1.n=U 0#64:=by rw[ht];show (if z1.n<z1.n then z1.g z1.n else (Sl.of [0,U (V5 L)]:Sl Int).g (z1.n-z1.n))=_;rw[Bb (AZ7 _),Bh8];rfl
  have hg3:t.Has.g (z1.n+1)=U (V5 L):=by rw[ht];show (if z1.n+1<z1.n then z1.g (z1.n+1)else (Sl.of [0,U (V5 L)]:Sl Int).g (z1.n+1-z1.n))=_;rw[Bb (by omega),Bf5];rfl
  have bU:∀{i:Nat}{x:BitVec 64},t.Has.g i=U x->AW t i=x:=fun {i x} e=>by rw[AW,e];show BitVec.ofNat 64 (x.toNat:Int).toNat=x;rw[AK3];simp
  have cases3:∀i,i<t.Has.n->i<z1.n \/ i=z1.n \/ i=z1.n+1:=fun i z=>by omega
  have hT:Jn t:=⟨by omega,fun i z=>by
   rcases cases3 i z with h|rfl|rfl
   .exact⟨_,hg1 i h⟩
   .exact⟨_,hg2⟩
   exact⟨_,hg3⟩⟩
  have hS:∀i,i<t.Has.n->Cg L (AW t i):=fun i z=>by
   rcases cases3 i z with h|rfl|rfl
   .rw[bU (hg1 i h)];exact hs0 i (by omega)
   .rw[bU hg2];exact fun k _ _=>by simp
   rw[bU hg3];exact Aj9 (by omega)
  have hC:PL t L:=⟨by rw[ht],hL,by omega,hS⟩;have hLt:(⟨(L:Int),z1.app (Sl.of [0,U (V5 L)]:Sl Int)⟩:A3)=t:=ht.symm;have hHt:z1.app (Sl.of [0,U (V5 L)]:Sl Int)=t.Has:=by rw[ht]
  rw[hLt,hHt];refine U0 (by omega) (U0 (by show (z1.n+2)*8<=_/\z1.n+2<=_;omega) ?_);obtain⟨⟨cl,ce⟩,hc1,s,hc3⟩:=LO (N:=N) (by omega) hT hC;have hc3:ce=0:=hc3;subst hc3;have s:cl.toList=J9 (fun i j=>!R6 L (AW t i) (AW t j)) t.Has.n t.Has.n:=s;obtain⟨G8,hnf⟩:∃G8:Nat->Nat->Bool,G8=fun i j=>!R6 L (AW t i) (AW t j):=⟨_,rfl⟩;rw[<- hnf]at s;have hnf:∀i j,G8 i j = !R6 L (AW t i) (AW t j):=fun i j=>by rw[hnf]
  have hcn:cl.n<=64*64:=by rw[<- DJ cl,s];exact AO4 (IN G8 _ _) (Bj2 (by omega) (by omega))
  refine BK hc1 (Aa1 ?_);refine Bx (by show ¬((0:Int) != 0)=true;decide) (BK (Yq (N:=N) hN (by show cl.n<=_;omega) (by show cl.toList.Pairwise ltP;rw[s];exact Nc _ _ _)) ?_);refine Bx (by show ¬(!true)=true;decide) ?_;refine Mg (fun i (x5 x6:Int)=>x6=(i:Int)/\x5=((J9 G8 t.Has.n i).length:Int)) t.Has.n _ (by omega) ⟨rfl,rfl⟩ ?_;rintro u i x5 x6 z ⟨rfl,rfl⟩ hs3;by_cases hil:i<t.Has.n
  .refine U0 (by simp;omega) (U0 (by omega) ?_);refine Mg (fun j (x9 d:Int)=>d=(j:Int)/\x9=((J9 G8 t.Has.n i++K5 G8 i j).length:Int)) t.Has.n _ (by omega) ⟨rfl,by rw[WE G8 i 0 (by omega),AQ0]⟩ ?_;rintro m j x9 d hj ⟨rfl,rfl⟩ hs4;by_cases hjl:j<t.Has.n
   .refine U0 (by simp;omega) (U0 (by omega) ?_);have e1:=PN (N:=N) (by omega) hT hC (i:Int) (j:Int);rw[Az ⟨⟨by omega,by omega⟩,by omega,by omega⟩,AK3,AK3]at e1;have e2:=PN (N:=N) (by omega) hT hC (j:Int) (i:Int);rw[Az ⟨⟨by omega,by omega⟩,by omega,by omega⟩,AK3,AK3,Na]at e2;refine BK e1 (BK e2 ?_);rw[AK3,AK3,Dk hT hil,Dk hT hjl,Ak0 (hS i hil) (hS j hjl) (by omega)];have hno:R6 L (AW t i) (AW t j)=false->i<z1.n/\j<z1.n/\i≠j:=fun hf=>by
     refine⟨?_,?_,?_⟩
     .rcases cases3 i hil with h|rfl|rfl
      .exact h
      .rw[bU hg2,SV]at hf;cases hf
      rw[bU hg3,WF (by omega)]at hf;cases hf
     .rcases cases3 j hjl with h|rfl|rfl
      .exact h
      .rw[Na,bU hg2,SV]at hf;cases hf
      rw[Na,bU hg3,WF (by omega)]at hf;cases hf
     rintro rfl;rw[Aa6]at hf;cases hf
    have y:=hnf i j;generalize R6 L (AW t i) (AW t j)=f at hno y;have step:∀x9:Int,x9=((J9 G8 t.Has.n i++K5 G8 i (j+1)).length:Int)->∃r,m x9 (wrap .i64 ((j:Int)+1))=some r/\r=true:=fun x9 e=>hs4 hjl _ _ ⟨Cn (by omega),e⟩;cases f
    .obtain⟨h1,h2,h3⟩:=hno rfl;refine Bx (by simp;omega) ?_;by_cases hij:i<j
     .obtain⟨s1,hs1⟩:=WG G8 i (j:=j+1) t.Has.n (by omega);obtain⟨s2,hs2⟩:=WH G8 t.Has.n (i:=i+1) t.Has.n (by omega);have hrow:K5 G8 i (j+1)=K5 G8 i j++[⟨(i:Int),(j:Int)⟩]:=by rw[Z6,y,Az (by simp[hij])]
      have hall:cl.toList=(J9 G8 t.Has.n i++K5 G8 i j)++(⟨(i:Int),(j:Int)⟩::s1++s2):=by rw[s,hs2];show (J9 G8 t.Has.n i++K5 G8 i t.Has.n)++s2=_;rw[hs1,hrow];simp
      have hlen:(J9 G8 t.Has.n i++K5 G8 i j).length<cl.n:=by rw[<- DJ cl,hall,AL4];simp
      have hat:cl.g (J9 G8 t.Has.n i++K5 G8 i j).length=⟨(i:Int),(j:Int)⟩:=by
       have:=Av2 hall hlen
       rw[AU9 (AK6 _),Bh8]at this;exact (AM8 this).symm
      have hl2:(J9 G8 t.Has.n i++K5 G8 i (j+1)).length=(J9 G8 t.Has.n i++K5 G8 i j).length+1:=by rw[hrow,<- AR0,AL4];rfl
      generalize (J9 G8 t.Has.n i++K5 G8 i j).length=q at hlen hat hl2;refine U0 (by simp;omega) (U0 (fun _=>by show (0:Int)<=(q:Int)/\(q:Int)<(cl.n:Int);omega) ?_);rw[AK3];refine Bx ?_ (step _ (by rw[hl2];exact Cn (by omega)));show ¬((decide ((cl.n:Int)<=(q:Int)))||((((cl.g q).a0==(i:Int))&&((cl.g q).a1==(j:Int))) != true))=true;rw[hat];simp;omega
     refine Bx (by simp;omega) (step _ ?_);rw[Z6,Bb (by simp;omega),AQ0]
    refine Bx (by simp) (Bx (by simp) (step _ ?_));rw[Z6,y,Bb (by simp),AQ0]
   obtain rfl:j=t.Has.n:=by omega
   exact Bx (by simp) (hs3 hil _ _ ⟨Cn (by omega),rfl⟩)
  obtain rfl:i=t.Has.n:=by omega
  refine Bx (by simp) ?_;refine QX (fun a o=>o=(a:Int)) L _ (by omega) rfl ?_;rintro w a o ha rfl hs5;by_cases hal:a<L
  .refine U0 (by simp;omega) (U0 (by omega) ?_);have e0:wrap .i64 ((a:Int)*7)=((a*7:Nat):Int):=by rw[CB (by omega) (by omega)];omega
   have e1:wrap .i64 (((a*7:Nat):Int)+(z1.n:Int))=((a*7+z1.n:Nat):Int):=by rw[CB (by omega) (by omega)];omega
   have e2:((a*7+z1.n:Nat):Int).tmod (L:Int)=(((a*7+z1.n) % L:Nat):Int):=rfl;rw[e0,e1,e2];have hb:=Bi2 (a*7+z1.n) (show 0<L by omega);generalize (a*7+z1.n) % L=b at hb;have f1:=PM (N:=N) (by omega) hT hC (a:Int) (b:Int);have f2:=PM (N:=N) (by omega) hT hC (b:Int) (a:Int);rw[Aa5 hal,Aa5 hb,Bb (by decide)]at f1 f2;refine BK f1 (BK f2 (Bx ?_ (hs5 hal _ (Cn (by omega)))));rw[Yp (p:=fun i=>Aj7 t (b:Int).toNat i&&Aj7 t (a:Int).toNat i) (q:=fun i=>Aj7 t (a:Int).toNat i&&Aj7 t (b:Int).toNat i) fun i _=>AZ1 _ _];simp
  refine Bx (by simp;omega) (Aa1 (U0 ?_ (BK hw ⟨_,rfl,rfl⟩)));rw[<- DJ cl,s];simp
 by_cases h62:62<t0.Has.n
 .refine U0 (by simp;omega) (U0 (by omega) ?_);exact main (t0.Has.take 62) (by show 62<=62;omega) (by show 62<=_;omega) fun i z=>rfl
 exact Bx (by simp;omega) (main t0.Has (by omega) (AK6 _) fun i z=>rfl)
end Go.AM
namespace Go.AM
open Go.RowKit Go.ChangeShapes Go.WideShapes Go.ChangeAt Go.Deep Go.Proofs Go.Proofs.YtfcfdofmgkpmbaaGreatDoor
section
variable {H:Type}{enc:TypeId×Value->H}{P:Program}{W:World}
theorem PP {v:Value}{x:PV}(a:v.cells.toList=[v])(h:CRep W v.cells.toList [x]):RepP W (fun _ _=>False) v x:=by
 have:=(h.2 0 (by simp)).1
 rw[a]at this;exact this
end
end Go.AM
namespace Go.AM
def AD9 {n:Int}(hw:(Lit.int .u64 n).wf=true):∃p:BitVec 64,n=U p:=by
 simp only[Lit.wf,IntKind.min,IntKind.max,IntKind.signed,IntKind.bits,AK5,decide_eq_true_eq]at hw;refine⟨BitVec.ofNat 64 n.toNat,?_⟩;show n=((BitVec.ofNat 64 n.toNat).toNat:Int);rw[AT3];have a:0<=n:=by have:=hw.1;simpa using this
 have h1:n<18446744073709551616:=by have:=hw.2;simp at this;omega
 rw[AQ9 (by omega),Bj7 a]
end Go.AM
namespace Go.AM
open Go.RowKit Go.ChangeShapes Go.WideShapes Go.ChangeAt Go.Deep Go.Proofs Go.Proofs.YtfcfdofmgkpmbaaGreatDoor
namespace InTwo
set_option maxRecDepth 100000
def contract (H:Type)(enc:TypeId×Value->H)(W:World)(base:Nat)(args:Array Value)(ds gs:List (DataW H))(before:List MemPlace)
 (a:∀(j:Nat) t v,Tryz.f13.params[j]? = some t->args[j]? = some v->Value.okWide Tryz.prog W .any base t v)
 (u:DataW.Whole enc Tryz.prog Tryz.f13.params.toList Rows.innovTwoSpec.vars false W args.toList ds gs before) (hk:Rows.uptoSmall H (ds++gs)=true) (hL:laidMetH Tryz.prog Rows.innovTwoUptoRow.laid W) :
 Calls Tryz.prog 13 args W fun e W'=>∃v,e=.returned v/\Rows.innovTwoSpec.post enc Tryz.prog Tryz.f13 false true false false W args v W':=by
 have c:=u;obtain⟨p,q,d,y,rfl,z,a0⟩:=u;have w:DataW.TrodAll enc Tryz.prog W 0 (fun _=>true) true Tryz.f13.params.toList args.toList ds p:=d;rw[Bl1]at w a;obtain⟨v0,vs0,d0,ds0,p0,q0,f,rfl,rfl,h0,r0⟩:=trodAll_cons w;obtain⟨v1,vs1,d1,ds1,p1,q1,rfl,rfl,rfl,h1,r1⟩:=trodAll_cons r0;obtain⟨rfl,rfl,rfl⟩:=trodAll_nil r1;obtain rfl:args = #[v0,v1]:=by cases args;simp_all
 obtain⟨rfl,rfl⟩:=trodVars_none y;have hb:=of_decide_eq_true hk;simp only[AQ0,Rows.uptoBulkAll]at hb;obtain⟨_,g⟩:=okWide_int AQ3 (a 0 5 v0 rfl rfl);obtain⟨a1,len1,cap1,l⟩:=okWide_slice Tryz.underlying22 (a 1 22 v1 rfl rfl);obtain⟨fu0,g0⟩:=h0;obtain⟨fu1,g1⟩:=h1;have x:WB Tryz.prog [5,22,44]=true:=by kernel_rfl
 have b:∀t∈([5,22,44]:List Nat),t<Tryz.prog.types.size:=by decide +kernel
 obtain⟨pv0,c0,sh0⟩:=Fk ZZ Aa0 x b fu0 5 _ _ (by simp) g0;obtain⟨x0,l0,w0,s0⟩:=P1 AQ3 _ _ sh0;have s0:1<=Rows.uptoBulk d0:=s0;have e0:=PP (by rw[g];rfl) (c0.leD l0);obtain⟨pv1,c1,sh1⟩:=Fk ZZ Aa0 x b fu1 22 _ _ (by simp) g1;obtain⟨x1,l1,w1,s1⟩:=OK Tryz.underlying22 (by kernel_rfl) (P1 Be3) _ _ sh1;have s1:(FN (fun i=>1) x1.n+1)<=Rows.uptoBulk d1:=s1;have e1:=PP (by rw[l];rfl) (c1.leD l1);obtain⟨c0,m,o⟩:=Ai9 w0;have hP:FunO (FL Tryz.prog) EE [.p (pI .u8 x0),.p (vSl 1 (cI .u64) x1)] [] (.p (.bb true)) [] []:=
  OL (Ar0 _) libC (by rw[m];exact SW (N:=4194304) (by omega) QV o (fun i r=>AD9 (w1 i r)))
 have hc:=FM (args:=[pI .u8 x0,vSl 1 (cI .u64) x1]) (enters_of Ih (by decide +kernel) rfl) hP (W:=W) (vs:=#[v0,v1]) (Va hL) rfl (fun i r=>by
  match i,r with
  |0,_=>exact e0
  |1,_=>exact e1
  )
 refine hc.mono fun e W' ⟨he,s⟩=>?_;subst he;exact⟨_,rfl,QS rfl (by kernel_rfl) AU3 (by kernel_rfl) (by rw[Bl1];decide +kernel) c rfl s⟩
def own:ownKnob Tryz.prog.godebug=none:=by kernel_rfl
def reads (os:Os){H:Type}(enc:TypeId×Value->H):∃places,DataW.whole enc Tryz.prog ((World.laidAll Tryz.prog os Rows.innovTwoUptoRow.laid).forCall (fun _ _=>0) ⟨#[],#[.int .u8 0,.slice none 0 0],[]⟩).memory Tryz.f13.params.toList Rows.innovTwoSpec.vars false (#[.int .u8 0,.slice none 0 0]:Array Value).toList 16=some ([.lit (.int .u8 0),.nil],[],places):=
 ⟨[],by kernel_rfl⟩
def laid_met (os:Os):laidMet Tryz.prog Rows.innovTwoUptoRow.laid ((World.laidAll Tryz.prog os Rows.innovTwoUptoRow.laid).forCall (fun _ _=>0) ⟨#[],#[.int .u8 0,.slice none 0 0],[]⟩).memory:=
 laidMet_laidAll _ (by kernel_rfl) (by kernel_rfl)
def liftedUpto (os:Os)(started:os.Started)(H:Type)(enc:TypeId×Value->H)(F:Stop.Interp) :ReturnsInHanded {} Tryz.checked os 13 .any ((Rows.OpenSpec.upto Rows.innovTwoSpec).preRow enc Tryz.prog Tryz.f13 Rows.innovTwoUptoRow.domain false Rows.innovTwoUptoRow.laid) (((Rows.OpenSpec.upto Rows.innovTwoSpec).at F).post enc Tryz.prog Tryz.f13 false true false false):=by
 obtain⟨places,hx⟩:=reads os enc;refine returnsInHanded_of_row (C:=Tryz.checked) (s:=Rows.OpenSpec.upto Rows.innovTwoSpec) own started (by kernel_rfl) Bm0
  (witness_row_at (enc:=enc) (C:=Tryz.checked) false (World.laidAll Tryz.prog os Rows.innovTwoUptoRow.laid) #[.int .u8 0,.slice none 0 0] (World.laidAll_os _ _ _) (by kernel_rfl) (by kernel_rfl) (by kernel_rfl)
   (Ba0 16 hx (by kernel_rfl) (fun k hk=>by cases hk;kernel_rfl) (by kernel_rfl) (laid_met os))) ?_
 intro W base args ds gs before b c _ a _ hL _ _;exact contract H enc W base args ds gs before b c (a _ rfl) hL
def gA:jA_ Tryz.pinned.checked.prog 13 Tryz.f13 (Rows.OpenSpec.upto Rows.innovTwoSpec).bare Rows.innovTwoUptoRow=true:=by kernel_rfl
def gB:jB_ Tryz.pinned.checked.prog 13 Tryz.f13 (Rows.OpenSpec.upto Rows.innovTwoSpec).bare Rows.innovTwoUptoRow=true:=by kernel_rfl
def gC:jC_ Tryz.pinned.checked.prog 13 Tryz.f13 (Rows.OpenSpec.upto Rows.innovTwoSpec).bare Rows.innovTwoUptoRow=true:=by kernel_rfl
def gD:jD_ Tryz.pinned.checked.prog 13 Tryz.f13 (Rows.OpenSpec.upto Rows.innovTwoSpec).bare Rows.innovTwoUptoRow=true:=by kernel_rfl
def gE:jE_ Tryz.pinned.checked.prog 13 Tryz.f13 (Rows.OpenSpec.upto Rows.innovTwoSpec).bare Rows.innovTwoUptoRow=true:=by kernel_rfl
def gF:jF_ Tryz.pinned.checked.prog 13 Tryz.f13 (Rows.OpenSpec.upto Rows.innovTwoSpec).bare Rows.innovTwoUptoRow=true:=by kernel_rfl
def saidUpto:Rows.InnovTwoUptoSaid:=
 Ba3 13 Tryz.f13 rfl rfl rfl rfl rfl rfl rfl ⟨rfl,rfl,rfl,rfl,rfl⟩ rfl rfl rfl rfl rfl (by kernel_rfl) Bm0 (MP gA gB gC gD gE gF)
  (of_decide_eq_true (by kernel_rfl)) (by unfold Func.isWrapper;first|(rw[Az (by decide +kernel)];kernel_rfl)|(rw[Bb (by decide +kernel)];exact⟨rfl,rfl⟩))
  (fun os started H enc _ F=>by rw[Ba6];exact liftedUpto os started H enc F)
def plain (f:FuncId)(fn:Func)(b:Tryz.pinned.checked.prog.funcNamed "ablaut/ablautlaw31.InnovTwo" = some f)(a:Tryz.pinned.checked.prog.funcs[f]? = some fn) :true=Tryz.pinned.checked.prog.looks []/\∀(j:Nat) t,fn.params[j]? = some t->Tryz.pinned.checked.prog.wantsStandIn t=false:=by
 obtain rfl:f=13:=AM8 ((show Tryz.prog.funcNamed "ablaut/ablautlaw31.InnovTwo" = some 13 by kernel_rfl).symm.trans b) |>.symm;obtain rfl:fn=Tryz.f13:=(AM8 (Tryz.func13.symm.trans a)).symm;refine⟨by kernel_rfl,fun j t ht=>?_⟩;rw[Bl1]at ht;have hm:=AW8 ht;simp only[Bg4,AO3,Bg7,or_false]at hm;rcases hm with rfl|rfl
 .exact (show Tryz.prog.wantsStandIn 5=false by kernel_rfl)
 exact (show Tryz.prog.wantsStandIn 22=false by kernel_rfl)
def cardUpto:Rows.InnovTwoUptoCardSaid:=
 AX8 .later [] _ _ _ _ saidUpto (fun _ h=>by cases h) (by kernel_rfl) (fun _ h=>by cases h) innovTwoUpto_row_tie rfl ⟨rfl,rfl⟩ (by kernel_rfl) rfl plain (by kernel_rfl)
end InTwo
end Go.AM
