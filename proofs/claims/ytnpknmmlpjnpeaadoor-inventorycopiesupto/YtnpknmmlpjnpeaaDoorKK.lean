/- Part 11. -/
import Derived.Test.YtnpknmmlpjnpeaaDoorKJ
set_option linter.defProp false
set_option linter.unusedSimpArgs false
set_option linter.unusedVariables false
set_option linter.unusedSectionVars false
namespace Go.AM
variable {N:Nat}
open Go.Proofs
def Io (s:Str)(most:Int)(p:Int->Bool)(f:Int->Option Bool)(b:∀i,i<s.length->f (D6 s i)=some (p (D6 s i)))(hs:s.length<N)(c:s.length<1000000000):D4 N s most f=some (DK p s most):=by
 unfold D4;by_cases hc:((decide (((s.length:Nat):Int)<1))||(decide (most<((s.length:Nat):Int))))=true
 .rw[Bh hc];simp only[Bool.or_eq_true,Bz]at hc;simp only[DK,Option.some.injEq];symm;rw[<- Bool.not_eq_true];simp only[Bool.and_eq_true,Bz];omega
 rw[Bv hc];simp only[Bool.or_eq_true,Bz]at hc;refine (U9 (fun i:Nat=>(i:Int)) (fun i=>p (D6 s i)) s.length (some true) (some false) hs fun a i g _=>?_).trans ?_
 .simp only[Bz];by_cases h:i<s.length
  .rw[Ai,Ai,Bh h,Af,b i h];simp only[Option.bind_some];cases p (D6 s i)<;>simp
  rw[Bf,Bv h]
 have h1:decide (1<=s.length)=true:=by simp;omega
 have d:decide ((s.length:Int)<=most)=true:=by simp;omega
 simp only[DK,h1,d,Bool.true_and];cases (List.range s.length).all fun i=>p (D6 s i)<;>rfl
def NY:Str:=[64,63,33,38,42,36,37]
def bigI (c:Int):Bool:=(decide (65<=c)&&decide (c<=90))||decide (0<=Lib.indexByte NY (UInt8.ofNat c.toNat))
def QW (c:Int):Bool:=T7 c||bigI c
def Kf (z:Str):Bool:=DK QW z 4
def Hu (s:Str)(i:Int):0<=D6 s i/\D6 s i<256:=by
 have:=UInt8.toNat_lt (s.getD i.toNat 0)
 constructor
 .exact Int.natCast_nonneg _
 show (((s.getD i.toNat 0).toNat:Nat):Int)<256;have a:(s.getD i.toNat 0).toNat<256:=this;omega
def PA (c:Int)(a:0<=c)(h1:c<256):F7 N c=some (QW c):=by
 unfold F7;have hs:G3 N c=some (T7 c):=rfl;have b:G2 N [64,63,33,38,42,36,37] c=some (Lib.indexByte NY (UInt8.ofNat c.toNat)):=by unfold G2;rw[Bh ⟨a,h1⟩];rfl
 rw[hs,b];simp only[Option.bind_some,lt,QW,bigI];cases T7 c
 .by_cases ha:65<=c
  .by_cases hb:c<=90
   .simp[ha,hb]
   simp[ha,hb]
  simp[ha]
 simp
def NZ (n:Nat)(s:Sl C8)(z:Str)(p m:BitVec 32):Int:= if Kf z then if QU n p m then if (fnd s.n fun i=>z==(s.g i).Symbol||decide (sOf p m=(s.g i).S)).isSome then 6 else if s.n=256 then 4 else 0 else 14 else 15
def PB (v:A2)(z:Str)(s:Cf):A2:=⟨v.feats,v.number,v.sounds.push ⟨z,s⟩,Kk (v.sounds.push ⟨z,s⟩) (v.sounds.n+1),Kl (v.sounds.push ⟨z,s⟩) (v.sounds.n+1)⟩
def LK (s:Sl C8)(x:C8):Kk (s.push x) (s.n+1)=Kk s s.n++[(x.Symbol,(s.n:Int))]:=by
 simp only[Kk,List.range_succ,List.map_append,List.map_cons,List.map_nil];congr 1
 .apply List.map_congr_left;intro i a
  have:=List.mem_range.1 a
  simp[this]
 simp
def LL (s:Sl C8)(x:C8):Kl (s.push x) (s.n+1)=Kl s s.n++[(x.S,(s.n:Int))]:=by
 simp only[Kl,List.range_succ,List.map_append,List.map_cons,List.map_nil];congr 1
 .apply List.map_congr_left;intro i a
  have:=List.mem_range.1 a
  simp[this]
 simp
def QJ (n:Nat)(p q:Nat->Bool):(fnd n fun i=>p i||q i).isSome=((fnd n p).isSome||(fnd n q).isSome):=by
 rw[Bool.eq_iff_iff];simp only[fnd,Bool.or_eq_true,List.find?_isSome];constructor
 .rintro⟨i,h1,a|a⟩
  .exact .inl ⟨i,h1,a⟩
  exact .inr ⟨i,h1,a⟩
 rintro (⟨i,h1,a⟩ | ⟨i,h1,a⟩)
 .exact⟨i,h1,.inl a⟩
 exact⟨i,h1,.inr a⟩
def Nm {z:Str}(h:Kf z=true):1<=z.length/\z.length<=4:=by simp only[Kf,DK,Bool.and_eq_true,Bz]at h;omega
def PC {v:A2}(h:IOk v)(z:Str)(p m:BitVec 32)(f:z.length<N)(d:z.length<1000000000) :C9 N v z (sOf p m)=some (NZ v.feats.n v.sounds z p m,if NZ v.feats.n v.sounds z p m=0 then PB v z (sOf p m)else v):=by
 unfold C9;rw[Io z 4 QW (fun u1=>F7 N u1) (fun i c=>PA _ (Hu z i).1 (Hu z i).2) f d,Im v p m h.feats,QI h.feats,h.symbols,h.values,Kc,Kd];simp only[B0,Option.bind_some,Py];rw[Bv (by simp)];unfold NZ;rw[QJ];show (if (!Kf z) then _ else _)=_;cases hs:Kf z
 .simp
 cases hb:QU v.feats.n p m
 .simp
 simp only[Bool.not_true,Bool.false_eq_true,By,Bx];cases e1:fnd v.sounds.n fun i=>z==(v.sounds.g i).Symbol with
 |some i=>cases e2:fnd v.sounds.n fun i=>decide (sOf p m=(v.sounds.g i).S)<;>simp[Cq]
 |none=>
  cases e2:fnd v.sounds.n fun i=>decide (sOf p m=(v.sounds.g i).S)with
  |some i=>simp[Cq]
  |none=>
   have hn:=h.sounds;simp only[Option.map_none,H9,Option.isSome_none,Bool.or_false,Bool.false_eq_true,By];by_cases a:v.sounds.n=256
   .simp[a]
   rw[Bv (by simp;omega),Bh (by simp only[List.length_cons,List.length_nil];omega),Bv a];simp only[Bx,Option.some.injEq,Prod.mk.injEq,true_and,PB,LK,LL];congr 1
   .refine X9 fun q b=>?_;simp only[Kk,List.mem_map,List.mem_range]at b;obtain⟨i,c,rfl⟩:=b;exact Gm e1 c
   refine X9 fun q b=>?_;simp only[Kl,List.mem_map,List.mem_range]at b;obtain⟨i,c,rfl⟩:=b;rw[Py];exact Gm e2 c
def PD {v:A2}(h:IOk v){z:Str}{p m:BitVec 32}(a:NZ v.feats.n v.sounds z p m=0):IOk (PB v z (sOf p m)):=by
 have hs:Kf z=true:=by
  unfold NZ at a;split at a
  .assumption
  cases a
 have hn:v.sounds.n<256:=by
  have:=h.sounds
  unfold NZ at a;rw[Bh hs]at a;split at a
  .split at a
   .cases a
   split at a
   .cases a
   omega
  cases a
 refine⟨h.number,rfl,rfl,h.feats,hn,fun i b=>?_⟩;show 1<=(if i<v.sounds.n then v.sounds.g i else ⟨z,_⟩).Symbol.length/\_;show 1<=(if i<v.sounds.n then v.sounds.g i else ⟨z,_⟩).Symbol.length/\(if i<v.sounds.n then v.sounds.g i else ⟨z,_⟩).Symbol.length<=4;split
 .rename_i h';exact h.sym i h'
 exact Nm hs
def PE (i:Nat):Str:=[UInt8.ofNat (IntKind.wrap .u8 (IntKind.wrap .i64 (97+(i:Int)))).toNat,48]
def ER:Nat->Sl Str
 |0=>Sl.nil
 |k+1=>(ER k).push (PE k)
def DF:∀k,(ER k).n=k
 |0=>rfl
 |k+1=>by show (ER k).n+1=k+1;rw[DF k]
def Jl:∀k i,i<k->(ER k).g i=PE i
 |0,i,h=>by omega
 |k+1,i,h=>by
  show (if i<(ER k).n then (ER k).g i else PE k)=PE i;rw[DF k];split
  .exact Jl k i ‹_›
  rw[show i=k by omega]
def Nn:∀k,k<=24->NX (ER k)=0:=by
 have h:∀k:Fin 25,NX (ER k.val)=0:=by decide +kernel
 exact fun k hk=>h ⟨k,by omega⟩
abbrev invN (k:Nat):A2:=⟨ER k,Gs (ER k) k,Sl.nil,[],[]⟩
def Ip (k:Nat)(hk:k<=24)(c:1000000<=N):G0 N (k:Int)=some (some (invN k),ER k):=by
 unfold G0 MM;refine Bq (fun i:Nat=>(ER i,(i:Int))) k _ (by omega) fun a i d=>?_;dsimp only;by_cases h:i<k
 .rw[Bh (by simp only[Bz];omega),Bh (by simp only[DF,List.length_cons,List.length_nil];omega),Bh h,Af];rfl
 rw[Bv (by simp only[Bz];omega),Bv h]
 have:i=k:=by omega
 subst this;rw[Pw _ c (fun j b=>by rw[DF]at b;rw[Jl i j b];simp[PE])];simp[Nn i hk,Cq,DF]
def PF {k:Nat}(hk:k<=24):IOk (invN k):=⟨by show Gs (ER k) k=Gs (ER k) (ER k).n;rw[DF],rfl,rfl,by show (ER k).n<=24;rw[DF];exact hk,by show 0<=256;omega,fun i a=>by have:i<0:=a;omega⟩
end Go.AM
namespace Go.AM
open Go.Proofs
end Go.AM
namespace Go.AM
open Go.Proofs
abbrev jn (L:List Str):Str:=Lib.join L [32]
structure Item (s:Sl Str) (x:Str):Prop where
 no:∀c∈x,c≠32
 bad:∀i,i<x.length->∀p m,stepB s (x.take i) p m=none
theorem Jm:∀n k,n<=24->k<n->QV (ER n) (PE k)=some k:=by
 have h:∀(n:Fin 25) (k:Fin 24),k.val<n.val->QV (ER n.val) (PE k.val)=some k.val:=by decide +kernel
 exact fun n k hn hk=>h ⟨n,by omega⟩ ⟨k,by omega⟩ hk
section
variable (n:Nat) (p m:BitVec 32)
end
end Go.AM
namespace Go.AM
open Go.Proofs
end Go.AM
