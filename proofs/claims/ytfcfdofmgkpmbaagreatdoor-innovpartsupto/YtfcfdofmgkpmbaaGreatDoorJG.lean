/- What a law's walk and its plain proof need, part 7: no condition of its own. -/
import Derived.Test.YtfcfdofmgkpmbaaGreatDoorJF
import Derived.Test.YtfcfdofmgkpmbaaGreatDoorJE
set_option linter.unusedSimpArgs false
set_option linter.unusedVariables false
set_option linter.unusedSectionVars false
namespace Go.AM
open IntKind (wrap)
open Go.Proofs
def okC (t:A1)(L:Nat):Prop:=t.Langs=L/\L<=32/\t.Has.n<=64/\∀i,i<t.Has.n->JE L (bT t i)
abbrev giv (t:A1):C8:=⟨t.Langs,t.Has⟩
theorem HN {N:Nat}{t:A1}(hN:1000<=N)(h:okT t):∃e,C4 N t=some e/\O6 N (giv t)=some e/\(e=0->∃L,okC t L):=by
 have hn:=h.1;by_cases hl:t.Langs<0 \/ 32<t.Langs
 ·have hb:((decide (t.Langs<0))||(decide (32<t.Langs)))=true:=by simpa using hl
  exact⟨3,by unfold C4;rw[if_pos hb],by unfold O6;rw[if_pos hb],fun h=>by cases h⟩
 have hb:¬((decide (t.Langs<0))||(decide (32<t.Langs)))=true:=by simpa using hl
 obtain⟨L,hL⟩:∃L:Nat,t.Langs=L:=⟨t.Langs.toNat,by omega⟩;have hL2:L<=32:=by omega
 by_cases hm:64<t.Has.n
 ·have hm' : (decide (64<(t.Has.n:Int)))=true:=by simpa using (by omega:(64:Int)<t.Has.n)
  exact⟨12,by unfold C4;rw[if_neg hb,if_pos hm'],by unfold O6;rw[if_neg hb,if_pos hm'],fun h=>by cases h⟩
 have hm' : ¬(decide (64<(t.Has.n:Int)))=true:=by simp;omega
 have hsub:∀i,(U (bT t i &&& ~~~ HR L) != 0)=false↔JE L (bT t i):=fun i=>by
  rw[bne_eq_false_iff_eq,Je,Cn];constructor
  ·intro h k h1 h2
   have:=h k h2
   rw[BitVec.getLsbD_and,BitVec.getLsbD_not,W4 h2]at this;simpa[h2,show ¬k<L by omega]using this
  ·intro h k h2;rw[BitVec.getLsbD_and,BitVec.getLsbD_not,W4 h2];by_cases h1:k<L
   ·simp[h1]
   ·simp[h k (by omega) h2]
 have h1:B1 N t.Has (fun (u1:Int)=>O4 N u1 t)=some ((List.range t.Has.n).any fun i=>U (bT t i &&& ~~~ HR L) != 0):=
  Gl (by omega) (by omega) fun i hi=>by unfold O4;rw[CE hL hL2,DB h hi];show some _=_;rw[DX]
 have hprog:C4 N t=some (if ((List.range t.Has.n).any fun i=>U (bT t i &&& ~~~ HR L) != 0) then 2 else 0):=by unfold C4;rw[if_neg hb,if_neg hm',h1];simp only[Option.bind_some];split<;>rfl
 refine⟨_,hprog,?_,fun he=>⟨L,hL,hL2,by omega,fun i hi=>?_⟩⟩
 ·unfold O6;rw[if_neg hb,if_neg hm'];generalize hq:((List.range t.Has.n).any fun i=>U (bT t i &&& ~~~ HR L) != 0)=q;obtain⟨r,g1,g2⟩:=Mo (body:=fun self3 (x2:Int)=>
   if (decide (x2<(t.Has.n:Int))) then
    Co N (fun self4 (x4:Int)=>
     if (decide (x4<64)) then
      if ((0:Int)<=x2/\x2<(t.Has.n:Int))then
       (I4 N (t.Has.g x2.toNat) x4).bind fun y9=>
       if y9 then some 2 else self4 (wrap .i64 (x4+1))
      else none
     else self3 (wrap .i64 (x2+1))) t.Langs
   else some 0) (fun i x=>x=(i:Int)/\∀j,j<i->JE L (bT t j)) t.Has.n (fun (r:Int)=>r=if q then 2 else 0) (N:=N) (by omega) (a:=0) ⟨rfl,fun j hj=>absurd hj (by omega)⟩ (by
   rintro self i x hi ⟨rfl,hp⟩ hs;by_cases hlt:i<t.Has.n
   ·refine ifT (by simp;omega) ?_;rw[Int.toNat_natCast,DB h hlt,hL];refine Mo (fun k x4=>x4=((L+k:Nat):Int)/\∀k',k' < k->(bT t i).getLsbD (L+k')=false) (64-L) _ (by omega) ⟨rfl,fun j hj=>absurd hj (by omega)⟩ ?_;rintro self4 k x4 hk ⟨rfl,hp4⟩ hs4;by_cases hlt4:k<64-L
    ·refine ifT (by simp;omega) (ifT (by omega) (X5 (Lr _ _) ?_));by_cases hbit:(bT t i).getLsbD (L+k)=true
     ·refine ifT hbit ⟨_,rfl,?_⟩
      have:q=true:=by
       rw[<- hq,List.any_eq_true];refine⟨i,List.mem_range.2 hlt,?_⟩;cases hz:(U (bT t i &&& ~~~ HR L) != 0)with
       |true=>rfl
       |false=>have:=(hsub i).1 hz (L+k) (by omega) (by omega);rw[hbit]at this;cases this
      rw[this];rfl
     ·refine ifF hbit (hs4 hlt4 _ ⟨Q8 (by omega),fun k' hk'=>?_⟩);by_cases e:k' = k
      ·subst e;simpa using hbit
      ·exact hp4 k' (by omega)
    ·refine ifF (by simp;omega) (hs hlt _ ⟨Q8 (by omega),fun j hj=>?_⟩);by_cases e:j=i
     ·subst e;intro b h1 h2
      have:=hp4 (b-L) (by omega)
      rwa [show L+(b-L)=b by omega]at this
     ·exact hp j (by omega)
   ·refine ifF (by simp;omega) ⟨_,rfl,?_⟩
    have:q=false:=by rw[<- hq,List.any_eq_false];intro j hj;rw[(hsub j).2 (hp j (by have:=List.mem_range.1 hj;omega))];simp
    rw[this];rfl)
  rw[g2]at g1;exact g1
 ·have hq:((List.range t.Has.n).any fun i=>U (bT t i &&& ~~~ HR L) != 0)=false:=by
   cases hz:((List.range t.Has.n).any fun i=>U (bT t i &&& ~~~ HR L) != 0)with
   |false=>rfl
   |true=>rw[hz]at he;cases he
  rw[List.any_eq_false]at hq;exact (hsub i).1 (by simpa using hq i (List.mem_range.2 hi))
theorem any2 {a b:Int}{p:Int->Bool}:((List.range (Sl.of [a,b]:Sl Int).n).any fun i=>p ((Sl.of [a,b]:Sl Int).g i))=(p a||p b):=by show ((List.range 2).any fun i=>p (([a,b]:List Int).getD i default))=_;simp[List.range_succ]
theorem any1 {a:Int}{p:Int->Bool}:((List.range (Sl.of [a]:Sl Int).n).any fun i=>p ((Sl.of [a]:Sl Int).g i))=p a:=by show ((List.range 1).any fun i=>p (([a]:List Int).getD i default))=_;simp[List.range_succ]
def Jf (L:Nat)(a:Int):Bool:=decide (a<0)||decide ((L:Int)<=a)
def Fy (p:Nat->Bool)(n:Nat):Nat:=(FL p n).length
theorem Fz (p:Nat->Bool)(n:Nat):Fy p (n+1)=Fy p n+if p n then 1 else 0:=by unfold Fy;rw[Iv,List.length_append];split<;>rfl
theorem Um {N L:Nat}{t:A1}{q:Int->Option Bool}{p:Nat->Bool}{a:Int}(hN:1000<=N)(h:okT t)(hc:C4 N t=some 0)(hL:t.Langs=L)
 (hf:Jf L a=false->∀i,i<t.Has.n->q (t.Has.g i)=some (p i)) :
 O5 N t q (Sl.of [a]:Sl Int)=some (if Jf L a then (0,3)else ((Fy p t.Has.n:Int),0)):=by
 have hn:=h.1;unfold O5;rw[hc,Option.bind_some,if_neg (by decide),HM (p:=fun i=>Jf L ((Sl.of [a]:Sl Int).g i)) (by show 1<N;omega) (by show 1<_;omega) (fun i hi=>by unfold H7 Jf;rw[hL]),any1 (p:=Jf L),Option.bind_some];by_cases ho:Jf L a=true
 ·rw[if_pos ho,if_pos ho]
 ·rw[if_neg ho,if_neg ho];show (B4 N t q).bind _=_;rw[Fx (by omega) (by omega) (hf (by simpa using ho))];show S7 _ _ _ _=_;have hl:=Gm p t.Has.n
  have:=Iw (FL p t.Has.n) 0 (by omega)
  rw[Nat.zero_add]at this;exact this
theorem Un {N L:Nat}{t:A1}{q:Int->Option Bool}{p:Nat->Bool}{a b:Int}(hN:1000<=N)(h:okT t)(hc:C4 N t=some 0)(hL:t.Langs=L)
 (hf:(Jf L a||Jf L b)=false->∀i,i<t.Has.n->q (t.Has.g i)=some (p i)) :
 N5 N t q (Sl.of [a,b]:Sl Int)=some (if (Jf L a||Jf L b) then (0,3)else ((Fy p t.Has.n:Int),0)):=by
 have hn:=h.1;unfold N5;rw[hc,Option.bind_some,if_neg (by decide),HM (p:=fun i=>Jf L ((Sl.of [a,b]:Sl Int).g i)) (by show 2<N;omega) (by show 2<_;omega) (fun i hi=>by unfold H7 Jf;rw[hL]),any2 (p:=Jf L),Option.bind_some];by_cases ho:(Jf L a||Jf L b)=true
 ·rw[if_pos ho,if_pos ho]
 ·rw[if_neg ho,if_neg ho];show (J0 N t q).bind _=_;rw[Ul (by omega) (by omega) (hf (by simpa using ho))];show S7 _ _ _ _=_;have hl:=Gm p t.Has.n
  have:=Iw (FL p t.Has.n) 0 (by omega)
  rw[Nat.zero_add]at this;exact this
theorem Qz {N:Nat}{t:A1}(h:okT t):AJ N t=some (giv t):=by
 have:=h.1
 unfold AJ F6;rw[if_pos (by omega)];rfl
theorem VY {N:Nat}(t:A1):Dy N t=some (decide (t.Has.n<=100)):=by unfold Dy;congr 1;rw[Bool.eq_iff_iff];simp;omega
def inT (t:A1):Prop:=∀i,i<t.Has.n->∃x:BitVec 64,t.Has.g i=U x
end Go.AM
namespace Go.AM
open IntKind (wrap)
open Go.Proofs
theorem VZ {N:Nat}{t:A1}(hN:1000<=N)(h:okT t):∃(r:Sl Int×Int) (s:Sl Int×Int),J7 N t=some r/\Bf N (giv t)=some s/\r.1.toList=s.1.toList/\r.2=s.2/\r.1.n<=100:=by
 obtain⟨e,h1,h2,h3⟩:=HN hN h;have hn:=h.1;unfold J7 Bf;rw[h1,h2,Option.bind_some,Option.bind_some];by_cases he:e=0
 ·subst he;obtain⟨L,hL,hL2,hn2,hs⟩:=h3 rfl;rw[if_neg (show ¬((0:Int) != 0)=true by decide),if_neg (show ¬((0:Int) != 0)=true by decide)]
  let p:Nat->Bool:=fun i=>decide (2<=G0 (bT t i) L)&&decide (G0 (bT t i) L<L)
  have hw:B4 N t (fun (u2:Int)=>I6 N u2 t)=some (FL p t.Has.n):=Fx (by omega) (by omega) fun i hi=>by
   unfold I6;rw[DB h hi,VV (hs i hi) (by omega),CE hL hL2];simp only[lt,Option.bind_some];rw[SU (hs i hi) (by omega)];by_cases h4:2<=G0 (bT t i) L
   ·rw[if_pos (by simpa using h4)];simp[p,h4]
   ·rw[if_neg (by simpa using h4)];simp[p,h4]
  have hl:=Gm p t.Has.n;obtain⟨s,g1,g2⟩:=Lp (N:=N) (L:=FL p t.Has.n) (by omega);obtain⟨r,q1,q2⟩:=OF (body:=fun self1 (x1:Sl Int) (x2:Int)=>
   if (decide (x2<(t.Has.n:Int))) then
    if ((0:Int)<=x2/\x2<(t.Has.n:Int))then
     (AK N (giv t) (t.Has.g x2.toNat)).bind fun y4=>
     if ((decide (2<=y4))&&(decide (y4<t.Langs))) then
      if ((x1.n+(Sl.of [x2]:Sl Int).n)*8<=140737488355328/\x1.n+(Sl.of [x2]:Sl Int).n<=140737488355328)then
       self1 (x1.push x2) (wrap .i64 (x2+1))
      else none
     else self1 x1 (wrap .i64 (x2+1))
    else none
   else some (x1,(0:Int))) (fun i x1 x2=>x2=(i:Int)/\x1.toList=FL p i) t.Has.n (fun r=>r.1.toList=FL p t.Has.n/\r.2=0) (N:=N) (by omega) (a:=Sl.nil) (b:=0) ⟨rfl,rfl⟩ (by
   rintro self i x1 x2 hi ⟨rfl,hx⟩ hs2;have hxn:x1.n<=i:=by rw[<- By x1,hx];exact Gm p i
   by_cases hlt:i<t.Has.n
   ·refine ifT (by simp;omega) (ifT (by omega) ?_);rw[Int.toNat_natCast,DB h hlt];refine X5 (SW (t:=giv t) hN hL (by omega) _) ?_;have hpi:((decide (2<=(G0 (bT t i) L:Int)))&&(decide ((G0 (bT t i) L:Int)<t.Langs)))=p i:=by show _=(decide (2<=G0 (bT t i) L)&&decide (G0 (bT t i) L<L));rw[hL];congr 1<;>(rw[Bool.eq_iff_iff];simp;try omega)
    rw[hpi];by_cases h4:p i=true
    ·refine ifT h4 (ifT (by show (x1.n+1)*8<=_/\x1.n+1<=_;omega) (hs2 hlt _ _ ⟨Q8 (by omega),?_⟩));rw[GK,hx,Iv,if_pos h4]
    ·refine ifF h4 (hs2 hlt _ _ ⟨Q8 (by omega),?_⟩);rw[hx,Iv,if_neg h4,List.append_nil]
   ·obtain rfl:i=t.Has.n:=by omega
    exact ifF (by simp) ⟨_,rfl,hx,rfl⟩)
  refine⟨(s,0),r,?_,q1,by rw[g2,q2.1],q2.2.symm,by show s.n<=100;rw[<- By s,g2];omega⟩;show (B4 N t _).bind _=_;rw[hw,Option.bind_some,g1,Option.bind_some]
 ·have q:(e != 0)=true:=by simpa using he
  rw[if_pos q,if_pos q];exact⟨_,_,rfl,rfl,rfl,rfl,by show 0<=100;omega⟩
def Wi (nf:Nat->Nat->Bool)(i m:Nat):List B6:=((List.range m).filter fun j=>decide (i<j)&&nf i j).map fun (j:Nat)=>⟨(i:Int),(j:Int)⟩
theorem HO (nf:Nat->Nat->Bool)(i m:Nat):Wi nf i (m+1)=Wi nf i m++if (decide (i<m)&&nf i m) then [⟨(i:Int),(m:Int)⟩]else []:=by
 unfold Wi;rw[List.range_succ,List.filter_append,List.map_append];congr 1;by_cases h:(decide (i<m)&&nf i m)=true
 ·simp only[List.filter_cons,List.filter_nil,h,if_true,List.map_cons,List.map_nil]
 ·rw[Bool.not_eq_true]at h;simp only[List.filter_cons,List.filter_nil,h,Bool.false_eq_true,if_false,List.map_nil]
theorem SX (nf:Nat->Nat->Bool)(i:Nat):∀m,m<=i+1->Wi nf i m=[]
 |0,_=>rfl
 |m+1,h=>by rw[HO,SX nf i m (by omega),if_neg (by simp;omega)];rfl
theorem OG (nf:Nat->Nat->Bool)(i:Nat):∀m,(Wi nf i m).length<=m
 |0=>by simp[Wi]
 |m+1=>by rw[HO,List.length_append];have:=OG nf i m;split<;>simp<;>omega
theorem Zu (nf:Nat->Nat->Bool)(i m:Nat):((FL (nf i) m).filter fun x=>decide ((i:Int)<x)).map (fun x=>(⟨(i:Int),x⟩:B6))=Wi nf i m:=by unfold FL Wi;rw[List.filter_map,List.map_map,List.filter_filter];congr 1;refine List.filter_congr fun j hj=>?_;show (decide ((i:Int)<(j:Int))&&nf i j)=_;congr 1;rw[Bool.eq_iff_iff];simp
def QA (nf:Nat->Nat->Bool)(n:Nat):Nat->List B6
 |0=>[]
 |i+1=>QA nf n i++Wi nf i n
theorem JF (nf:Nat->Nat->Bool)(n:Nat):∀i,(QA nf n i).length<=i*n
 |0=>by simp[QA]
 |i+1=>by
  rw[QA,List.length_append,Nat.succ_mul]
  have:=JF nf n i;have:=OG nf i n;omega
theorem Ls:∀(M:List Int) (i:Nat) (z:Sl B6) (k:Sl B6->Option (Sl B6×Int)) (Q:Sl B6×Int->Prop),z.n+M.length<1000000 ->
 (∀z' : Sl B6,z'.toList=z.toList++((M.filter fun x=>decide ((i:Int)<x)).map fun x=>(⟨(i:Int),x⟩:B6))->∃r,k z' = some r/\Q r) ->
 ∃r,S7 M (fun self4 (x7:Int) (z3:Sl B6)=>
  if (decide ((i:Int)<x7)) then
   if ((z3.n+(Sl.of [(⟨(i:Int),x7⟩:B6)]:Sl B6).n)*16<=140737488355328/\z3.n+(Sl.of [(⟨(i:Int),x7⟩:B6)]:Sl B6).n<=140737488355328)then
    self4 (z3.push (⟨(i:Int),x7⟩:B6))
   else none
  else self4 z3) k z=some r/\Q r
 |[],i,z,k,Q,_,hk=>hk z (by simp)
 |x::M,i,z,k,Q,hl,hk=>by
  simp only[List.length_cons]at hl;by_cases hx:(decide ((i:Int)<x))=true
  ·show ∃r,(if (decide ((i:Int)<x)) then _ else _)=some r/\Q r;refine ifT hx (ifT (by show (z.n+1)*16<=_/\z.n+1<=_;omega) (Ls M i (z.push ⟨i,x⟩) k Q (by show z.n+1+_<_;omega) fun z' hz=>hk z' ?_));rw[hz,GK];simp only[List.filter_cons,hx,if_true,List.map_cons,List.append_assoc,List.cons_append,List.nil_append]
  ·show ∃r,(if (decide ((i:Int)<x)) then _ else _)=some r/\Q r;refine ifF hx (Ls M i z k Q (by omega) fun z' hz=>hk z' ?_);rw[Bool.not_eq_true]at hx;rw[hz];simp only[List.filter_cons,hx,Bool.false_eq_true,if_false]
theorem QB {N:Nat}{t:A1}(hN:1000<=N)(h:okT t):∃(r:Sl B6×Int) (s:Sl B6×Int),N9 N t=some r/\U3 N (giv t)=some s/\r.1.toList=s.1.toList/\r.2=s.2/\r.1.n<=4096:=by
 obtain⟨e,h1,h2,h3⟩:=HN hN h;have hn:=h.1;unfold N9 U3;rw[h1,h2,Option.bind_some,Option.bind_some];by_cases he:e=0
 ·subst he;obtain⟨L,hL,hL2,hn2,hs⟩:=h3 rfl;rw[if_neg (show ¬((0:Int) != 0)=true by decide),if_neg (show ¬((0:Int) != 0)=true by decide)]
  let nf:Nat->Nat->Bool:=fun i j=>!SV L (bT t i) (bT t j)
  have hw:∀i,i<t.Has.n->B4 N t (fun (u6:Int)=>F4 N u6 (t.Has.g i))=some (FL (nf i) t.Has.n):=fun i hi=>Fx (by omega) (by omega) fun j hj=>by unfold F4;rw[DB h hi,DB h hj,VX (hs i hi) (hs j hj) (by omega),Option.bind_some]
  have hsq:∀i,i<=t.Has.n->i*t.Has.n<=64*64:=fun i hi=>Nat.mul_le_mul (by omega) hn2;obtain⟨r,q1,q2⟩:=OF (body:=fun self3 (x3:Sl B6) (x4:Int)=>
   if (decide (x4<(t.Has.n:Int))) then
    if ((0:Int)<=x4/\x4<(t.Has.n:Int))then
     (J3 N t (fun (u5:Int)=>F4 N u5 (t.Has.g x4.toNat))).bind fun y4=>
     (B4 N y4 (fun (u6:Int)=>F4 N u6 (t.Has.g x4.toNat))).bind fun L3=>
     S7 L3 (fun self4 (x7:Int) (z3:Sl B6)=>
      if (decide (x4<x7)) then
       if ((z3.n+(Sl.of [(⟨x4,x7⟩:B6)]:Sl B6).n)*16<=140737488355328/\z3.n+(Sl.of [(⟨x4,x7⟩:B6)]:Sl B6).n<=140737488355328)then
        self4 (z3.push (⟨x4,x7⟩:B6))
       else none
      else self4 z3) (fun (z3:Sl B6)=>self3 z3 (wrap .i64 (x4+1))) x3
    else none
   else some (x3,(0:Int))) (fun i x3 x4=>x4=(i:Int)/\x3.toList=QA nf t.Has.n i) t.Has.n (fun r=>r.1.toList=QA nf t.Has.n t.Has.n/\r.2=0) (N:=N) (by omega) (a:=Sl.nil) (b:=0) ⟨rfl,rfl⟩ (by
   rintro self i x3 x4 hi ⟨rfl,hx⟩ hs2;have hxn:x3.n<=64*64:=by rw[<- By x3,hx];exact Nat.le_trans (JF nf _ i) (hsq i hi)
   by_cases hlt:i<t.Has.n
   ·refine ifT (by simp;omega) (ifT (by omega) ?_);rw[Int.toNat_natCast];show ∃r,(B4 N t _).bind _=some r/\_;refine X5 (hw i hlt) ?_;have hl:=Gm (nf i) t.Has.n;refine Ls _ i x3 _ _ (by omega) fun z' hz=>hs2 hlt _ _ ⟨Q8 (by omega),?_⟩;rw[hz,hx,Zu];rfl
   ·obtain rfl:i=t.Has.n:=by omega
    exact ifF (by simp) ⟨_,rfl,hx,rfl⟩)
  obtain⟨s,p1,p2⟩:=OF (body:=fun self3 (x3:Sl B6) (x4:Int)=>
   if (decide (x4<(t.Has.n:Int))) then
    Dq N (fun self4 (x7:Sl B6) (x8:Int)=>
     if (decide (x8<(t.Has.n:Int))) then
      if (((0:Int)<=x4/\x4<(t.Has.n:Int))/\((0:Int)<=x8/\x8<(t.Has.n:Int)))then
       (Dz N (giv t) (t.Has.g x4.toNat) (t.Has.g x8.toNat)).bind fun y10=>
       if (!y10) then
        if ((x7.n+(Sl.of [(⟨x4,x8⟩:B6)]:Sl B6).n)*16<=140737488355328/\x7.n+(Sl.of [(⟨x4,x8⟩:B6)]:Sl B6).n<=140737488355328)then
         self4 (x7.push (⟨x4,x8⟩:B6)) (wrap .i64 (x8+1))
        else none
       else self4 x7 (wrap .i64 (x8+1))
      else none
     else self3 x7 (wrap .i64 (x4+1))) x3 (wrap .i64 (x4+1))
   else some (x3,(0:Int))) (fun i x3 x4=>x4=(i:Int)/\x3.toList=QA nf t.Has.n i) t.Has.n (fun r=>r.1.toList=QA nf t.Has.n t.Has.n/\r.2=0) (N:=N) (by omega) (a:=Sl.nil) (b:=0) ⟨rfl,rfl⟩ (by
   rintro self i x3 x4 hi ⟨rfl,hx⟩ hs2;have hxn:x3.toList.length<=64*64:=by rw[hx];exact Nat.le_trans (JF nf _ i) (hsq i hi)
   by_cases hlt:i<t.Has.n
   ·refine ifT (by simp;omega) ?_;rw[Q8 (by omega)];refine OF (fun k x7 x8=>x8=((i+1+k:Nat):Int)/\x7.toList=x3.toList++Wi nf i (i+1+k)) (t.Has.n-(i+1)) _ (by omega) ⟨rfl,by rw[SX nf i _ (by omega)];simp⟩ ?_;rintro self4 k x7 x8 hk ⟨rfl,hx7⟩ hs4;have hx7n:x7.n<=64*64+100:=by
     rw[<- By x7,hx7,List.length_append]
     have:=OG nf i (i+1+k);omega
    by_cases hlt4:k<t.Has.n-(i+1)
    ·refine ifT (by simp;omega) (ifT (by omega) ?_);rw[Int.toNat_natCast,Int.toNat_natCast,DB h hlt,DB h (show i+1+k<_ by omega)];refine X5 (Zt (t:=giv t) hN hL (by omega) _ _) ?_;by_cases h4:(!SV L (bT t i) (bT t (i+1+k)))=true
     ·refine ifT h4 (ifT (by show (x7.n+1)*16<=_/\x7.n+1<=_;omega) (hs4 hlt4 _ _ ⟨Q8 (by omega),?_⟩));have h5:(decide (i<i+1+k)&&nf i (i+1+k))=true:=by rw[decide_eq_true (by omega)];exact h4
      rw[GK,hx7,show i+1+(k+1)=i+1+k+1 by omega,HO,if_pos h5,List.append_assoc]
     ·refine ifF h4 (hs4 hlt4 _ _ ⟨Q8 (by omega),?_⟩);have h5:¬(decide (i<i+1+k)&&nf i (i+1+k))=true:=by rw[decide_eq_true (by omega)];exact h4
      rw[hx7,show i+1+(k+1)=i+1+k+1 by omega,HO,if_neg h5,List.append_nil]
    ·refine ifF (by simp;omega) (hs2 hlt _ _ ⟨rfl,?_⟩);rw[hx7,hx,show i+1+k=t.Has.n by omega];rfl
   ·obtain rfl:i=t.Has.n:=by omega
    exact ifF (by simp) ⟨_,rfl,hx,rfl⟩)
  refine⟨r,s,q1,p1,by rw[q2.1,p2.1],by rw[q2.2,p2.2],?_⟩;rw[<- By r.1,q2.1]
  have:=JF nf t.Has.n t.Has.n
  have:=hsq t.Has.n (Nat.le_refl _)
  omega
 ·have q:(e != 0)=true:=by simpa using he
  rw[if_pos q,if_pos q];exact⟨_,_,rfl,rfl,rfl,rfl,by show 0<=4096;omega⟩
theorem Wa {N:Nat}{u:A1}{r:C8}(hl:u.Langs=r.Langs)(hu:u.Has.toList=r.Has.toList)(hn:u.Has.n<N)(hb:u.Has.n<1000000):BM N u r=some true:=by unfold BM;simp only[lt,hl,beq_self_eq_true,if_true,GL hn hb hu,Option.bind_some]
theorem JI {N:Nat}{t:A1}(hN:20000<=N)(hw:I3 N=some true)(h:inT t):W3 N t=some true:=by
 unfold W3;rw[VY];by_cases hf:t.Has.n<=100
 ·have ht:okT t:=⟨hf,h⟩;obtain⟨r1,s1,a1,b1,c1,d1,e1⟩:=VZ (by omega:1000<=N) ht;obtain⟨r2,s2,a2,b2,c2,d2,e2⟩:=QB (by omega:1000<=N) ht;obtain⟨e,a3,b3,_⟩:=HN (by omega:1000<=N) ht;have hI:=Iu (N:=N) (a:=r1.1) (b:=s1.1) (by omega) (by omega) c1;have hS:=Wa (N:=N) (u:=t) (r:=giv t) rfl rfl (by omega) (by omega);have hE:=Uk (N:=N) (a:=r2.1) (b:=s2.1) ?_ ?_ c2
  ·simp only[hf,decide_true,Option.bind_some,Bool.not_true,Bool.false_eq_true,if_false,Qz ht,a1,b1,a2,b2,a3,b3,beq_self_eq_true,if_true,hw,d1,d2,hI,hE,hS]
  ·omega
  ·omega
 ·simp[hf,hw]
end Go.AM
namespace Go.AM
open Go.Proofs
theorem Ae1 {N:Nat}{x:BitVec 64}(h:x≠0#64):∃t:Nat,t<64/\F3 N (U x)=some (t:Int)/\x.getLsbD t=true/\(∀k,k<t->x.getLsbD k=false)/\∀k,k<64->(x &&& (x-1#64)).getLsbD k=(x.getLsbD k&&decide (k≠t)):=by
 obtain⟨t,h1,h2,h3,h4⟩:=Qx x h;have h0:x.toNat≠0:=fun e=>h (BitVec.eq_of_toNat_eq (by simpa using e));obtain⟨m,hm,hlt⟩:=Lib.ctzFrom_spec 64 x.toNat (by omega) x.isLt;have e:Lib.ctz 64 x.toNat=Lib.ctzFrom 64 x.toNat:=by unfold Lib.ctz;rw[if_neg h0]
 rw[<- e]at hm hlt;generalize Lib.ctz 64 x.toNat=u at hm hlt e;have hu:x.getLsbD u=true:=by show x.toNat.testBit _=true;rw[hm,Nat.testBit_two_pow_mul];simp[<- hm,Nat.testBit_zero]
 have hl:∀k,k<u->x.getLsbD k=false:=fun k hk=>by show x.toNat.testBit _=false;rw[hm,Nat.testBit_two_pow_mul];simp[<- hm];omega
 have e2:t=u:=by
  rcases Nat.lt_trichotomy t u with g|g|g
  ·rw[hl t g]at h2;cases h2
  ·exact g
  ·rw[h3 u g]at hu;cases hu
 subst e2;refine⟨t,h1,?_,h2,h3,h4⟩;unfold F3;rw[if_pos (by have:=x.isLt;show 0<=((x.toNat:Nat):Int)/\((x.toNat:Nat):Int)<_;omega)];show some ((Lib.ctz 64 (x.toNat:Int).toNat:Nat):Int)=_;rw[Int.toNat_natCast];unfold Lib.ctz;rw[if_neg h0,<- e]
theorem Lt (x:BitVec 64){a:Nat}:∀{b:Nat},a<=b->G0 x a<=G0 x b
 |0,h=>by obtain rfl:a=0:=(by omega);exact Nat.le_refl _
 |b+1,h=>by
  by_cases e:a=b+1
  ·subst e;exact Nat.le_refl _
  ·have:=Lt x (a:=a) (b:=b) (by omega)
   simp only[G0];omega
theorem JG {x:BitVec 64}{a:Nat}:∀{b:Nat},a<=b->(∀k,a<=k->k<b->x.getLsbD k=false)->G0 x b=G0 x a
 |0,h,_=>by obtain rfl:a=0:=(by omega);rfl
 |b+1,h,hk=>by
  by_cases e:a=b+1
  ·subst e;rfl
  ·simp only[G0,hk b (by omega) (by omega),Bool.false_eq_true,if_false];exact JG (by omega) fun k h1 h2=>hk k h1 (by omega)
theorem GM {s:BitVec 64}{q L:Nat}(hq:q<L)(hb:s.getLsbD q=true):G0 s q<G0 s L:=by
 have:=Lt s (a:=q+1) (b:=L) hq
 simp only[G0,hb,if_true]at this;omega
theorem OH {s:BitVec 64}{p q:Nat}(hp:s.getLsbD p=true)(hq:s.getLsbD q=true)(h:G0 s p=G0 s q):p=q:=by
 rcases Nat.lt_trichotomy p q with g|g|g
 ·have:=GM g hp;omega
 ·exact g
 ·have:=GM g hq;omega
def Bz (s x:BitVec 64):Nat->BitVec 64
 |0=>0#64
 |k+1=>if (s.getLsbD k&&x.getLsbD k) then Bz s x k ||| (1#64 <<< G0 s k)else Bz s x k
theorem Z0 (s x:BitVec 64):∀(m:Nat),m<=64->∀b,b<64->((Bz s x m).getLsbD b=true ↔ ∃q,q<m/\s.getLsbD q=true/\G0 s q=b/\x.getLsbD q=true)
 |0,_,b,hb=>by simp only[Bz];exact⟨fun h=>by simp at h,fun⟨q,h,_⟩=>absurd h (by omega)⟩
 |m+1,hm,b,hb=>by
  have ih:=Z0 s x m (by omega) b hb;have hc:G0 s m<64:=by have:=X6 s m;omega
  simp only[Bz];split
  ·rename_i h;rw[Bool.and_eq_true]at h;rw[BitVec.getLsbD_or,Bool.or_eq_true,ih,FJ hc hb,decide_eq_true_eq];constructor
   ·rintro (⟨q,h1,h2⟩ | h1)
    ·exact⟨q,by omega,h2⟩
    ·exact⟨m,by omega,h.1,h1.symm,h.2⟩
   ·rintro⟨q,h1,h2,h3,h4⟩;by_cases e:q=m
    ·subst e;exact .inr h3.symm
    ·exact .inl ⟨q,by omega,h2,h3,h4⟩
  ·rename_i h;rw[ih];constructor
   ·rintro⟨q,h1,h2⟩;exact⟨q,by omega,h2⟩
   ·rintro⟨q,h1,h2,h3,h4⟩;by_cases e:q=m
    ·subst e;exact absurd (by rw[h2,h4];rfl) h
    ·exact⟨q,by omega,h2,h3,h4⟩
theorem Lu (x:BitVec 64)(q:Nat):A9 .and .u64 (shI .shr .u64 (U x) (q:Int)) 1=if x.getLsbD q then 1 else 0:=by
 rw[Zo,Ad8,Mc]
 have:x >>> q &&& 1#64=if x.getLsbD q then 1#64 else 0#64:=by
  refine DY fun b hb=>?_;rw[BitVec.getLsbD_and,BitVec.getLsbD_ushiftRight,RJ];by_cases e:b=0
  ·subst e;by_cases h:x.getLsbD q=true<;>simp[h]
  ·by_cases h:x.getLsbD q=true<;>simp[h,e]
 rw[this];by_cases h:x.getLsbD q=true
 ·rw[if_pos h,if_pos h]
 ·rw[if_neg h,if_neg h];rfl
theorem SY (n:Nat):shI .shl .u64 0 (n:Int)=0:=by unfold shI;simp only[Int.zero_mul];decide
def Jx (t:A1)(s:BitVec 64)(L:Nat):List Int:=(List.range t.Has.n).map fun i=>U (Bz s (bT t i) L)
theorem QC {f:Nat->Int}(n:Nat):(List.range (n+1)).map f=(List.range n).map f++[f n]:=by rw[List.range_succ,List.map_append];rfl
theorem FA {N L:Nat}{t:A1}{s:BitVec 64}(hN:1000<=N)(h:okT t)(hc:C4 N t=some 0)(ho:okC t L)(hs:JE L s) :∃r:A1×Int,E5 N t (U s)=some r/\r.2=0/\r.1.Langs=(G0 s L:Int)/\r.1.Has.toList=Jx t s L:=by
 obtain⟨hL,hL2,hn2,hsub⟩:=ho;have hn:=h.1;unfold E5;rw[hc,Option.bind_some,if_neg (show ¬((0:Int) != 0)=true by decide),CE hL hL2,Option.bind_some,DX];have hz:¬(U (s &&& ~~~ HR L) != 0)=true:=by
  rw[Bool.not_eq_true,bne_eq_false_iff_eq,Je,Cn];intro k h2;rw[BitVec.getLsbD_and,BitVec.getLsbD_not,W4 h2];by_cases h1:k<L
  ·simp[h1]
  ·simp[hs k (by omega) h2]
 rw[if_neg hz];have hcL:=X6 s L;refine XA (fun j (x1:Nat->Int) (x2 x3:Int)=>x2=(j:Int)/\∃(r:BitVec 64) (m:Nat),x3=U r/\m<=L/\G0 s m=j/\(∀k,k<64->r.getLsbD k=(s.getLsbD k&&decide (m<=k)))/\∀i,i<j->∃q:Nat,x1 i=(q:Int)/\q<m/\s.getLsbD q=true/\G0 s q=i)
  (G0 s L) (fun r:A1×Int=>r.2=0/\r.1.Langs=(G0 s L:Int)/\r.1.Has.toList=Jx t s L) (by omega) ⟨rfl,s,0,rfl,Nat.zero_le _,rfl,fun k _=>by simp,fun i hi=>absurd hi (by omega)⟩ ?_
 rintro self j x1 x2 x3 hj ⟨rfl,r,m,rfl,hm,hcm,hr,hx⟩ hstep;by_cases hr0:r=0#64
 ·
  subst hr0;refine ifF (by simp) ?_;have hgap:∀k,m<=k->k<L->s.getLsbD k=false:=fun k h1 h2=>by
   have:=hr k (by omega)
   simpa[h1]using this.symm
  have hjL:j=G0 s L:=by rw[JG hm hgap,hcm]
  refine OF (fun i (x6:Sl Int) (x7:Int)=>x7=(i:Int)/\x6.toList=(List.range i).map fun i=>U (Bz s (bT t i) L)) t.Has.n _ (by omega) ⟨rfl,rfl⟩ ?_;rintro self2 i x6 x7 hi ⟨rfl,hx6⟩ hs2;have hxn:x6.n=i:=by rw[<- By x6,hx6];simp
  by_cases hlt:i<t.Has.n
  ·refine ifT (by simp;omega) (ifT (by omega) ?_);rw[Int.toNat_natCast,Int.toNat_natCast,DB h hlt];refine OF (fun k (x10 x11:Int)=>x11=(k:Int)/\∃y:BitVec 64,x10=U y/\∀b,b<64->(y.getLsbD b=true ↔ ∃q,b<k/\s.getLsbD q=true/\G0 s q=b/\(bT t i).getLsbD q=true)) j _ (by omega) ⟨rfl,0#64,rfl,fun b hb=>⟨fun h=>by simp at h,fun⟨q,h,_⟩=>absurd h (by omega)⟩⟩ ?_;rintro self3 k x10 x11 hk ⟨rfl,y,rfl,hy⟩ hs3;by_cases hkj:k<j
   ·obtain⟨q,hq1,hq2,hq3,hq4⟩:=hx k hkj;refine ifT (by simp;omega) (ifT (by show ((0<=(k:Int)/\(k:Int)<((j:Nat):Int))/\(0:Int)<=x1 (k:Int).toNat)/\_;rw[Int.toNat_natCast,hq1];omega) ?_);show ∃r,self3 (A9 .or .u64 (U y) (shI .shl .u64 (A9 .and .u64 (shI .shr .u64 (U (bT t i)) (x1 (k:Int).toNat)) 1) (k:Int))) _=some r/\_;rw[Int.toNat_natCast,hq1,Lu];by_cases hb:(bT t i).getLsbD q=true
    ·rw[if_pos hb,Ub k (by omega),ZH];refine hs3 hkj _ _ ⟨Q8 (by omega),_,rfl,fun b hb64=>?_⟩;rw[BitVec.getLsbD_or,Bool.or_eq_true,hy b hb64,FJ (by omega) hb64,decide_eq_true_eq];constructor
     ·rintro (⟨q',h1,h2⟩ | rfl)
      ·exact⟨q',by omega,h2⟩
      ·exact⟨q,by omega,hq3,hq4,hb⟩
     ·rintro⟨q',h1,h2,h3,h4⟩;by_cases e:b=k
      ·exact .inr e
      ·exact .inl ⟨q',by omega,h2,h3,h4⟩
    ·rw[if_neg hb,SY,show (0:Int)=U 0#64 from rfl,ZH];refine hs3 hkj _ _ ⟨Q8 (by omega),_,rfl,fun b hb64=>?_⟩;rw[BitVec.getLsbD_or,Bool.or_eq_true,hy b hb64];constructor
     ·rintro (⟨q',h1,h2⟩ | h1)
      ·exact⟨q',by omega,h2⟩
      ·simp at h1
     ·rintro⟨q',h1,h2,h3,h4⟩;by_cases e:b=k
      ·subst e;obtain rfl:=OH h2 hq3 (h3.trans hq4.symm);exact absurd h4 hb
      ·exact .inl ⟨q',by omega,h2,h3,h4⟩
   ·obtain rfl:k=j:=by omega
    have ey:y=Bz s (bT t i) L:=DY fun b hb=>by
     rw[hy b hb,Z0 s _ L (by omega) b hb];constructor
     ·rintro⟨q,h1,h2,h3,h4⟩;refine⟨q,?_,h2,h3,h4⟩;by_cases e:q<L
      ·exact e
      ·by_cases e2:q<64
       ·rw[hs q (by omega) e2]at h2;cases h2
       ·rw[BitVec.getLsbD_of_ge _ _ (by omega)]at h2;cases h2
     ·rintro⟨q,h1,h2,h3,h4⟩;exact⟨q,by have:=GM h1 h2;omega,h2,h3,h4⟩
    subst ey;refine ifF (by simp) (ifT (by show (x6.n+1)*8<=_/\x6.n+1<=_;omega) (hs2 hlt _ _ ⟨Q8 (by omega),?_⟩));rw[GK,hx6,QC]
  ·obtain rfl:i=t.Has.n:=by omega
   exact ifF (by simp) ⟨_,rfl,rfl,by rw[hjL],hx6⟩
 ·have hne:(U r != 0)=true:=by rw[bne_iff_ne,Ne,Je];exact hr0
  refine ifT hne ?_;obtain⟨tz,h1,h2,h3,h4,h5⟩:=Ae1 (N:=N) hr0;refine X5 h2 ?_;have hst:s.getLsbD tz=true/\m<=tz:=by
   have:=hr tz h1
   rw[h3]at this;simpa using this.symm
  have htL:tz<L:=by
   by_cases e:tz<L
   ·exact e
   ·rw[hs tz (by omega) h1]at hst;cases hst.1
  have hgap:∀k,m<=k->k<tz->s.getLsbD k=false:=fun k g1 g2=>by
   have:=hr k (by omega)
   rw[h4 k g2]at this;simpa[g1]using this.symm
  have hct:G0 s tz=j:=by rw[JG hst.2 hgap,hcm]
  have hjL:j<G0 s L:=by have:=GM htL hst.1;omega
  refine ifT (by omega) ?_;rw[Int.toNat_natCast,Yl,Mc];refine hstep hjL _ _ _ ⟨Q8 (by omega),_,tz+1,rfl,htL,by simp only[G0,hst.1,if_true];omega,fun k hk=>?_,fun i hi=>?_⟩
  ·rw[h5 k hk,hr k hk];by_cases g1:k<tz
   ·by_cases g2:m<=k
    ·rw[hgap k g2 g1];simp
    ·simp[g2];intro;omega
   ·by_cases g2:k=tz
    ·subst g2;simp
    ·have g3:m<=k:=by omega
     have g4:tz+1<=k:=by omega
     simp[g2,g3,g4]
  ·by_cases e:i=j
   ·subst e;exact⟨tz,by simp[IP],by omega,hst.1,hct⟩
   ·obtain⟨q,g1,g2,g3,g4⟩:=hx i (by omega);exact⟨q,by simp only[IP];rw[if_neg (by omega)];exact g1,by omega,g3,g4⟩
theorem XC {N L:Nat}{t:A1}{s:BitVec 64}(hN:1000<=N)(h:okT t)(hc:O6 N (giv t)=some 0)(ho:okC t L)(hs:JE L s) :∃r:C8×Int,V9 N (giv t) (U s)=some r/\r.2=0/\r.1.Langs=(G0 s L:Int)/\r.1.Has.toList=Jx t s L:=by
 obtain⟨hL,hL2,hn2,hsub⟩:=ho;have hn:=h.1;unfold V9;rw[hc,Option.bind_some,if_neg (show ¬((0:Int) != 0)=true by decide)];rw[show (giv t).Langs=((L+0:Nat):Int) from hL];refine Mo (fun k x=>x=((L+k:Nat):Int)) (64-L) (fun r:C8×Int=>r.2=0/\r.1.Langs=(G0 s L:Int)/\r.1.Has.toList=Jx t s L) (by omega) rfl ?_;rintro self k x hk rfl hstep;by_cases hlt:k<64-L
 ·refine ifT (by simp;omega) (X5 (Lr s (L+k)) (ifF (by rw[hs (L+k) (by omega) (by omega)];simp) (hstep hlt _ (Q8 (by omega)))))
 ·refine ifF (by simp;omega) (X5 (SW (t:=giv t) hN hL (by omega) s) ?_);refine OF (fun i (x6:Sl Int) (x7:Int)=>x7=(i:Int)/\x6.toList=(List.range i).map fun i=>U (Bz s (bT t i) L)) t.Has.n _ (by omega) ⟨rfl,rfl⟩ ?_;rintro self2 i x6 x7 hi ⟨rfl,hx6⟩ hs2;have hxn:x6.n=i:=by rw[<- By x6,hx6];simp
  by_cases hlt2:i<t.Has.n
  ·refine ifT (by simp;omega) ?_;rw[Int.toNat_natCast,show (giv t).Has.g i=U (bT t i) from DB h hlt2];refine XA (fun q (x10 x11 x12:Int)=>x12=(q:Int)/\x11=(G0 s q:Int)/\x10=U (Bz s (bT t i) q)) L _ (by omega) ⟨rfl,rfl,rfl⟩ ?_;rintro self3 q x10 x11 x12 hq ⟨rfl,rfl,rfl⟩ hs3;have hcq:=X6 s q;by_cases hqL:q<L
   ·refine ifT (by simp;omega) (X5 (Lr s q) ?_);by_cases hb:s.getLsbD q=true
    ·refine ifT hb (ifT (by show 0<=(i:Int)/\(i:Int)<((t.Has.n:Nat):Int);omega) (X5 (Lr _ q) ?_));by_cases hb2:(bT t i).getLsbD q=true
     ·refine ifT hb2 (ifT (by omega) ?_);rw[Ub _ (by omega),ZH];refine hs3 hqL _ _ _ ⟨Q8 (by omega),by rw[Q8 (by omega)];simp only[G0,hb,if_true],?_⟩;simp only[Bz,hb,hb2,Bool.and_self,if_true]
     ·refine ifF hb2 (hs3 hqL _ _ _ ⟨Q8 (by omega),by rw[Q8 (by omega)];simp only[G0,hb,if_true],?_⟩);simp[Bz,hb,hb2]
    ·refine ifF hb (hs3 hqL _ _ _ ⟨Q8 (by omega),by simp[G0,hb],?_⟩);simp[Bz,hb]
   ·obtain rfl:q=L:=by omega
    refine ifF (by simp) (ifT (by show (x6.n+1)*8<=_/\x6.n+1<=_;omega) (hs2 hlt2 _ _ ⟨Q8 (by omega),?_⟩));rw[GK,hx6,QC]
  ·obtain rfl:i=t.Has.n:=by omega
   exact ifF (by simp) ⟨_,rfl,rfl,rfl,hx6⟩
theorem Zv {N:Nat}{t:A1}(hN:1000<=N)(h:okT t)(s:BitVec 64):∃(r:A1×Int) (u:C8×Int),E5 N t (U s)=some r/\V9 N (giv t) (U s)=some u/\r.1.Langs=u.1.Langs/\r.1.Has.toList=u.1.Has.toList/\r.2=u.2/\r.1.Has.n<=100:=by
 obtain⟨e,h1,h2,h3⟩:=HN hN h;have hn:=h.1;by_cases he:e=0
 ·subst he;obtain⟨L,ho⟩:=h3 rfl;have ho':=ho;obtain⟨hL,hL2,hn2,hsub⟩:=ho';by_cases hs:JE L s
  ·obtain⟨r,a1,a2,a3,a4⟩:=FA hN h h1 ho hs;obtain⟨u,b1,b2,b3,b4⟩:=XC hN h h2 ho hs;refine⟨r,u,a1,b1,by rw[a3,b3],by rw[a4,b4],by rw[a2,b2],?_⟩;rw[<- By r.1.Has,a4,Jx];simp;omega
  ·obtain⟨k,hk1,hk2,hk3⟩:∃k,L<=k/\k<64/\s.getLsbD k=true:=by
    refine Classical.byContradiction fun g=>hs fun k g1 g2=>?_;cases hb:s.getLsbD k with
    |false=>rfl
    |true=>exact absurd ⟨k,g1,g2,hb⟩ g
   refine⟨(⟨0,Sl.nil⟩,2),(⟨0,Sl.nil⟩,2),?_,?_,rfl,rfl,rfl,by show 0<=100;omega⟩
   ·unfold E5;rw[h1,Option.bind_some,if_neg (show ¬((0:Int) != 0)=true by decide),CE hL hL2,Option.bind_some,DX];refine if_pos ?_;rw[bne_iff_ne,Ne,Je,Cn];intro g
    have:=g k hk2
    rw[BitVec.getLsbD_and,BitVec.getLsbD_not,W4 hk2,hk3]at this;simp[hk2]at this;omega
   ·have:∃r:C8×Int,V9 N (giv t) (U s)=some r/\r=(⟨0,Sl.nil⟩,2):=by
     unfold V9;rw[h2,Option.bind_some,if_neg (show ¬((0:Int) != 0)=true by decide)];rw[show (giv t).Langs=((L+0:Nat):Int) from hL];refine Mo (fun q x=>x=((L+q:Nat):Int)/\∀q',q' < q->s.getLsbD (L+q')=false) (64-L) (fun r:C8×Int=>r=(⟨0,Sl.nil⟩,2)) (by omega) ⟨rfl,fun j hj=>absurd hj (by omega)⟩ ?_;rintro self q x hq ⟨rfl,hp⟩ hstep;by_cases hlt:q<64-L
     ·refine ifT (by simp;omega) (X5 (Lr s (L+q)) ?_);by_cases hb:s.getLsbD (L+q)=true
      ·exact ifT hb ⟨_,rfl,rfl⟩
      ·refine ifF hb (hstep hlt _ ⟨Q8 (by omega),fun q' hq'=>?_⟩);by_cases e:q' = q
       ·subst e;simpa using hb
       ·exact hp q' (by omega)
     ·have:=hp (k-L) (by omega)
      rw[show L+(k-L)=k by omega,hk3]at this;cases this
    obtain⟨r,g1,g2⟩:=this;rw[g2]at g1;exact g1
 ·have q:(e != 0)=true:=by simpa using he
  refine⟨(⟨0,Sl.nil⟩,e),(⟨0,Sl.nil⟩,e),?_,?_,rfl,rfl,rfl,by show 0<=100;omega⟩
  ·unfold E5;rw[h1,Option.bind_some,if_pos q]
  ·unfold V9;rw[h2,Option.bind_some,if_pos q]
theorem Nl {N:Nat}{t:A1}(hN:20000<=N)(hw:I3 N=some true)(h:inT t)(s:BitVec 64):Au N t (U s)=some true:=by
 unfold Au;rw[VY];by_cases hf:t.Has.n<=100
 ·have ht:okT t:=⟨hf,h⟩;obtain⟨r,u,a,b,c,d,e,f⟩:=Zv (by omega:1000<=N) ht s;have hS:=Wa (N:=N) (u:=r.1) (r:=u.1) c d (by omega) (by omega);simp only[hf,decide_true,Option.bind_some,Bool.not_true,Bool.false_eq_true,if_false,Qz ht,a,b,hS,lt,e,beq_self_eq_true,if_true,hw]
 ·simp[hf,hw]
end Go.AM
namespace Go.AM
open IntKind (wrap)
open Go.Proofs
def EF (k:Nat):(Nat->Nat)->Nat->Nat
 |_,0=>0
 |c,n+1=>c 0+2 ^ k*EF k (fun i=>c (i+1)) n
def Uo (k n:Nat):Nat:=EF (2*k) (fun _=>2 ^ k-1) n
def EG (f:Nat->Nat):Nat->Nat
 |0=>0
 |n+1=>EG f n+f n
theorem Wb {a b c d m:Nat}(ha:a<2 ^ m)(hc:c<2 ^ m):(a+2 ^ m*b) &&& (c+2 ^ m*d)=(a &&& c)+2 ^ m*(b &&& d):=by
 have h1:∀{x y:Nat},x<2 ^ m->(x+2 ^ m*y) % 2 ^ m=x:=fun h=>by rw[Nat.add_mul_mod_self_left,Nat.mod_eq_of_lt h]
 have h2:∀{x y:Nat},x<2 ^ m->(x+2 ^ m*y) / 2 ^ m=y:=fun h=>by rw[Nat.add_mul_div_left _ _ (Nat.pow_pos (by decide)),Nat.div_eq_of_lt h,Nat.zero_add]
 have e:=Nat.mod_add_div ((a+2 ^ m*b) &&& (c+2 ^ m*d)) (2 ^ m);rw[Nat.and_mod_two_pow,Nat.and_div_two_pow,h1 ha,h1 hc,h2 ha,h2 hc]at e;exact e.symm
theorem JH {k:Nat}:∀(n:Nat) (c d:Nat->Nat),EF k c n+EF k d n=EF k (fun i=>c i+d i) n
 |0,_,_=>rfl
 |n+1,c,d=>by show c 0+_+(d 0+_)=c 0+d 0+_*EF k (fun i=>c (i+1)+d (i+1)) n;rw[<- JH n,Nat.mul_add];omega
theorem QD {k:Nat}:∀(n:Nat) (c:Nat->Nat),c n=0->EF k c (n+1)=EF k c n
 |0,c,h=>by simp[EF,h]
 |n+1,c,h=>by show c 0+_*EF k (fun i=>c (i+1)) (n+1)=c 0+_*EF k (fun i=>c (i+1)) n;rw[QD n (fun i=>c (i+1)) h]
theorem OI {k n:Nat}{c:Nat->Nat}(h0:c 0<2 ^ k)(hz:c n=0):EF k c n / 2 ^ k=EF k (fun i=>c (i+1)) n:=by rw[<- QD n c hz];show (c 0+2 ^ k*_) / 2 ^ k=_;rw[Nat.add_mul_div_left _ _ (Nat.pow_pos (by decide)),Nat.div_eq_of_lt h0,Nat.zero_add]
theorem Up (k:Nat):∀(n:Nat) (c:Nat->Nat),(∀i,c i<2 ^ k)->EF k c (2*n) &&& Uo k n=EF (2*k) (fun i=>c (2*i)) n
 |0,_,_=>by show 0 &&& 0=0;rfl
 |n+1,c,h=>by
  have e:EF k c (2*(n+1))=(c 0+2 ^ k*c 1)+2 ^ (2*k)*EF k (fun i=>c (i+2)) (2*n):=by show c 0+2 ^ k*(c 1+2 ^ k*EF k (fun i=>c (i+1+1)) (2*n))=_;rw[Nat.mul_add,<- Nat.mul_assoc,<- Nat.pow_add,<- Nat.two_mul,Nat.add_assoc]
  have e2:Uo k (n+1)=(2 ^ k-1)+2 ^ (2*k)*Uo k n:=rfl;have hp:0<2 ^ k:=Nat.pow_pos (by decide);have hq:2 ^ (2*k)=2 ^ k*2 ^ k:=by rw[Nat.two_mul,Nat.pow_add]
  have h0:=h 0;have h1:=h 1;have b1:c 0+2 ^ k*c 1<2 ^ (2*k):=by
   rw[hq]
   calc c 0+2 ^ k*c 1<2 ^ k+2 ^ k*c 1:=by omega
    _=2 ^ k*(c 1+1):=by rw[Nat.mul_add];omega
    _<=2 ^ k*2 ^ k:=Nat.mul_le_mul_left _ (by omega)
  have b2:2 ^ k-1<2 ^ (2*k):=by
   rw[hq]
   calc 2 ^ k-1<2 ^ k*1:=by omega
    _<=2 ^ k*2 ^ k:=Nat.mul_le_mul_left _ (by omega)
  rw[e,e2,Wb b1 b2,Up k n _ fun i=>h (i+2),Nat.and_two_pow_sub_one_eq_mod,Nat.add_mul_mod_self_left,Nat.mod_eq_of_lt h0];rfl
theorem HP (f:Nat->Nat):∀n,EG f (2*n)=EG (fun i=>f (2*i)+f (2*i+1)) n
 |0=>rfl
 |n+1=>by show EG f (2*n)+f (2*n)+f (2*n+1)=_;rw[HP f n];simp only[EG];omega
def HS (x i:Nat):Nat:=if x.testBit i then 1 else 0
theorem RX (x i:Nat):HS x i<2:=by unfold HS;split<;>omega
theorem QE:∀(n x:Nat),EF 1 (HS x) n=x % 2 ^ n
 |0,x=>by simp[EF,Nat.mod_one]
 |n+1,x=>by
  show HS x 0+2 ^ 1*EF 1 (fun i=>HS x (i+1)) n=_;have e:(fun i=>HS x (i+1))=HS (x / 2):=by funext i;unfold HS;rw[Nat.testBit_succ]
  rw[e,QE n,Nat.pow_one,Nat.pow_succ,Nat.mul_comm (2 ^ n) 2,Nat.mod_mul];congr 1;unfold HS;rw[Nat.testBit_zero];rcases Nat.mod_two_eq_zero_or_one x with h|h<;>simp[h]
theorem OJ (x:BitVec 64):∀L,G0 x L=EG (HS x.toNat) L
 |0=>rfl
 |L+1=>by show _=EG _ L+HS x.toNat L;rw[<- OJ x L];rfl
def pc1 (x:Int):Int:=wrap .u64 ((A9 .and .u64 (shI .shr .u64 x 1) 6148914691236517205)+(A9 .and .u64 x 6148914691236517205))
def pc2 (x:Int):Int:=wrap .u64 ((A9 .and .u64 (shI .shr .u64 x 2) 3689348814741910323)+(A9 .and .u64 x 3689348814741910323))
def pc3 (x:Int):Int:=A9 .and .u64 (wrap .u64 ((shI .shr .u64 x 4)+x)) 1085102592571150095
def pc4 (n:Int)(x:Int):Int:=wrap .u64 (x+(shI .shr .u64 x n))
theorem Uq (N:Nat)(x:Int):F8 N x=some (A9 .and .i64 (wrap .i64 (pc4 32 (pc4 16 (pc4 8 (pc3 (pc2 (pc1 x))))))) 127):=rfl
theorem Ae2 {a b:Nat}(ha:a<2 ^ 64)(hb:b<2 ^ 64):A9 .and .u64 (a:Int) (b:Int)=((a &&& b:Nat):Int):=by
 have:=Mc (BitVec.ofNat 64 a) (BitVec.ofNat 64 b)
 simpa[U,BitVec.toNat_ofNat,BitVec.toNat_and,Nat.mod_eq_of_lt ha,Nat.mod_eq_of_lt hb]using this
theorem Af8 {a:Nat}(ha:a<2 ^ 64)(n:Nat):shI .shr .u64 (a:Int) (n:Int)=((a / 2 ^ n:Nat):Int):=by
 have:=Zo (BitVec.ofNat 64 a) n
 simpa[U,BitVec.toNat_ofNat,BitVec.toNat_ushiftRight,Nat.shiftRight_eq_div_pow,Nat.mod_eq_of_lt ha]using this
theorem Zw {n:Nat}(h:n<2 ^ 64):A9 .and .i64 (wrap .i64 (n:Int)) 127=((n % 128:Nat):Int):=by
 have e:BitVec.ofInt 64 (wrap .i64 (n:Int))=BitVec.ofNat 64 n:=by
  apply BitVec.eq_of_toNat_eq;rw[BitVec.toNat_ofInt,BitVec.toNat_ofNat,Nat.mod_eq_of_lt h];have h1:(n:Int) % (2 ^ 64:Int)=n:=Int.emod_eq_of_lt (by omega) (by omega);unfold wrap;simp only[IntKind.bits,IntKind.signed,h1];split
  ·show (((n:Int)-2 ^ 64) % ((2 ^ 64:Nat):Int)).toNat=n
   have:((n:Int)-2 ^ 64) % ((2 ^ 64:Nat):Int)=n:=by rw[show ((n:Int)-2 ^ 64)=(n:Int)-((2 ^ 64:Nat):Int) from rfl,Int.sub_emod_right];exact Int.emod_eq_of_lt (by omega) (by omega)
   omega
  ·show ((n:Int) % ((2 ^ 64:Nat):Int)).toNat=n
   have:(n:Int) % ((2 ^ 64:Nat):Int)=n:=Int.emod_eq_of_lt (by omega) (by omega)
   omega
 simp only[A9,IntKind.bits,e];show wrap .i64 (((BitVec.ofNat 64 n &&& BitVec.ofInt 64 127).toNat:Nat):Int)=_;have e2:(BitVec.ofNat 64 n &&& BitVec.ofInt 64 127).toNat=n % 128:=by rw[BitVec.toNat_and,BitVec.toNat_ofNat,Nat.mod_eq_of_lt h];exact Nat.and_two_pow_sub_one_eq_mod n 7
 rw[e2,DA (by omega) (by omega)]
theorem SZ {N:Nat}(x:BitVec 64):F8 N (U x)=some (G0 x 64:Int):=by
 rw[Uq,OJ];have hx:=x.isLt;generalize hn:x.toNat=n at hx;have v0:EF 1 (HS n) 64=n:=by rw[QE,Nat.mod_eq_of_lt hx]
 have hb:∀i,HS n i<2 ^ 1:=RX n;have z0:∀i,64<=i->HS n i=0:=fun i hi=>by unfold HS;rw[if_neg];rw[Nat.testBit_lt_two_pow (Nat.lt_of_lt_of_le hx (Nat.pow_le_pow_right (by decide) hi))];simp
 have m0:Uo 1 32=6148914691236517205:=by decide +kernel
 have m1:Uo 2 16=3689348814741910323:=by decide +kernel
 have m2:Uo 4 8=1085102592571150095:=by decide +kernel
 let c1:Nat->Nat:=fun i=>HS n (2*i+1)+HS n (2*i)
 have s1:(n / 2 ^ 1 &&& 6148914691236517205)+(n &&& 6148914691236517205)=EF 2 c1 32:=by have a:=Up 1 32 (HS n) hb;have b:=Up 1 32 (fun i=>HS n (i+1)) fun i=>hb _;rw[<- OI (hb 0) (z0 64 (by omega))]at b;rw[v0,m0]at a b;rw[a,b,JH]
 have l1:∀i,c1 i<2 ^ 2/\c1 i<=2:=fun i=>by have h1:=RX n (2*i+1);have h2:=RX n (2*i);show HS n _+HS n _<_/\HS n _+HS n _<=_;omega
 have q1:c1 32=0:=by show HS n 65+HS n 64=0;rw[z0 65 (by omega),z0 64 (by omega)]
 let c2:Nat->Nat:=fun i=>c1 (2*i+1)+c1 (2*i)
 have s2:(EF 2 c1 32 / 2 ^ 2 &&& 3689348814741910323)+(EF 2 c1 32 &&& 3689348814741910323)=EF 4 c2 16:=by have a:=Up 2 16 c1 fun i=>(l1 i).1;have b:=Up 2 16 (fun i=>c1 (i+1)) fun i=>(l1 _).1;rw[<- OI (l1 0).1 q1]at b;rw[m1]at a b;rw[a,b,JH]
 have l2:∀i,c2 i<=4:=fun i=>by have h1:=(l1 (2*i+1)).2;have h2:=(l1 (2*i)).2;show c1 _+c1 _<=_;omega
 have q2:c2 16=0:=by show c1 33+c1 32=0;rw[q1];show HS n 67+HS n 66+0=0;rw[z0 67 (by omega),z0 66 (by omega)]
 let c3:Nat->Nat:=fun i=>c2 (2*i+1)+c2 (2*i)
 have s3:(EF 4 c2 16 / 2 ^ 4+EF 4 c2 16) &&& 1085102592571150095=EF 8 c3 8:=by rw[OI (by have:=l2 0;omega) q2,JH,<- m2,Up 4 8 _ fun i=>by have:=l2 i;have:=l2 (i+1);show c2 (i+1)+c2 i<_;omega]
 have l3:∀i,c3 i<=8:=fun i=>by have h1:=l2 (2*i+1);have h2:=l2 (2*i);show c2 _+c2 _<=_;omega
 have hs:EG (HS n) 64=c3 0+c3 1+c3 2+c3 3+c3 4+c3 5+c3 6+c3 7:=by rw[show (64:Nat)=2*32 from rfl,HP,show (32:Nat)=2*16 from rfl,HP,show (16:Nat)=2*8 from rfl,HP];show 0+_+_+_+_+_+_+_+_=_;simp only[c3,c2,c1];omega
 have hv:EF 8 c3 8=c3 0+256*(c3 1+256*(c3 2+256*(c3 3+256*(c3 4+256*(c3 5+256*(c3 6+256*(c3 7+256*0))))))):=rfl;have g0:=l3 0;have g1:=l3 1;have g2:=l3 2;have g3:=l3 3;have g4:=l3 4;have g5:=l3 5;have g6:=l3 6;have g7:=l3 7;generalize c3 0=e0 at *;generalize c3 1=e1 at *;generalize c3 2=e2 at *;generalize c3 3=e3 at *;generalize c3 4=e4 at *;generalize c3 5=e5 at *;generalize c3 6=e6 at *;generalize c3 7=e7 at *;have t1:pc1 (n:Int)=((EF 2 c1 32:Nat):Int):=by have hd:n / 2 ^ 1<2 ^ 64:=Nat.lt_of_le_of_lt (Nat.div_le_self _ _) hx;have ha:n / 2 ^ 1 &&& 6148914691236517205<=6148914691236517205:=Nat.and_le_right;have hb' : n &&& 6148914691236517205<=6148914691236517205:=Nat.and_le_right;unfold pc1;rw[show (1:Int)=((1:Nat):Int) from rfl,Af8 hx,show (6148914691236517205:Int)=((6148914691236517205:Nat):Int) from rfl,Ae2 hd (by decide),Ae2 hx (by decide),<- Int.natCast_add,s1,Y3 (by omega)]
 have w1:EF 2 c1 32<2 ^ 64:=by have ha:n / 2 ^ 1 &&& 6148914691236517205<=6148914691236517205:=Nat.and_le_right;have hb' : n &&& 6148914691236517205<=6148914691236517205:=Nat.and_le_right;omega
 generalize EF 2 c1 32=n1 at *;have ha1:n1 / 2 ^ 2 &&& 3689348814741910323<=3689348814741910323:=Nat.and_le_right;have hb1:n1 &&& 3689348814741910323<=3689348814741910323:=Nat.and_le_right;have t2:pc2 (n1:Int)=((EF 4 c2 16:Nat):Int):=by have hd:n1 / 2 ^ 2<2 ^ 64:=Nat.lt_of_le_of_lt (Nat.div_le_self _ _) w1;unfold pc2;rw[show (2:Int)=((2:Nat):Int) from rfl,Af8 w1,show (3689348814741910323:Int)=((3689348814741910323:Nat):Int) from rfl,Ae2 hd (by decide),Ae2 w1 (by decide),<- Int.natCast_add,s2,Y3 (by omega)]
 generalize EF 4 c2 16=n2 at *;have w2:n2<=7378697629483820646:=by omega
 have t3:pc3 (n2:Int)=((EF 8 c3 8:Nat):Int):=by unfold pc3;rw[show (4:Int)=((4:Nat):Int) from rfl,Af8 (by omega),show (1085102592571150095:Int)=((1085102592571150095:Nat):Int) from rfl,<- Int.natCast_add,Y3 (by omega),Ae2 (by omega) (by decide),s3]
 generalize EF 8 c3 8=n3 at *;have t4:∀(a k:Nat),a<2 ^ 63->1<=k->pc4 (k:Int) (a:Int)=((a+a / 2 ^ k:Nat):Int):=fun a k h hk=>by
  have:a / 2 ^ k<=a:=Nat.div_le_self _ _
  unfold pc4;rw[Af8 (by omega),<- Int.natCast_add,Y3 (by omega)]
 have t5:U x=((n:Nat):Int):=by show ((x.toNat:Nat):Int)=_;rw[hn]
 have p8:pc4 8 (n3:Int)=((n3+n3 / 2 ^ 8:Nat):Int):=t4 _ 8 (by omega) (by omega);have k1:n3+n3 / 2 ^ 8<2 ^ 63:=by omega
 generalize h4:n3+n3 / 2 ^ 8=n4 at p8 k1;have p16:pc4 16 (n4:Int)=((n4+n4 / 2 ^ 16:Nat):Int):=t4 _ 16 k1 (by omega);have k2:n4+n4 / 2 ^ 16<2 ^ 63:=by omega
 generalize h5:n4+n4 / 2 ^ 16=n5 at p16 k2;have p32:pc4 32 (n5:Int)=((n5+n5 / 2 ^ 32:Nat):Int):=t4 _ 32 k2 (by omega);have k3:n5+n5 / 2 ^ 32<2 ^ 64:=by omega
 generalize h6:n5+n5 / 2 ^ 32=n6 at p32 k3;rw[t5,t1,t2,t3,p8,p16,p32,Zw k3,hs];refine congrArg some (congrArg Nat.cast ?_);have a1:n3 / 2 ^ 8=e1+256*e2+65536*e3+16777216*e4+4294967296*e5+1099511627776*e6+281474976710656*e7:=by omega
 have b1:n4=(e0+e1)+256*(e1+e2)+65536*(e2+e3)+16777216*(e3+e4)+4294967296*(e4+e5)+1099511627776*(e5+e6)+281474976710656*(e6+e7)+72057594037927936*e7:=by omega
 clear h4 a1 p8 p16 p32 k1 k2 k3 t1 t2 t3 s1 s2 s3 w1 w2 ha1 hb1 hv hs;have a2:n4 / 2 ^ 16=(e2+e3)+256*(e3+e4)+65536*(e4+e5)+16777216*(e5+e6)+4294967296*(e6+e7)+1099511627776*e7:=by clear h5 h6;omega
 have b2:n5=(e0+e1+e2+e3)+256*(e1+e2+e3+e4)+65536*(e2+e3+e4+e5)+16777216*(e3+e4+e5+e6)+4294967296*(e4+e5+e6+e7)+1099511627776*(e5+e6+e7)+281474976710656*(e6+e7)+72057594037927936*e7:=by omega
 clear h5 a2 b1;have a3:n5 / 2 ^ 32=(e4+e5+e6+e7)+256*(e5+e6+e7)+65536*(e6+e7)+16777216*e7:=by clear h6;omega
 have b3:n6=(e0+e1+e2+e3+e4+e5+e6+e7)+256*((e1+e2+e3+e4+e5+e6+e7)+256*(e2+e3+e4+e5+e6+e7)+65536*(e3+e4+e5+e6+e7)+16777216*(e4+e5+e6+e7)+4294967296*(e5+e6+e7)+1099511627776*(e6+e7)+281474976710656*e7):=by omega
 clear h6 a3 b2;omega
end Go.AM
namespace Go.AM
open IntKind (wrap)
open Go.Proofs
theorem CG {N L:Nat}{t:A1}(hN:1000<=N)(h:okT t)(ho:okC t L):C4 N t=some 0:=by
 obtain⟨hL,hL2,hn,hs⟩:=ho;have h1:B1 N t.Has (fun (u1:Int)=>O4 N u1 t)=some ((List.range t.Has.n).any fun i=>U (bT t i &&& ~~~ HR L) != 0):=
  Gl (by omega) (by omega) fun i hi=>by unfold O4;rw[CE hL hL2,DB h hi];show some _=_;rw[DX]
 have h2:((List.range t.Has.n).any fun i=>U (bT t i &&& ~~~ HR L) != 0)=false:=by
  rw[List.any_eq_false];intro i hi
  have:=hs i (List.mem_range.1 hi)
  rw[bne_iff_ne,Ne,Je,Cn,Classical.not_not];intro k h2;rw[BitVec.getLsbD_and,BitVec.getLsbD_not,W4 h2];by_cases h1:k<L
  ·simp[h1]
  ·simp[this k (by omega) h2]
 unfold C4;rw[if_neg (by simp;omega),if_neg (by simp;omega),h1,h2];rfl
theorem Wc {L:Nat}(h:L<=32):wrap .u64 ((shI .shl .u64 1 (L:Int))-1)=U (HR L):=by
 have:=CE (N:=0) (t:=⟨(L:Int),Sl.nil⟩) rfl h
 unfold H6 at this;rw[if_pos (by show (0:Int)<=(L:Int);omega)]at this;exact Option.some.inj this
theorem OK (x:BitVec 64){L:Nat}(h:L<=64):JE L (x &&& HR L):=fun k h1 h2=>by rw[BitVec.getLsbD_and,W4 h2];simp;omega
theorem Ae3 {c:Nat}(h:c<256):(wrap .i64 (c:Int)).tmod 33=((c % 33:Nat):Int):=by rw[DA (by omega) (by omega)];rfl
theorem Ta {N:Nat}{l:Sl Int}{c:Nat}(hN:1000<=N)(hc:c<256)(hl:∀i,i<l.n->∃x:BitVec 64,l.g i=U x) :∃t,BN N (c:Int) l=some t/\okT t/\okC t (c % 33):=by
 unfold BN;rw[Ae3 hc,Wc (by omega)];obtain⟨m,hm,hm64,hml⟩:∃m:Nat,(if 64<(l.n:Int)then 64 else (l.n:Int))=m/\m<=64/\m<=l.n:=by
  by_cases h:64<l.n
  ·exact⟨64,by rw[if_pos (by omega)];rfl,by omega,by omega⟩
  ·exact⟨l.n,by rw[if_neg (by omega)],by omega,by omega⟩
 rw[hm,Int.toNat_natCast];refine ifT (by omega) ?_;refine OF (fun i (x1:Sl Int) x2=>x2=(i:Int)/\x1.n=i/\∀j,j<i->∃y:BitVec 64,x1.g j=U y/\JE (c % 33) y) m _ (by omega) ⟨rfl,rfl,fun j hj=>absurd hj (by omega)⟩ ?_;rintro self i x1 x2 hi ⟨rfl,hn,hx⟩ hs;by_cases hlt:i<m
 ·refine ifT (by show decide ((i:Int)<(m:Int))=true;simp;omega) (ifT (by show (0:Int)<=i/\(i:Int)<(m:Int);omega) (ifT (by omega) (ifT (by show (x1.n+1)*8<=_/\x1.n+1<=_;omega) (hs hlt _ _ ⟨Q8 (by omega),by show x1.n+1=_;omega,fun j hj=>?_⟩))));obtain⟨x,hxe⟩:=hl i (by omega);show ∃y,(if j<x1.n then x1.g j else A9 .and .u64 ((l.take m).g (i:Int).toNat) (U (HR (c % 33))))=U y/\_;by_cases e:j<x1.n
  ·rw[if_pos e];exact hx j (by omega)
  ·rw[if_neg e,Int.toNat_natCast];refine⟨x &&& HR (c % 33),?_,OK x (by omega)⟩;show A9 .and .u64 (l.g i) _=_;rw[hxe,Mc]
 ·obtain rfl:i=m:=by omega
  refine ifF (by show ¬decide (((i:Nat):Int)<(i:Int))=true;simp) ⟨_,rfl,⟨by show x1.n<=100;omega,fun j hj=>?_⟩,rfl,by omega,by show x1.n<=64;omega,fun j hj=>?_⟩
  ·obtain⟨y,e,_⟩:=hx j (by rw[<- hn];exact hj);exact⟨y,e⟩
  ·obtain⟨y,e,g⟩:=hx j (by rw[<- hn];exact hj);show JE _ (BitVec.ofNat 64 (x1.g j).toNat);rw[e];show JE _ (BitVec.ofNat 64 (y.toNat:Int).toNat);rw[Int.toNat_natCast];simpa using g
def Mp (t:A1)(a i:Nat):Bool:=(bT t i).getLsbD a
theorem RY {L:Nat}{a:Int}(ho:Jf L a=false):∃k:Nat,a=k/\k<L:=by simp only[Jf,Bool.or_eq_false_iff,decide_eq_false_iff_not]at ho;exact⟨a.toNat,by omega,by omega⟩
theorem Zx {L a:Nat}(h:a<L):Jf L (a:Int)=false:=by simp[Jf];omega
theorem Ng {N L:Nat}{t:A1}(hN:1000<=N)(h:okT t)(ho:okC t L)(a b:Int) :P6 N t a b=some (if (Jf L a||Jf L b) then (0,3)else ((Fy (fun i=>Mp t a.toNat i&&Mp t b.toNat i) t.Has.n:Int),0)):=by
 unfold P6;rw[Un (L:=L) (p:=fun i=>Mp t a.toNat i&&Mp t b.toNat i) hN h (CG hN h ho) ho.1 fun ho i hi=>?_]
 ·rfl
 ·rw[Bool.or_eq_false_iff]at ho;obtain⟨k,rfl,hk⟩:=RY ho.1;obtain⟨m,rfl,hm⟩:=RY ho.2;unfold Y9;rw[if_pos (by omega),if_pos (fun _=>by omega),DB h hi,Zp,Zp];simp[Mp]
theorem Wd {N L:Nat}{t:A1}(hN:1000<=N)(h:okT t)(ho:okC t L)(a:Int) :AI N t a=some (if Jf L a then (0,3)else ((Fy (fun i=>Mp t a.toNat i&&decide (G0 (bT t i) L=1)) t.Has.n:Int),0)):=by
 obtain⟨hL,hL2,hn,hs⟩:=ho;unfold AI;rw[Um (L:=L) (p:=fun i=>Mp t a.toNat i&&decide (G0 (bT t i) L=1)) hN h (CG hN h ⟨hL,hL2,hn,hs⟩) hL fun ho i hi=>?_]
 ·rfl
 ·obtain⟨k,rfl,hk⟩:=RY ho;unfold BI;rw[if_pos (by omega),DB h hi,XB (hs i hi) (by omega) hk,Int.toNat_natCast];rfl
theorem Iy {N L:Nat}{t:A1}(hN:1000<=N)(h:okT t)(ho:okC t L)(i j:Int) :E8 N t i j=some (if (0<=i/\i<(t.Has.n:Int))/\(0<=j/\j<(t.Has.n:Int))then (SV L (bT t i.toNat) (bT t j.toNat),0)else (false,3)):=by
 obtain⟨hL,hL2,hn,hs⟩:=ho;unfold E8;rw[CG hN h ⟨hL,hL2,hn,hs⟩,Option.bind_some,if_neg (show ¬((0:Int) != 0)=true by decide)];by_cases hb:(0<=i/\i<(t.Has.n:Int))/\(0<=j/\j<(t.Has.n:Int))
 ·have q1:¬((((decide (i<0))||(decide (j<0)))||(decide ((t.Has.n:Int)<=i)))||(decide ((t.Has.n:Int)<=j)))=true:=by simp;omega
  rw[if_neg q1,if_pos hb,if_pos hb,DB h (show i.toNat<_ by omega),DB h (show j.toNat<_ by omega),VX (hs _ (by omega)) (hs _ (by omega)) (by omega)];rfl
 ·have q1:((((decide (i<0))||(decide (j<0)))||(decide ((t.Has.n:Int)<=i)))||(decide ((t.Has.n:Int)<=j)))=true:=by simp;omega
  rw[if_pos q1,if_neg hb]
theorem Ur {N L:Nat}{t:A1}(hN:1000<=N)(h:okT t)(ho:okC t L) :∃s:Sl Int,J7 N t=some (s,0)/\s.toList=FL (fun i=>decide (2<=G0 (bT t i) L)&&decide (G0 (bT t i) L<L)) t.Has.n:=by
 have hc:=CG hN h ho;obtain⟨hL,hL2,hn2,hs⟩:=ho;have hn:=h.1;unfold J7;rw[hc,Option.bind_some,if_neg (show ¬((0:Int) != 0)=true by decide)]
 let p:Nat->Bool:=fun i=>decide (2<=G0 (bT t i) L)&&decide (G0 (bT t i) L<L)
 have hw:B4 N t (fun (u2:Int)=>I6 N u2 t)=some (FL p t.Has.n):=Fx (by omega) (by omega) fun i hi=>by
  unfold I6;rw[DB h hi,VV (hs i hi) (by omega),CE hL hL2];simp only[lt,Option.bind_some];rw[SU (hs i hi) (by omega)];by_cases h4:2<=G0 (bT t i) L
  ·rw[if_pos (by simpa using h4)];simp[p,h4]
  ·rw[if_neg (by simpa using h4)];simp[p,h4]
 have hl:=Gm p t.Has.n;obtain⟨s,g1,g2⟩:=Lp (N:=N) (L:=FL p t.Has.n) (by omega);refine⟨s,?_,g2⟩;show (B4 N t _).bind _=_;rw[hw,Option.bind_some,g1,Option.bind_some]
theorem Tb (f g:Nat->Nat):∀n,EG (fun i=>f i+g i) n=EG f n+EG g n
 |0=>rfl
 |n+1=>by simp only[EG,Tb f g n];omega
theorem DC {f g:Nat->Nat}:∀{n:Nat},(∀i,i<n->f i=g i)->EG f n=EG g n
 |0,_=>rfl
 |n+1,h=>by simp only[EG,DC (n:=n) fun i hi=>h i (by omega),h n (by omega)]
theorem Lw:∀n,EG (fun _=>0) n=0
 |0=>rfl
 |n+1=>by simp only[EG,Lw n]
theorem OL {f:Nat->Nat}{b:Nat}:∀{n:Nat},(∀i,i<n->f i<=b)->EG f n<=n*b
 |0,_=>Nat.zero_le _
 |n+1,h=>by have h1:=OL (n:=n) fun i hi=>h i (by omega);have h2:=h n (by omega);simp only[EG,Nat.succ_mul];omega
theorem En (p:Nat->Bool):∀n,Fy p n=EG (fun i=>if p i then 1 else 0) n
 |0=>rfl
 |n+1=>by rw[Fz,En p n];rfl
theorem OM (p:Nat->Bool)(n:Nat):Fy p n<=n:=Gm p n
theorem QF {p q:Nat->Bool}:∀{n:Nat},(∀i,i<n->p i=true->q i=true)->Fy p n<=Fy q n
 |0,_=>Nat.le_refl _
 |n+1,h=>by
  have h1:=QF (n:=n) fun i hi=>h i (by omega);have h2:=h n (by omega);rw[Fz,Fz];by_cases e:p n=true
  ·rw[if_pos e,if_pos (h2 e)];omega
  ·rw[if_neg e];omega
theorem Us {p q:Nat->Bool}{n:Nat}(h:∀i,i<n->p i=q i):Fy p n=Fy q n:=by rw[En,En];exact DC fun i hi=>by rw[h i hi]
theorem Zy (f:Nat->Nat->Bool)(L:Nat):∀n,EG (fun a=>Fy (f a) n) L=EG (fun i=>Fy (fun a=>f a i) L) n
 |0=>Lw L
 |n+1=>by show _=EG (fun i=>Fy (fun a=>f a i) L) n+Fy (fun a=>f a n) L;rw[<- Zy f L n,En (fun a=>f a n),<- Tb];exact DC fun a _=>Fz _ _
theorem QG (x:BitVec 64)(L:Nat):Fy x.getLsbD L=G0 x L:=by rw[En,OJ];rfl
theorem Tc {L:Nat}{x:BitVec 64}(hs:JE L x)(hL:L<=64):G0 x 64=G0 x L:=JG hL fun k h1 h2=>hs k h1 h2
theorem We (t:A1)(n L:Nat):EG (fun a=>Fy (fun i=>Mp t a i&&decide (G0 (bT t i) L=1)) n) L=Fy (fun i=>decide (G0 (bT t i) L=1)) n:=by
 rw[Zy,En (fun i=>decide (G0 (bT t i) L=1))];refine DC fun i _=>?_;by_cases e:G0 (bT t i) L=1
 ·simp only[e,decide_true,Bool.and_true,if_true];exact (QG (bT t i) L).trans e
 ·simp only[e,decide_false,Bool.and_false,Bool.false_eq_true,if_false];rw[En];simp only[Bool.false_eq_true,if_false];exact Lw L
def Ae4 (l:Sl Int):Prop:=∀i,i<l.n->∃x:BitVec 64,l.g i=U x
theorem Jg {N:Nat}{l:Sl Int}{c:Nat}(hN:20000<=N)(hw:I3 N=some true)(hc:c<256)(hl:Ae4 l):P3 N (c:Int) l=some true:=by
 obtain⟨t,h1,h,ho⟩:=Ta (N:=N) (by omega) hc hl;have hL32:c % 33<=32:=by omega
 generalize c % 33=L at ho hL32;have ho':=ho;obtain⟨hL,hL2,hn,hs⟩:=ho';have hN' : 1000<=N:=by omega
 let p:Nat->Bool:=fun i=>decide (2<=G0 (bT t i) L)&&decide (G0 (bT t i) L<L)
 let S:=EG (fun j=>G0 (bT t j) L) t.Has.n
 let K:=Fy (fun j=>decide (G0 (bT t j) L=1)) t.Has.n
 have hcb:∀i,G0 (bT t i) L<=32:=fun i=>Nat.le_trans (X6 _ _) hL2
 have:∃r,P3 N (c:Int) l=some r/\r=true:=by
  unfold P3;refine X5 h1 ?_;refine Ae0 (fun i (x1 x2:Int) (x3:Sl Int) x4=>x4=(i:Int)/\x1=(EG (fun j=>G0 (bT t j) L) i:Nat)/\x2=(Fy (fun j=>decide (G0 (bT t j) L=1)) i:Nat)/\x3.toList=FL p i) t.Has.n _ (by omega) ⟨rfl,rfl,rfl,rfl⟩ ?_;rintro self i x1 x2 x3 x4 hi ⟨rfl,rfl,rfl,hx⟩ hstep;have b1:EG (fun j=>G0 (bT t j) L) i<=i*32:=OL fun j _=>hcb j;have b2:=OM (fun j=>decide (G0 (bT t j) L=1)) i;have hxn:x3.n<=i:=by rw[<- By x3,hx];exact Gm p i
  by_cases hlt:i<t.Has.n
  ·refine ifT (by simp;omega) (ifT (by omega) ?_);rw[Int.toNat_natCast,DB h hlt];refine X5 (SZ _) ?_;rw[Tc (hs i hlt) (by omega)];have hci:=hcb i;have g2:(if ((G0 (bT t i) L:Int)==1) then wrap .i64 (((Fy (fun j=>decide (G0 (bT t j) L=1)) i:Nat):Int)+1)else ((Fy (fun j=>decide (G0 (bT t j) L=1)) i:Nat):Int))=((Fy (fun j=>decide (G0 (bT t j) L=1)) (i+1):Nat):Int):=by
    rw[Fz];by_cases e:G0 (bT t i) L=1
    ·rw[if_pos (by rw[e];rfl),if_pos (by simpa using e),Q8 (by omega)]
    ·rw[if_neg (by simp;omega),if_neg (by simpa using e)];rfl
   have g1:wrap .i64 (((EG (fun j=>G0 (bT t j) L) i:Nat):Int)+(G0 (bT t i) L:Int))=((EG (fun j=>G0 (bT t j) L) (i+1):Nat):Int):=by rw[wrapA (by omega)];rfl
   rw[g1,g2];by_cases e:p i=true
   ·have e':=e;simp only[p,Bool.and_eq_true,decide_eq_true_eq]at e';refine ifT (by rw[hL];simp;omega) (ifT (by show (x3.n+1)*8<=_/\x3.n+1<=_;omega) (hstep hlt _ _ _ _ ⟨Q8 (by omega),rfl,rfl,?_⟩));rw[GK,hx,Iv,if_pos e]
   ·have e':=e;simp only[p,Bool.and_eq_true,decide_eq_true_eq]at e';refine ifF (by rw[hL];simp;omega) (hstep hlt _ _ _ _ ⟨Q8 (by omega),rfl,rfl,?_⟩);rw[hx,Iv,if_neg e,List.append_nil]
  ·obtain rfl:i=t.Has.n:=by omega
   refine ifF (by simp) ?_;refine XA (fun a (x5 x6:Int) x7=>x7=(a:Int)/\x5=(S:Int)-(EG (fun a=>Fy (Mp t a) t.Has.n) a:Nat)/\x6=(K:Int)-(EG (fun a=>Fy (fun i=>Mp t a i&&decide (G0 (bT t i) L=1)) t.Has.n) a:Nat)) L _ (by omega) ⟨rfl,by show (S:Int)=_-0;omega,by show (K:Int)=_-0;omega⟩ ?_;rintro self2 a x5 x6 x7 ha ⟨rfl,rfl,rfl⟩ hs2;have hS:S<=t.Has.n*32:=b1;have hK:K<=t.Has.n:=b2;have c1:EG (fun a=>Fy (Mp t a) t.Has.n) a<=a*t.Has.n:=OL fun j _=>OM _ _;have c2:EG (fun a=>Fy (fun i=>Mp t a i&&decide (G0 (bT t i) L=1)) t.Has.n) a<=a*t.Has.n:=OL fun j _=>OM _ _;have c3:a*t.Has.n<=32*64:=Nat.mul_le_mul (by omega) hn;by_cases haL:a<L
   ·refine ifT (by rw[hL];simp;omega) (X5 (Ng hN' h ho _ _) (X5 (Wd hN' h ho _) ?_));rw[Zx haL];simp only[Bool.or_self,Bool.false_eq_true,if_false,Int.toNat_natCast];have d1:Fy (fun i=>Mp t a i&&Mp t a i) t.Has.n=Fy (Mp t a) t.Has.n:=Us fun i _=>Bool.and_self _;rw[d1];have d2:Fy (fun i=>Mp t a i&&decide (G0 (bT t i) L=1)) t.Has.n<=Fy (Mp t a) t.Has.n:=QF fun i _ hh=>by simp only[Bool.and_eq_true]at hh;exact hh.1
    have d3:=OM (Mp t a) t.Has.n;refine ifF (by simp;omega) (hs2 haL _ _ _ ⟨Q8 (by omega),?_,?_⟩)
    ·rw[DA (by omega) (by omega)];simp only[EG];omega
    ·rw[DA (by omega) (by omega)];simp only[EG];omega
   ·obtain rfl:a=L:=by omega
    have e1:EG (fun a=>Fy (Mp t a) t.Has.n) a=S:=by rw[Zy (Mp t) a t.Has.n];exact DC fun i _=>QG _ _
    have e2:EG (fun a_1=>Fy (fun i=>Mp t a_1 i&&decide (G0 (bT t i) a=1)) t.Has.n) a=K:=We t _ _;rw[e1,e2,Int.sub_self,Int.sub_self];obtain⟨s,u1,u2⟩:=Ur hN' h ho;refine ifF (by rw[hL];simp) (X5 u1 (X5 (Ng hN' h ho _ _) (X5 (Wd hN' h ho _) (X5 (Iy hN' h ho _ _) ?_))));have o1:Jf a t.Langs=true:=by rw[hL];simp[Jf]
    have o2:Jf a (-1)=true:=by simp[Jf]
    rw[o1,o2,if_neg (show ¬((0<=(0:Int)/\(0:Int)<(t.Has.n:Int))/\(0<=(t.Has.n:Int)/\(t.Has.n:Int)<(t.Has.n:Int))) by omega),Bool.or_true,if_pos rfl,if_pos rfl];have hsn:s.n<=64:=by rw[<- By s,u2];exact Nat.le_trans (Gm _ _) hn
    have hE:=Iu (N:=N) (a:=s) (b:=x3) (by omega) (by omega) (by rw[u2,hx]);simp only[lt,hE,Option.bind_some,beq_self_eq_true,if_true,hw];exact⟨_,rfl,rfl⟩
 obtain⟨r,g1,g2⟩:=this;rw[g2]at g1;exact g1
end Go.AM
namespace Go.AM
open Go.Proofs
theorem XD {L:Nat}(h:L<=64):JE L (HR L):=fun k h1 h2=>by rw[W4 h2];simp;omega
theorem Wf {L:Nat}(h:L<=64):G0 (HR L) L=L:=cntB_full.2 fun k hk=>by rw[W4 (by omega)];simpa using hk
theorem Nh {L q:Nat}(h:L<=64)(hq:q<=L):G0 (HR L) q=q:=cntB_full.2 fun k hk=>by rw[W4 (by omega)];simp;omega
theorem XE {L:Nat}{x:BitVec 64}(h:L<=64)(hs:JE L x):Bz (HR L) x L=x:=by
 refine DY fun b hb=>?_;rw[Z0 _ _ L h b hb];constructor
 ·rintro⟨q,h1,h2,h3,h4⟩;rw[Nh h (by omega)]at h3;subst h3;exact h4
 ·intro hx;have hbL:b<L:=by refine Classical.byContradiction fun g=>?_;rw[hs b (by omega) hb]at hx;cases hx
  exact⟨b,hbL,by rw[W4 hb];simpa using hbL,Nh h (by omega),hx⟩
theorem Td {L:Nat}(s x:BitVec 64)(h:L<=64):JE (G0 s L) (Bz s x L):=fun k h1 h2=>by
 cases hb:(Bz s x L).getLsbD k with
 |false=>rfl
 |true=>
  obtain⟨q,g1,g2,g3,g4⟩:=(Z0 s x L h k h2).1 hb
  have:=GM g1 g2
  omega
theorem GN {L k:Nat}{s:BitVec 64}(x:BitVec 64)(h:L<=64)(hk:k<L)(hs:s.getLsbD k=true):(Bz s x L).getLsbD (G0 s k)=x.getLsbD k:=by
 have hc:=GM hk hs
 have:=X6 s L
 rw[Bool.eq_iff_iff,Z0 s x L h _ (by omega)];constructor
 ·rintro⟨q,g1,g2,g3,g4⟩;rw[OH g2 hs g3]at g4;exact g4
 ·intro hx;exact⟨k,hk,hs,rfl,hx⟩
theorem Te {L q b:Nat}{s:BitVec 64}(x:BitVec 64)(h:L<=64)(hq:q<=L)(hb:b<G0 s q):(Bz s x L).getLsbD b=(Bz s x q).getLsbD b:=by
 have:=X6 s q
 rw[Bool.eq_iff_iff,Z0 s x L h _ (by omega),Z0 s x q (by omega) _ (by omega)];constructor
 ·rintro⟨p,g1,g2,g3,g4⟩;refine⟨p,?_,g2,g3,g4⟩;refine Classical.byContradiction fun g=>?_
  have:=Lt s (a:=q) (b:=p) (by omega)
  omega
 ·rintro⟨p,g1,g2⟩;exact⟨p,by omega,g2⟩
theorem Iz {x y:BitVec 64}:∀{L:Nat},(∀k,k<L->x.getLsbD k=y.getLsbD k)->G0 x L=G0 y L
 |0,_=>rfl
 |L+1,h=>by simp only[G0,Iz (L:=L) fun k hk=>h k (by omega),h L (by omega)]
theorem ON (s o:BitVec 64):∀{m:Nat},m<=64->G0 (Bz s o m) (G0 s m)=G0 (s &&& o) m
 |0,_=>rfl
 |m+1,h=>by
  have ih:=ON s o (m:=m) (by omega);have hcl:=X6 s m;have hand:(s &&& o).getLsbD m=(s.getLsbD m&&o.getLsbD m):=BitVec.getLsbD_and;by_cases hs:s.getLsbD m=true
  ·have e1:G0 s (m+1)=G0 s m+1:=by simp only[G0,hs,if_true]
   rw[e1];show G0 (Bz s o (m+1)) (G0 s m)+(if (Bz s o (m+1)).getLsbD (G0 s m) then 1 else 0)=G0 (s &&& o) m+if (s &&& o).getLsbD m then 1 else 0
   rw[GN o h (by omega) hs,hand,hs,Bool.true_and,<- ih];congr 1;exact Iz fun k hk=>Te o h (by omega) hk
  ·have hs' : s.getLsbD m=false:=by simpa using hs
   have e1:G0 s (m+1)=G0 s m:=by simp[G0,hs']
   have e2:Bz s o (m+1)=Bz s o m:=by simp[Bz,hs']
   rw[e1,e2,ih];simp[G0,hand,hs']
theorem Ut {L:Nat}(s o x:BitVec 64)(h:L<=64):Bz (Bz s o L) (Bz s x L) (G0 s L)=Bz (s &&& o) x L:=by
 have hcl:=X6 s L;have key:∀q,q<=L->G0 (Bz s o L) (G0 s q)=G0 (s &&& o) q:=fun q hq=>by rw[<- ON s o (m:=q) (by omega)];exact Iz fun k hk=>Te o h hq hk
 refine DY fun b hb=>?_;rw[Z0 _ _ _ (by omega) b hb,Z0 _ _ _ h b hb];constructor
 ·rintro⟨r,h1,h2,h3,h4⟩;obtain⟨q,g1,g2,g3,g4⟩:=(Z0 s o L h r (by omega)).1 h2;obtain⟨q',k1,k2,k3,k4⟩:=(Z0 s x L h r (by omega)).1 h4;obtain rfl:q=q':=OH g2 k2 (by omega);refine⟨q,g1,by rw[BitVec.getLsbD_and,g2,g4];rfl,?_,k4⟩;rw[<- key q (by omega),g3];exact h3
 ·rintro⟨q,g1,g2,g3,g4⟩;rw[BitVec.getLsbD_and,Bool.and_eq_true]at g2;exact⟨G0 s q,GM g1 g2.1,by rw[GN o h g1 g2.1];exact g2.2,by rw[key q (by omega)];exact g3,by rw[GN x h g1 g2.1];exact g4⟩
theorem anyN_iff {f:Nat->Bool}{L:Nat}:Jw f L=true ↔ ∃k,k<L/\f k=true:=by unfold Jw;rw[List.any_eq_true];simp only[List.mem_range]
theorem XF {L:Nat}{s x y:BitVec 64}(h:L<=64)(hf:SV L x y=true):SV (G0 s L) (Bz s x L) (Bz s y L)=true:=by
 have hcl:=X6 s L;have up:∀(f g:Bool->Bool->Bool),(∀b,b<G0 s L->f ((Bz s x L).getLsbD b) ((Bz s y L).getLsbD b)=true->∃q,q<L/\f (x.getLsbD q) (y.getLsbD q)=true) ->
  Jw (fun k=>f (x.getLsbD k) (y.getLsbD k)) L=false->Jw (fun k=>f ((Bz s x L).getLsbD k) ((Bz s y L).getLsbD k)) (G0 s L)=false:=fun f _ hh h0=>by
  cases e:Jw (fun k=>f ((Bz s x L).getLsbD k) ((Bz s y L).getLsbD k)) (G0 s L)with
  |false=>rfl
  |true=>obtain⟨b,h1,h2⟩:=anyN_iff.1 e;obtain⟨q,g1,g2⟩:=hh b h1 h2;rw[anyN_iff.2 ⟨q,g1,g2⟩]at h0;cases h0
 have src:∀(z:BitVec 64) b,b<G0 s L->(Bz s z L).getLsbD b=true->∃q,q<L/\s.getLsbD q=true/\G0 s q=b/\z.getLsbD q=true:=fun z b hb hz=>(Z0 s z L h b (by omega)).1 hz;unfold SV at hf⊢;simp only[Bool.or_eq_true,Bool.not_eq_true']at hf⊢;rcases hf with (hf|hf)|hf
 ·refine .inl (.inl (up (fun a b=>a&&b) (fun _ _=>false) (fun b hb hz=>?_) hf));simp only[Bool.and_eq_true]at hz;obtain⟨q,g1,g2,g3,g4⟩:=src x b hb hz.1
  have:=GN y h g1 g2
  rw[g3,hz.2]at this;exact⟨q,g1,by simp[g4,<- this]⟩
 ·refine .inl (.inr (up (fun a b=>a && !b) (fun _ _=>false) (fun b hb hz=>?_) hf));simp only[Bool.and_eq_true,Bool.not_eq_true']at hz;obtain⟨q,g1,g2,g3,g4⟩:=src x b hb hz.1
  have:=GN y h g1 g2
  rw[g3,hz.2]at this;exact⟨q,g1,by simp[g4,<- this]⟩
 ·refine .inr (up (fun a b=>(!a)&&b) (fun _ _=>false) (fun b hb hz=>?_) hf);simp only[Bool.and_eq_true,Bool.not_eq_true']at hz;obtain⟨q,g1,g2,g3,g4⟩:=src y b hb hz.2
  have:=GN x h g1 g2
  rw[g3,hz.1]at this;exact⟨q,g1,by simp[g4,<- this]⟩
theorem Ae5 {t u:A1}{L:Nat}{s:BitVec 64}(h:okT t)(ho:okC t L)(h1:u.Langs=(G0 s L:Int))(h2:u.Has.toList=Jx t s L) :okT u/\okC u (G0 s L)/\u.Has.n=t.Has.n/\∀i,i<t.Has.n->bT u i=Bz s (bT t i) L:=by
 obtain⟨hL,hL2,hn,hs⟩:=ho;have hlen:u.Has.n=t.Has.n:=by rw[<- By u.Has,h2];simp[Jx]
 have hg:∀i,i<t.Has.n->u.Has.g i=U (Bz s (bT t i) L):=fun i hi=>by
  have:=congrArg (fun l=>l[i]?) h2
  simpa[Sl.toList,Jx,hlen,hi]using this
 have hb:∀i,i<t.Has.n->bT u i=Bz s (bT t i) L:=fun i hi=>by unfold bT;rw[hg i hi];show BitVec.ofNat 64 ((Bz s (bT t i) L).toNat:Int).toNat=_;rw[Int.toNat_natCast];simp[bT]
 have hcl:=X6 s L;refine⟨⟨by have:=h.1;omega,fun i hi=>⟨_,hg i (by omega)⟩⟩,⟨h1,by omega,by omega,fun i hi=>?_⟩,hlen,hb⟩;rw[hb i (by omega)];exact Td s _ (by omega)
theorem XG {N L:Nat}{t:A1}{s:BitVec 64}(hN:1000<=N)(h:okT t)(ho:okC t L)(hs:∃k,L<=k/\k<64/\s.getLsbD k=true):E5 N t (U s)=some (⟨0,Sl.nil⟩,2):=by
 have hc:=CG hN h ho;obtain⟨hL,hL2,hn,hsub⟩:=ho;obtain⟨k,hk1,hk2,hk3⟩:=hs;unfold E5;rw[hc,Option.bind_some,if_neg (show ¬((0:Int) != 0)=true by decide),CE hL hL2,Option.bind_some,DX];refine if_pos ?_;rw[bne_iff_ne,Ne,Je,Cn];intro g
 have:=g k hk2
 rw[BitVec.getLsbD_and,BitVec.getLsbD_not,W4 hk2,hk3]at this;simp[hk2]at this;omega
theorem Wg {t:A1}{L:Nat}(h:okT t)(ho:okC t L):Jx t (HR L) L=t.Has.toList:=by obtain⟨hL,hL2,hn,hs⟩:=ho;unfold Jx Sl.toList;refine List.map_congr_left fun i hi=>?_;rw[List.mem_range]at hi;rw[XE (by omega) (hs i hi),<- DB h hi]
theorem LB {N:Nat}{l:Sl Int}{c:Nat}(hN:20000<=N)(hw:I3 N=some true)(hc:c<256)(hl:Ae4 l)(s0 o0:BitVec 64):S1 N (c:Int) l (U s0) (U o0)=some true:=by
 obtain⟨t,h1,h,ho⟩:=Ta (N:=N) (by omega) hc hl;have hL32:c % 33<=32:=by omega
 generalize c % 33=L at ho hL32;have ho':=ho;obtain⟨hL,hL2,hn,hs⟩:=ho';have hN' : 1000<=N:=by omega
 have hck:=CG hN' h ho
 have:∃r,S1 N (c:Int) l (U s0) (U o0)=some r/\r=true:=by
  unfold S1;refine X5 h1 ?_;rw[hL,Wc hL2,Mc,Mc];have hss:=OK s0 (L:=L) (by omega);have hoo:=OK o0 (L:=L) (by omega);generalize s0 &&& HR L=s at hss;generalize o0 &&& HR L=o at hoo;obtain⟨w,a1,a2,a3,a4⟩:=FA hN' h hck ho (XD (L:=L) (by omega));obtain⟨p,b1,b2,b3,b4⟩:=FA hN' h hck ho hss;obtain⟨p1,p2,p3,p4⟩:=Ae5 h ho b3 b4;rw[Wf (by omega)]at a3;rw[Wg h ho]at a4;have hwn:w.1.Has.n=t.Has.n:=by rw[<- By w.1.Has,a4,By]
  have hE:=GL (N:=N) (a:=w.1.Has) (b:=t.Has) (by omega) (by omega) a4;have hcs:=X6 s L;refine ifT (by omega) (X5 a1 (X5 b1 (ifF (by rw[a2];decide) (ifF (by rw[b2];decide) (ifF (by rw[a3];simp) (X5 hE (ifF (by decide) (X5 (SZ s) (ifF (by rw[b3,Tc hss (by omega)];simp) (ifF (by rw[p3];simp) (X5 (CG hN' p1 p2) (ifF (by decide) ?_))))))))))));refine XA (fun k (x2 x3 x4:Int)=>x4=(k:Int)/\x2=(G0 s k:Int)/\x3=U (Bz s o k)) L _ (by omega) ⟨rfl,rfl,rfl⟩ ?_;rintro self k x2 x3 x4 hk ⟨rfl,rfl,rfl⟩ hstep;have hck':=X6 s k;by_cases hkL:k<L
  ·refine ifT (by simp;omega) (ifT (by omega) ?_);rw[Lu s k];by_cases hb:s.getLsbD k=true
   ·rw[if_pos hb];refine ifF (by decide) ?_;refine Mo (fun i x=>x=(i:Int)) t.Has.n _ (by omega) rfl ?_;rintro self4 i x6 hi rfl hs4;by_cases hlt:i<t.Has.n
    ·refine ifT (by simp;omega) (ifT (by rw[p3];omega) ?_);rw[Int.toNat_natCast,DB h hlt,DB p1 (show i<p.1.Has.n by omega),Lu,Lu,p4 i hlt,GN _ (by omega) hkL hb];exact ifF (by simp) (hs4 hlt _ (Q8 (by omega)))
    ·refine ifF (by simp;omega) (ifT (by omega) (hstep hkL _ _ _ ⟨Q8 (by omega),?_,?_⟩))
     ·rw[Q8 (by omega)];simp only[G0,hb,if_true]
     ·rw[Lu o k];by_cases hob:o.getLsbD k=true
      ·rw[if_pos hob,Ub _ (by omega),ZH];simp only[Bz,hb,hob,Bool.and_self,if_true]
      ·rw[if_neg hob,SY,show (0:Int)=U 0#64 from rfl,ZH];simp[Bz,hob]
   ·rw[if_neg hb];refine ifT (by decide) (hstep hkL _ _ _ ⟨Q8 (by omega),?_,?_⟩)
    ·simp[G0,hb]
    ·simp[Bz,hb]
  ·obtain rfl:k=L:=by omega
   refine ifF (by simp) ?_;refine Mo (fun i x=>x=(i:Int)) t.Has.n _ (by omega) rfl ?_;rintro self7 i x8 hi rfl hs7;by_cases hlt:i<t.Has.n
   ·refine ifT (by simp;omega) ?_;refine Mo (fun j x=>x=(j:Int)) i _ (by omega) rfl ?_;rintro self8 j x10 hj rfl hs8;by_cases hlt2:j<i
    ·have k1:E8 N t (i:Int) (j:Int)=some (SV k (bT t i) (bT t j),0):=by rw[Iy hN' h ho,if_pos (by omega),Int.toNat_natCast,Int.toNat_natCast]
     have k2:E8 N p.1 (i:Int) (j:Int)=some (SV (G0 s k) (Bz s (bT t i) k) (Bz s (bT t j) k),0):=by rw[Iy hN' p1 p2,if_pos (by rw[p3];omega),Int.toNat_natCast,Int.toNat_natCast,p4 i hlt,p4 j (by omega)]
     refine ifT (by simp;omega) (X5 k1 (X5 k2 ?_));refine ifF ?_ (hs8 hlt2 _ (Q8 (by omega)));cases hf:SV k (bT t i) (bT t j)with
     |false=>simp
     |true=>rw[XF (by omega) hf];simp
    ·obtain rfl:j=i:=by omega
     exact ifF (by simp) (hs7 hlt _ (Q8 (by omega)))
   ·obtain rfl:i=t.Has.n:=by omega
    refine ifF (by simp) ?_;rw[Mc];have hsub1:JE (G0 s k) (Bz s o k):=Td s o (by omega);have hsub2:JE k (s &&& o):=fun b h1 h2=>by rw[BitVec.getLsbD_and,hss b h1 h2,Bool.false_and]
    obtain⟨q,c1,c2,c3,c4⟩:=FA hN' p1 (CG hN' p1 p2) p2 hsub1;obtain⟨z,d1,d2,d3,d4⟩:=FA hN' h hck ho hsub2;rw[ON s o (by omega)]at c3;have hqz:q.1.Has.toList=z.1.Has.toList:=by rw[c4,d4];unfold Jx;rw[p3];refine List.map_congr_left fun i hi=>?_;rw[p4 i (List.mem_range.1 hi),Ut _ _ _ (by omega)]
    have hqn:q.1.Has.n=t.Has.n:=by rw[<- By q.1.Has,c4];simp[Jx,p3]
    have hE2:=GL (N:=N) (a:=q.1.Has) (b:=z.1.Has) (by omega) (by omega) hqz;refine X5 c1 (X5 d1 (ltX (ifF (by rw[c2];decide) (ifF (by rw[d2];decide) (ifF (by rw[c3,d3];simp) (X5 hE2 (ifF (by decide) (ifT (by simp;omega) (ifT (by omega) ?_)))))))));rw[Ub _ (by omega),ZH];refine X5 (XG hN' h ho ⟨k,Nat.le_refl _,by omega,by rw[BitVec.getLsbD_or,VO (by omega) (by omega)];simp⟩) (ifF (by decide) (X5 hw ⟨_,rfl,rfl⟩))
 obtain⟨r,g1,g2⟩:=this;rw[g2]at g1;exact g1
end Go.AM
namespace Go.AM
open Go.Proofs
end Go.AM
namespace Go.AM
open Go.Proofs
abbrev sOf (x y:BitVec 32):A2:=⟨(x.toNat:Int),(y.toNat:Int)⟩
def vB (p m:BitVec 32):Bool:=decide (∀i:Fin 32,¬(p.getLsbD i=true/\m.getLsbD i=true)/\(24<=i.1->p.getLsbD i=false/\m.getLsbD i=false))
end Go.AM
namespace Go.AM
open Go.Proofs
def vS (s:A2):Prop:=∃p m:BitVec 32,s=sOf p m/\vB p m=true
def nodeP (p:Pat):Prop:=
 (0<=p.Kind/\p.Kind<=6)/\(p.Kind≠1->(p.Is.Plus=0/\p.Is.Minus=0)/\p.Not=false)/\(p.Kind≠3->p.Kind≠4->p.Kind≠5->p.L.n=0)/\(p.Kind≠5->p.Min=0/\p.Max=0) /\
 (p.Kind=5->p.L.n=1/\0<=p.Min/\p.Min<=32/\(p.Max = -1 \/ (p.Min<=p.Max/\p.Max<=32)))/\vS p.Is
def chk:Nat->List Pat->Prop
 |0,l=>l=[]
 |_+1,[]=>True
 |k+1,p::l=>nodeP p/\chk k (p.L.toList++l)
end Go.AM
namespace Go.AM
open Go.Proofs
end Go.AM
namespace Go.AM
open Go.Proofs
end Go.AM
namespace Go.AM
open Go.Proofs
end Go.AM
namespace Go.AM
open Go.Proofs
end Go.AM
namespace Go.AM
open Go.Proofs
end Go.AM
namespace Go.AM
open Go.Proofs
end Go.AM
namespace Go.AM
open Go.Proofs
end Go.AM
namespace Go.AM
open Go.Proofs
end Go.AM
namespace Go.AM
open Go.Proofs
end Go.AM
namespace Go.AM
open Go.Proofs
end Go.AM
namespace Go.AM
open Go.Proofs
end Go.AM
namespace Go.AM
open Go.Proofs
abbrev nameT (y:Int):Bool:=((((decide (97<=y))&&(decide (y<=122)))||((decide (65<=y))&&(decide (y<=90))))||((decide (48<=y))&&(decide (y<=57))))||(y==45)
end Go.AM
namespace Go.AM
open Go.Proofs
def Ae6 (N:Nat)(l:Law):Prop:=Uf N l.Name=some true/\chk 40 [l.Left]/\chk 40 [l.Right]/\l.If.n<=4/\l.Out.n<=6/\l.If.n+l.Out.n≠0/\1<=l.Mode/\l.Mode<=3/\(∀i,i<l.If.n->vS (l.If.g i))/\∀i,i<l.Out.n->FH N (l.Out.g i) l.If.n=some true
end Go.AM
namespace Go.AM
open Go.Proofs
end Go.AM
namespace Go.AM
open Go.Proofs
theorem nf:(!false)=true:=rfl
end Go.AM
namespace Go.AM
open Go.Proofs
end Go.AM
namespace Go.AM
open Go.Proofs
end Go.AM
namespace Go.AM
open Go.Proofs
end Go.AM
namespace Go.AM
open Go.Proofs
end Go.AM
namespace Go.AM
open Go.Proofs
def nameB (s:Str):Bool:=(decide (1<=s.length)&&decide (s.length<=24))&&s.all fun c=>nameT ((c.toNat:Nat):Int)
def nodeK (t:Sl T4)(v:Nat):Prop:=(v=0->(t.g 0).Parent = -1)/\(0<v->0<=(t.g v).Parent/\(t.g v).Parent<v)/\nameB (t.g v).Name=true/\∀u,u<v->(t.g u).Name≠(t.g v).Name
def Ae7 (t:Sl T4):Prop:=1<=t.n/\t.n<=63/\∀v,v<t.n->nodeK t v
end Go.AM
namespace Go.AM
open Go.Proofs
def Ae8 (h:H8)(v:Nat):Sl Int:=
 if hp:0<=(h.Tree.g v).Parent/\(h.Tree.g v).Parent<v then (Ae8 h (h.Tree.g v).Parent.toNat).app (h.On.g v)else (Sl.nil:Sl Int).app (h.On.g v)
termination_by v
decreasing_by omega
def longL (h:H8):Prop:=∃v,v<h.On.n/\64<(Ae8 h v).n
def badL (h:H8)(v:Nat):Prop:=∃k,k<(h.On.g v).n/\((h.On.g v).g k<0 \/ (h.Laws.n:Int)<=(h.On.g v).g k)
end Go.AM
namespace Go.AM
open Go.Proofs
def dupB (h:H8)(i:Nat):Prop:=∃u v,u<v/\v<i/\(h.Laws.g u).Name=(h.Laws.g v).Name
open Classical in
noncomputable def hres (N:Nat) (h:H8):Int:=
 if ¬Ae7 h.Tree then 16 else if 64<h.Laws.n then 12 else if ∃i,i<h.Laws.n/\¬Ae6 N (h.Laws.g i)then 17 else if dupB h h.Laws.n then 6 else if h.On.n≠h.Tree.n then 2
 else if longL h then 2 else if ∃v,v<h.On.n/\badL h v then 3 else 0
end Go.AM
namespace Go.AM
open Go.Proofs
end Go.AM
namespace Go.AM
open Go.Proofs
end Go.AM
namespace Go.AM
open Go.Proofs
end Go.AM
namespace Go.AM
open Go.Proofs
end Go.AM
namespace Go.AM
open Go.Proofs
end Go.AM
namespace Go.AM
open Go.Proofs
end Go.AM
namespace Go.AM
open Go.Proofs
end Go.AM
