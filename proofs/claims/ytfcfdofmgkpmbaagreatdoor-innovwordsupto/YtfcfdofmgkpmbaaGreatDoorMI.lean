/- What a law's walk and its plain proof need, part 9: no condition of its own. -/
import Derived.Test.YtfcfdofmgkpmbaaGreatDoorMH
import Derived.Test.YtfcfdofmgkpmbaaGreatDoorMG
set_option linter.unusedSimpArgs false
set_option linter.unusedVariables false
set_option linter.unusedSectionVars false
namespace Go.AM
open Go.Proofs
theorem UK {N:Nat}(q:3000000<=N){h:B0}(s:BR h)(d:Gf N h){ls:Sl Int}(a:ls=T1 h.Tree h.Tree.n)(u:ls.n<=32)(f:T4 N h.Tree=some (ls,0)){w:Sl Sound}(hw:wOk w) :∃o,AT N h w=some o/\o.1.n=ls.n/\o.2.n=ls.n/\∀k,k<ls.n->SE (drv N h w k).1 (o.1.g k)/\o.2.g k=(drv N h w k).2:=by
 unfold AT;refine B7 f ?_;refine Un (fun k (x1:Sl (Sl Sound)) (x2:Sl Int) x3=>x3=(k:Int)/\x1.n=k/\x2.n=k/\∀j,j<k->SE (drv N h w j).1 (x1.g j)/\x2.g j=(drv N h w j).2) ls.n _ (by omega) ⟨rfl,rfl,rfl,fun j i=>absurd i (by omega)⟩ ?_;rintro l k x1 x2 x3 hk ⟨rfl,h1,t,m⟩ hs;by_cases c:k<ls.n
 ·obtain⟨_,b⟩:=Qt q s d (k:=k) (by rw[<- a];exact c);obtain⟨_,_,r,b3,b4,b5⟩:=b w hw;rw[<- a]at b3;refine ifT (by simp;omega) (ifT (by show ((0:Int)<=(k:Int)/\(k:Int)<(ls.n:Int))/\(k:Int).toNat<ls.n;omega) ?_);rw[AZ1];refine B7 b3 (ifT (by show ((x1.n+1)*24<=_/\x1.n+1<=_)/\((x2.n+1)*8<=_/\x2.n+1<=_);omega) (hs c _ _ _ ⟨C4 (by omega),by show x1.n+1=_;omega,by show x2.n+1=_;omega,fun j i=>?_⟩));show SE _ (if j<x1.n then x1.g j else r.1)/\(if j<x2.n then x2.g j else r.2)=_;by_cases e:j<k
  ·rw[if_pos (by omega),if_pos (by omega)];exact m j e
  ·obtain rfl:j=k:=by omega
   rw[if_neg (by omega),if_neg (by omega)];exact⟨b4,b5⟩
 ·obtain rfl:k=ls.n:=by omega
  exact ifF (by simp) ⟨_,rfl,h1,t,m⟩
theorem Aq3 {N:Nat}(hN:3000000<=N){h:B0}(hi:BR h)(t:Gf N h){ls:Sl Int}(a0:ls=T1 h.Tree h.Tree.n)(hK:ls.n<=32)(hlv:T4 N h.Tree=some (ls,0))
 {l:Sl (Sl Sound)}(hn:l.n<=256) (hw:∀i,i<l.n->wOk (l.g i)) (hwd:Cm N l=some 0) :
 ∃r:N4×Int,N3 N h l=some r/\Aq1 ls.n (UJ (JK N h l ls.n) l.n) r.1.Langs r.1.Has.toList r.2:=by
 unfold N3;refine B7 (DY hN hi) ?_;rw[hres_zero.2 t];refine ltX (ifT (by decide) (B7 hwd (ifF (by decide) (B7 hlv (ifF (by simp;omega) ?_)))));refine P9 (fun i (x7:Sl Int) x8=>x8=(i:Int)/\UJ (JK N h l ls.n) i=some x7.toList) l.n _ (by omega) ⟨rfl,rfl⟩ ?_;rintro self9 m x7 x8 hm ⟨rfl,u⟩ hs9;by_cases s:m<l.n
 ·obtain⟨o,o1,o2,o3,o4⟩:=UK hN hi t a0 hK hlv (hw m s);refine ifT (by simp;omega) (ifT (by omega) ?_);rw[AZ1];refine B7 o1 ?_;have hS:JK N h l ls.n m=OZ (AB2 N h (l.g m)) ls.n ls.n:=rfl;have hE:∀j q,j<ls.n->q<ls.n->((o.2.g j=o.2.g q/\SE (o.1.g j) (o.1.g q))↔AB2 N h (l.g m) j=AB2 N h (l.g m) q):=fun j q hj hq=>by obtain⟨_,b⟩:=Qt hN hi t (k:=j) (by rw[<- a0];exact hj);obtain⟨_,b2,_⟩:=b _ (hw m s);obtain⟨_,c⟩:=Qt hN hi t (k:=q) (by rw[<- a0];exact hq);obtain⟨_,c2,_⟩:=c _ (hw m s);unfold AB2;rw[AB0 b2 c2,(o4 j hj).2,(o4 q hq).2];exact and_congr_right fun _=>⟨fun g=>((o4 j hj).1.trans g).trans (o4 q hq).1.symm,fun g=>((o4 j hj).1.symm.trans g).trans (o4 q hq).1⟩
  have hsz:∀k,k<ls.n->(o.1.g k).n<=32:=fun k hk=>by
   obtain⟨_,b⟩:=Qt hN hi t (k:=k) (by rw[<- a0];exact hk);obtain⟨_,b2,_⟩:=b _ (hw m s);rw[<- (o4 k hk).1.1];rcases b2 with⟨_,g⟩ | ⟨g,_⟩
   ·exact g.1
   ·rw[g];exact Bh1 _
  generalize AB2 N h (l.g m)=x at hS hE;refine P9 (fun q (a:Sl Int) x30=>x30=(q:Int)/\a.toList=OZ x q ls.n) ls.n _ (by omega) ⟨rfl,rfl⟩ ?_;rintro self12 q a x30 hq ⟨rfl,hx⟩ a2;have hxn:a.n<=q:=by rw[<- DW a,hx];exact Aq2 _ _ _
  by_cases v:q<ls.n
  ·refine ifT (by simp;omega) ?_;refine Un (fun j (x34:Int) (w:Bool) x36=>x36=(j:Int)/\x34=U (Ap4 (Fj x q) j)/\(w=true ↔ ∀j',j' < j->x j' = x q->q<=j')) ls.n _ (by omega) ⟨rfl,rfl,fun _ j' hj'=>absurd hj' (by omega),fun _=>rfl⟩ ?_;rintro a1 j x34 w x36 hj ⟨rfl,rfl,hf⟩ a3;by_cases f:j<ls.n
   ·refine ifT (by simp;omega) (ifT (by rw[o3];omega) ?_);rw[AZ1,AZ1];have no:x j≠x q->∃r,a1 (U (Ap4 (Fj x q) j)) w (IntKind.wrap .i64 ((j:Int)+1))=some r/\Aq1 ls.n (UJ (JK N h l ls.n) l.n) r.1.Langs r.1.Has.toList r.2:=fun hne=>by
     refine a3 f _ _ _ ⟨C4 (by omega),?_,hf.trans ⟨fun g j' h1 h2=>?_,fun g j' h1=>g j' (by omega)⟩⟩
     ·show _=U (Ko _ j (Fj x q j));unfold Ko Fj;rw[if_neg (by simpa using hne)]
     ·by_cases e:j' = j
      ·subst e;exact absurd h2 hne
      ·exact g j' (by omega) h2
    by_cases e1:o.2.g j=o.2.g q
    ·refine ifT (by simpa using e1) (ifT (by rw[o2];omega) ?_);obtain⟨b,b1,b2⟩:=AO7 (N:=N) (x:=o.1.g j) (y:=o.1.g q) (by have:=hsz j f;omega) (by have:=hsz j f;omega);refine B7 b1 ?_;by_cases hb:b=true
     ·have hkey:=(hE j q f v).1 ⟨e1,b2.1 hb⟩;refine ifT hb (ifT (by omega) (a3 f _ _ _ ⟨C4 (by omega),?_,?_⟩))
      ·rw[Nl _ (by omega),AL9];show _=U (Ko _ j (Fj x q j));unfold Ko Fj;rw[if_pos (by simpa using hkey)]
      ·rw[AZ6,hf,decide_eq_true_eq];constructor
       ·rintro⟨g1,g2⟩ j' h1 h2;by_cases e:j' = j
        ·subst e;omega
        ·exact g1 j' (by omega) h2
       ·exact fun g=>⟨fun j' h1=>g j' (by omega),by have:=g j (by omega) hkey;omega⟩
     ·exact ifF hb (no fun g=>hb (b2.2 ((hE j q f v).2 g).2))
    ·exact ifF (by simpa using e1) (no fun g=>e1 ((hE j q f v).2 g).1)
   ·obtain rfl:j=ls.n:=by omega
    have hfk:w=true↔V2 x q=true:=by rw[hf,firstK_iff];exact⟨fun g j' h1 h2=>by have:=g j' (by omega) h2;omega,fun g j' _ h2=>Bl9 fun h3=>g j' h3 h2⟩
    have z:OZ x (q+1) ls.n=OZ x q ls.n++if V2 x q then [U (Ap4 (Fj x q) ls.n)]else []:=by unfold OZ;rw[Bd9,Bn5,Bg0];by_cases e:V2 x q=true<;>simp[e]
    refine ifF (by simp) ?_;by_cases hb:w=true
    ·refine ifT hb (ifT (by show (a.n+1)*8<=_/\a.n+1<=_;omega) (a2 v _ _ ⟨C4 (by omega),?_⟩));rw[WM,hx,z,if_pos (hfk.1 hb)]
    ·refine ifF hb (a2 v _ _ ⟨C4 (by omega),?_⟩);rw[hx,z,if_neg fun g=>hb (hfk.2 g),Bg3]
  ·obtain rfl:q=ls.n:=by omega
   have hT:a.toList=JK N h l ls.n m:=by rw[hS,hx]
   have hlen:(JK N h l ls.n m).length=a.n:=by rw[<- hT,DW]
   have h7:x7.n<=64:=by rw[<- DW x7];exact Sg u
   have d:UJ (JK N h l ls.n) (m+1)=if 64<(if 1<a.n then x7.toList++a.toList else x7.toList).length then none else some (if 1<a.n then x7.toList++a.toList else x7.toList):=by show (UJ _ m).bind _=_;rw[u,AZ4,hlen,hT]
   refine ifF (by simp) ?_;by_cases h1:1<a.n
   ·simp only[if_pos h1]at d;have hl2:(x7.toList++a.toList).length=x7.n+a.n:=by rw[Ba7,DW,DW]
    refine ifT (by simp;omega) (ifT (by omega) ?_);by_cases h64:64<x7.n+a.n
    ·rw[if_pos (by rw[hl2];exact h64)]at d;refine ifT (by show decide ((64:Int)<((x7.n+a.n:Nat):Int))=true;simp;omega) ⟨_,rfl,?_⟩;rw[NV (show m+1<=l.n by omega) d];exact⟨rfl,rfl,rfl⟩
    ·rw[if_neg (by rw[hl2];exact h64)]at d;refine ifF (by show ¬decide ((64:Int)<((x7.n+a.n:Nat):Int))=true;simp;omega) (hs9 s _ _ ⟨C4 (by omega),?_⟩);rw[d,AF8]
   ·simp only[if_neg h1]at d;rw[if_neg (by rw[DW];omega)]at d;refine ifF (by simp;omega) (ifF (by simp;omega) (hs9 s _ _ ⟨C4 (by omega),d⟩))
 ·obtain rfl:m=l.n:=by omega
  refine ifF (by simp) ⟨_,rfl,?_⟩;rw[u];exact⟨rfl,rfl,rfl⟩
theorem AB4 {N:Nat}(f:3000000<=N){h:B0}(o:BR h){l:Sl (Sl Sound)}(hn:l.n<=300)(hw:∀i,i<l.n->okA (l.g i)) :∃(r:A3×Int) (u:N4×Int),H0 N h l=some r/\N3 N h l=some u/\r.1.Langs=u.1.Langs/\r.1.Has.toList=u.1.Has.toList/\r.2=u.2/\r.1.Has.n<=100:=by
 have done:∀e,H0 N h l=some ((⟨0,Sl.nil⟩:A3),e)->N3 N h l=some ((⟨0,Sl.nil⟩:N4),e)->∃(r:A3×Int) (u:N4×Int),H0 N h l=some r/\N3 N h l=some u/\r.1.Langs=u.1.Langs/\r.1.Has.toList=u.1.Has.toList/\r.2=u.2/\r.1.Has.n<=100:=
  fun e g1 g2=>⟨_,_,g1,g2,rfl,rfl,rfl,by show 0<=100;omega⟩
 by_cases q:hres N h=0
 case neg=>
  have t:(hres N h != 0)=true:=by simpa using q
  refine done (hres N h) ?_ ?_
  ·unfold H0;rw[Cn f o,AZ4,if_pos t]
  ·unfold N3;rw[DY f o,AZ4];simp only[lt];rw[if_neg (by simpa using q),if_pos t]
 have x:=hres_zero.1 q;obtain⟨e,e1,z⟩:=Ac5 f hw;have derr:e≠0->N3 N h l=some ((⟨0,Sl.nil⟩:N4),e):=fun t=>by unfold N3;rw[DY f o,AZ4,q];simp only[lt];rw[if_pos (by decide),e1,AZ4,if_pos (by simpa using t)]
 rcases z with⟨m,rfl⟩ | ⟨m,z⟩
 ·refine done 12 ?_ (derr (by decide));unfold H0;rw[Cn f o,AZ4,q,if_neg (by decide),if_pos (by simp;omega)]
 by_cases hz:e=0
 case neg=>
  refine done e (eqR ?_) (derr hz);unfold H0;refine B7 (Cn f o) (ifF (by rw[q];decide) (ifF (by simp;omega) ?_));rcases z with⟨g,_⟩ | ⟨i0,hi0,hw0,he0,_⟩
  ·exact absurd g hz
  refine Bk (fun i x1=>x1=(i:Int)/\i<=i0) l.n _ (by omega) ⟨rfl,by omega⟩ ?_;rintro a0 i x1 hii ⟨rfl,hle⟩ hs;have d:i<l.n:=by omega
  obtain⟨e',e1',a3⟩:=Hb (N:=N) (by omega) (hw i d);refine ifT (by simp;omega) (ifT (by omega) (B7 (by rw[AZ1];exact e1') ?_));by_cases a4:i=i0
  ·subst a4;obtain rfl:=NM a3 he0;exact ifT (by simpa using hz) ⟨_,rfl,rfl⟩
  ·have:=(U9 a3).2 (hw0 i (by omega))
   exact ifF (by simp[this]) (hs d _ ⟨C4 (by omega),by omega⟩)
 subst hz;have v:∀i,i<l.n->wOk (l.g i):=by
  rcases z with⟨_,g⟩ | ⟨_,_,_,_,g⟩
  ·exact g
  ·exact absurd rfl g
 obtain⟨s,e',a,b,c⟩:=Ac3 f o.tree;rcases c with⟨_,rfl,hs⟩ | ⟨g,_⟩
 case inr=>exact absurd x.tree g
 by_cases h32:32<s.n
 ·have y:J7 N h=some ((Sl.nil:Sl Int),12):=by unfold J7;rw[a,AZ4,if_neg (by show ¬((0:Int) != 0)=true;decide),if_pos (by simp;omega)]
  refine done 12 (eqR ?_) ?_
  ·unfold H0;refine B7 (Cn f o) (ifF (by rw[q];decide) (ifF (by simp;omega) ?_));refine Bk (fun i x1=>x1=(i:Int)) l.n _ (by omega) rfl ?_;rintro a0 i x1 hii rfl hs;by_cases d:i<l.n
   ·obtain⟨e,e1,z⟩:=Hb (N:=N) (w:=l.g i) (by omega) fun j hj=>((v i d).2 j hj).ok;have q:=(U9 z).2 (v i d);exact ifT (by simp;omega) (ifT (by omega) (B7 (by rw[AZ1];exact e1) (ifF (by simp[q]) (hs d _ (C4 (by omega))))))
   ·exact ifF (by simp;omega) (B7 y (ifT (by show ((12:Int) != 0)=true;decide) ⟨_,rfl,rfl⟩))
  ·unfold N3;rw[DY f o,AZ4,q];simp only[lt];rw[if_pos (by decide),e1,AZ4,if_neg (by decide),b,AZ4,if_pos (by simp;omega)]
 ·have y:J7 N h=some (s,0):=by unfold J7;rw[a,AZ4,if_neg (by show ¬((0:Int) != 0)=true;decide),if_neg (by simp;omega)]
  obtain⟨r,a1,a2⟩:=Ac6 f o x hs (by omega) y m v;obtain⟨u,b1,b2⟩:=Aq3 f o x hs (by omega) b m v e1;refine⟨r,u,a1,b1,?_⟩;cases hA:UJ (JK N h l s.n) l.n with
  |none=>rw[hA]at a2 b2;obtain⟨p1,p2,p3⟩:=a2;obtain⟨q1,q2,q3⟩:=b2;exact⟨by rw[p1,q1],by rw[p2,q2],by rw[p3,q3],by rw[<- DW r.1.Has,p2];exact Bh1 _⟩
  |some A=>rw[hA]at a2 b2;obtain⟨p1,p2,p3⟩:=a2;obtain⟨q1,q2,q3⟩:=b2;exact⟨by rw[p1,q1],by rw[p2,q2],by rw[p3,q3],by rw[<- DW r.1.Has,p2];have:=Sg hA;omega⟩
theorem Ob {N:Nat}(c:3000000<=N)(hw:Cl N=some true){h:B0}(d:BR h){l:Sl (Sl Sound)}(hl:∀i,i<l.n->okA (l.g i)):AY N h l=some true:=by
 obtain⟨b,hb,a⟩:=Ap3 c d l;unfold AY;rw[hb,AZ4];cases b
 ·rw[if_pos (show (!false)=true from rfl),hw];rfl
 ·obtain⟨r,u,a1,a2,a3,a4,a5,a6⟩:=AB4 c d (a rfl).1 hl;have hS:=AM3 (N:=N) (u:=r.1) (r:=u.1) a3 a4 (by omega) (by omega);rw[if_neg (show ¬(!true)=true by decide),a1,a2];simp only[AZ4,lt,hS,if_true,a5,beq_self_eq_true,hw]
end Go.AM
namespace Go.AM
open Go.Proofs
end Go.AM
namespace Go.AM
open Go.Proofs
end Go.AM
