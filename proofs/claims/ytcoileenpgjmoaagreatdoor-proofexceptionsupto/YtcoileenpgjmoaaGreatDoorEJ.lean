/- Part 10. -/
import Derived.Test.YtcoileenpgjmoaaGreatDoorEI
import Derived.Test.YtcoileenpgjmoaaGreatDoorEH
set_option linter.defProp false
set_option linter.unusedSimpArgs false
set_option linter.unusedVariables false
set_option linter.unusedSectionVars false
namespace Go.AM
open IntKind (wrap)
open Go.Proofs
def At0 (i:Nat):∀m k,(AF3 i m k).Pairwise (· ≠ ·)
 |0,k=>.nil
 |m+1,k=>.cons (λq a e=>by
  obtain⟨j,e2,b,_⟩:=NT a
  have:=congrArg A2_int.a1 (e.trans e2)
  have:(k:Int)=(j:Int):=this
  omega) (At0 i m (k+1))
def ZQ (w:Nat->Nat):∀m i,(Hr w m i).Pairwise (· ≠ ·)
 |0,i=>.nil
 |m+1,i=>List.pairwise_append.2 ⟨At0 i _ 0,ZQ w m (i+1),λq c r d e=>by
  obtain⟨j,e1,_⟩:=NT c;obtain⟨a,b,e2,ha,_⟩:=PX d
  have:=congrArg A2_int.a0 ((e1.symm.trans e).trans e2)
  have:(i:Int)=(a:Int):=this
  omega⟩
abbrev kq (N:Nat)(X:Sl (Sl Law))(p:Sl G8)(l:Sl Pb)(q:A2_int):Option Int:=kdX N X (p.g q.a0.toNat) (frm l q) q.a1.toNat
def Yv {N:Nat}{X:Sl (Sl Law)}{p:Sl G8}{l:Sl Pb}{c:Int}:∀G:List A2_int,(G.filterMap (exQ N X p l c)).map Jg=G.filter λq=>(kq N X p l q).isSome
 |[]=>rfl
 |q::G=>by
  have ih:=Yv (N:=N) (X:=X) (p:=p) (l:=l) (c:=c) G;have e:exQ N X p l c q=(kq N X p l q).map λt=>⟨q.a0,q.a1,t,c⟩:=rfl;rw[Bt4,Bx5,e];cases kq N X p l q with
  |none=>simpa using ih
  |some t=>simpa using ih
def AL2 {α : Type}{s:Sl α}{i:Nat}(h:i<s.n):s.toList[i]? = some (s.g i):=by simp[Sl.toList,h]
def Be9 (s:Sl A4):nE.app s=s:=by cases s;simp[Sl.app]
def JT {x:An9}(hx:As8 x){pr:Int}(hpr:∃k:Nat,pr=(k:Int)/\k<65536){w:Int}(hw:∃k:Nat,w=(k:Int)/\k<256):U4 4194304 x pr w=some true:=by
 have hN:3000000<=4194304:=by omega
 refine ZD ?_;obtain⟨⟨p,ok⟩,r1,r2⟩:=AG7 hx;unfold U4;refine B8 r1 ?_;by_cases hr:ok=true
 case neg=>exact ifT (by simpa using hr) ⟨true,by rw[Mq];rfl,rfl⟩
 have hp:=r2 hr;refine ifF (by simp[hr]) ?_;clear r1 r2;dsimp only at hp⊢;have hh:=hp.ok.hist;have he:=hp.ok.Nq;have hn:=he.n;have hpn:=he.pn;have h63:=Kw hh.tree;obtain⟨c,rfl,hc⟩:=hpr;rw[Mb];obtain⟨X,x1,x2,x3⟩:=AU4 hN hp.ok hp.wd;obtain⟨b0,s0,c1,c2⟩:=x3 0 (by omega);obtain⟨b,s,d1,d2⟩:=x3 (c:Int) (by omega);have hL:∀k,k<X.n->Db (X.g k)/\Nh 4194304 (X.g k):=λk hk=>by obtain⟨v,hv,e⟩:=IP p.Ns.Tree p.Ns.Tree.n k (by omega);have hk2:=x2 k hk;rw[e]at hk2;exact⟨hk2.laws hh hv,hk2.ok hh hv⟩
 have k1:=Yv (N:=4194304) (X:=X) (p:=p.Nr) (l:=p.Nv) (c:=(c:Int)) (Hr (fwL p.Nv) p.Nv.n 0);have k0:=Yv (N:=4194304) (X:=X) (p:=p.Nr) (l:=p.Nv) (c:=0) (Hr (fwL p.Nv) p.Nv.n 0);rw[<- d2]at k1;rw[<- c2]at k0;have hPL:((Hr (fwL p.Nv) p.Nv.n 0).filter λq=>(kq 4194304 X p.Nr p.Nv q).isSome).Pairwise (· ≠ ·):=(ZQ _ _ _).filter _;have hbn:b.n<=16128:=by
  rw[<- Ai,d2];refine Bl6 (List.length_filterMap_le _ _) ?_
  have:=PY (w:=fwL p.Nv) (m:=p.Nv.n) (i:=0) λa hx=>by show (p.Nv.g a).Nw.n<=_;rw[he.fn a (by omega)];exact h63
  omega
 have hb0:b0.n=b.n:=by
  have:=congrArg List.length (k0.trans k1.symm)
  rwa [Bj9,Bj9,Ai,Ai]at this
 have hke:∀i,i<b.n->Jg (b0.g i)=Jg (b.g i):=λi hi=>by
  have:=congrArg (λL=>L[i]?) (k0.trans k1.symm)
  simp only[Bh2,AL2 hi,AL2 (show i<b0.n by omega),Bh8]at this;exact Bl3 this
 have hin:∀i,i<b.n->∃q,Jg (b.g i)=q/\(kq 4194304 X p.Nr p.Nv q).isSome=true:=λi hi=>by have hm:Jg (b.g i)∈b.toList.map Jg:=Bl0.2 ⟨b.g i,Bl0.2 ⟨i,Bk2.2 hi,rfl⟩,rfl⟩;rw[k1]at hm;exact⟨_,rfl,(Br0.1 hm).2⟩
 have hinj:∀i j,i<j->j<b.n->Jg (b.g i)≠Jg (b.g j):=λi j hij hj e=>by
  rw[<- k1]at hPL
  have:=List.pairwise_iff_getElem.1 hPL i j (by rw[Bj9,Ai];omega) (by rw[Bj9,Ai];omega) hij
  apply this;simpa[Sl.toList]using e
 refine B8 d1 (B8 (IQ hN hh.tree).2 (ifF (show ¬((0:Int) != 0)=true by decide) ?_));dsimp only;have hlv:∀k,k<X.n->∃v:Nat,v<p.Ns.Tree.n/\(Q9 p.Ns.Tree p.Ns.Tree.n).g k=(v:Int)/\lineP p.Ns v (X.g k):=λk hk=>by
  obtain⟨v,hv,e⟩:=IP p.Ns.Tree p.Ns.Tree.n k (by omega)
  have:=x2 k hk
  rw[e]at this;exact⟨v,hv,e,this⟩
 have hF:∀i,i<p.Nv.n->(p.Nv.g i).Nw.n=X.n:=λi hi=>(he.fn i hi).trans x1.symm;rw[show (Q9 p.Ns.Tree p.Ns.Tree.n).n=X.n from x1.symm]at h63⊢;refine Yj (λn (x13:Int) (a0:Sl A4) x15=>x15=(n:Int)/\(∃a:Nat,x13=(a:Int)/\a<=b.n/\b.toList.drop a=(Hr (fwL p.Nv) (p.Nv.n-n) n).filterMap (exQ 4194304 X p.Nr p.Nv (c:Int)))/\a0.n<=63*n/\∀j,j<a0.n->kq 4194304 X p.Nr p.Nv (Jg (a0.g j))=none) p.Nv.n _ (by omega) ⟨rfl,⟨0,rfl,Bn9 _,d2⟩,Bh5 0,λj hj=>Eu hj (Bi3 j)⟩ ?_;rintro self3 n x13 a0 x15 hn' ⟨rfl,⟨a,rfl,ha,hd⟩,h14,h14'⟩ hs3;by_cases hlt:n<p.Nv.n
 case neg=>
  obtain rfl:n=p.Nv.n:=by omega
  rw[BA9]at hd;have hd:b.toList.drop a=[]:=hd;have hab:b.n<=a:=by rw[<- Ai];exact List.drop_eq_nil_iff.1 hd
  obtain rfl:a=b.n:=by omega
  refine Bm (Bm (ltX ?_));obtain⟨q,rfl,hq⟩:=hw;have esJ:∀m,0<m->m<1000000->sJ (q:Int) m=((q % m:Nat):Int):=λm hm _=>by unfold sJ;rw[Mb];rfl
  have T:∃r,(if ((b.n:Int)==0) then
   (AK 4194304).bind λy61=>
   some y61
   else
    if (b.n:Int)≠0 then
     if (((((0:Int)<=(sJ q b.n)/\(sJ q b.n)<=(b.n:Int))/\(Kl 32 (nE.n+(b.drop (sJ q b.n).toNat).n)))/\((0:Int)<=(wrap .i64 ((sJ q b.n)+1))/\(wrap .i64 ((sJ q b.n)+1))<=(b.n:Int)))/\(Kl 32 ((nE.app (b.drop (sJ q b.n).toNat)).n+(b.take (wrap .i64 ((sJ q b.n)+1)).toNat).n)))then
      (J0 4194304 p (⟨(nE.app (b.drop (sJ q b.n).toNat)).app (b.take (wrap .i64 ((sJ q b.n)+1)).toNat),(Sl.nil:Sl GH)⟩:Gs)).bind λy62=>
      if (((((0:Int)<=(sJ q b.n)/\(sJ q b.n)<=(b.n:Int))/\(Kl 32 (nE.n+(b.take (sJ q b.n).toNat).n)))/\((0:Int)<=(wrap .i64 ((sJ q b.n)+1))/\(wrap .i64 ((sJ q b.n)+1))<=(b.n:Int)))/\(Kl 32 ((nE.app (b.take (sJ q b.n).toNat)).n+(b.drop (wrap .i64 ((sJ q b.n)+1)).toNat).n)))then
       (J0 4194304 p (⟨(nE.app (b.take (sJ q b.n).toNat)).app (b.drop (wrap .i64 ((sJ q b.n)+1)).toNat),(Sl.nil:Sl GH)⟩:Gs)).bind λy63=>
       lt (λ(z29:Bool)=>
        some z29
        ) λk29=>
        if (y62.2==0) then
         if (y63.2==0) then
          if y62.1 then
           if (!y63.1) then
            (AK 4194304).bind λy65=>
            k29 y65
           else
            k29 false
          else
           k29 false
         else
          k29 false
        else
         k29 false
      else none
     else none
    else none)=some r/\r=true:=by
   by_cases hz:b.n=0
   .exact ifT (by simp[hz]) ⟨true,by rw[Mq];rfl,rfl⟩
   refine ifF (by simp[hz]) (Af ?_);have hk:=Bq9 q (show 0<b.n by omega);simp only[esJ b.n (by omega) (by omega)];generalize q % b.n=i0 at hk;rw[G1 (i:=i0) (by omega)];simp only[Lp];obtain⟨r,e1,e2⟩:=Qa hN (b:=b0) (c:=⟨(b.drop i0).app (b.take (i0+1)),Sl.nil⟩) (by omega) (by show b.n-i0+(i0+1)<=_;omega) c1;obtain⟨r',f1,f2⟩:=Qa hN (b:=b0) (c:=⟨(b.take i0).app (b.drop (i0+1)),Sl.nil⟩) (by omega) (by show i0+(b.n-(i0+1))<=_;omega) c1;have er:r=true:=e2.2 ⟨λj hj=>by
    have hj:j<b.n-i0+(i0+1):=hj;dsimp only;by_cases e:j<b.n-i0
    .exact⟨i0+j,by omega,by rw[Ek e,hke _ (by omega)]⟩
    .exact⟨j-(b.n-i0),by omega,by rw[Et e,hke _ (by omega)]⟩,λi hi=>by
    by_cases e:i0<=i
    .refine⟨i-i0,by show _<b.n-i0+(i0+1);omega,?_⟩;dsimp only;rw[Cg,hke i (by omega),show i0+(i-i0)=i by omega]
    refine⟨b.n-i0+i,by show _<b.n-i0+(i0+1);omega,?_⟩;dsimp only;rw[Cl,hke i (by omega),show b.n-i0+i-(b.n-i0)=i by omega]⟩
   have er' : r' = false:=by
    cases r'
    .rfl
    obtain⟨j,hj,e⟩:=(f2.1 rfl).2 i0 (by omega);have hj:j<i0+(b.n-(i0+1)):=hj;dsimp only at e;rw[hke _ hk]at e;by_cases e3:j<i0
    .rw[Ek e3]at e;exact Eu e.symm (hinj _ _ e3 hk)
    rw[Et e3]at e;exact Eu e (hinj _ _ (by omega) (by omega))
   subst er er';refine ifT (show ((((0:Int)<=(i0:Int)/\(i0:Int)<=(b.n:Int))/\(Kl 32 (0+(b.n-i0))))/\((0:Int)<=((i0+1:Nat):Int)/\((i0+1:Nat):Int)<=(b.n:Int)))/\(Kl 32 (0+(b.n-i0)+(i0+1))) by omega) (B8 ((congrArg (λz:Sl A4=>J0 4194304 p ⟨z.app (b.take (i0+1)),Sl.nil⟩) (Be9 (b.drop i0))).trans e1) ?_);refine ifT (show ((((0:Int)<=(i0:Int)/\(i0:Int)<=(b.n:Int))/\(Kl 32 (0+i0)))/\((0:Int)<=((i0+1:Nat):Int)/\((i0+1:Nat):Int)<=(b.n:Int)))/\(Kl 32 (0+i0+(b.n-(i0+1)))) by omega) (B8 ((congrArg (λz:Sl A4=>J0 4194304 p ⟨z.app (b.drop (i0+1)),Sl.nil⟩) (Be9 (b.take i0))).trans f1) (ltX ?_));exact ifT rfl (ifT rfl (ifT rfl (ifT rfl ⟨true,by rw[Mq];rfl,rfl⟩)))
  by_cases h0:0<a0.n
  case neg=>exact Bl T
  have hk:=Bq9 q h0;refine Al ?_;simp only[esJ a0.n h0 (by omega)];generalize q % a0.n=i0 at hk;simp only[Lp];obtain⟨r,e1,e2⟩:=Qa hN (b:=b0) (c:=⟨(nE.app b).push (a0.g i0),Sl.nil⟩) (by omega) (by show 0+b.n+1<=_;omega) c1;have er:r=false:=by
   cases r
   .rfl
   obtain⟨i,hi,e⟩:=(e2.1 rfl).1 b.n (by show b.n<0+b.n+1;omega);obtain⟨q,h1,h2⟩:=hin i (by omega);dsimp only at e;rw[hke i (by omega),h1]at e;simp only[Bt6,Bl7,Nat.lt_irrefl,Ex]at e;rw[<- e,h14' i0 hk]at h2;cases h2
  subst er;exact ifT (show (((Kl 32 (0+b.n))/\(a0.n:Int)≠0)/\((0:Int)<=(i0:Int)/\(i0:Int)<(a0.n:Int)))/\i0<a0.n by omega) (ifT (show (0+b.n+1)*32<=140737488355328/\0+b.n+1<=140737488355328 by omega) (B8 e1 (Bq T)))
 have hFn:=hF n hlt;obtain⟨u,hu⟩:∃u,p.Nv.n-n=u+1:=⟨p.Nv.n-n-1,by omega⟩;rw[hu,Hr,show fwL p.Nv n=X.n from hFn]at hd;refine Al ?_;refine Yj (λk (x31:Int) (d:Sl A4) x33=>x33=(k:Int)/\(∃a:Nat,x31=(a:Int)/\a<=b.n/\b.toList.drop a=(AF3 n (X.n-k) k++Hr (fwL p.Nv) u (n+1)).filterMap (exQ 4194304 X p.Nr p.Nv (c:Int)))/\d.n<=63*n+k/\∀j,j<d.n->kq 4194304 X p.Nr p.Nv (Jg (d.g j))=none) X.n _ (by omega) ⟨rfl,⟨a,rfl,ha,hd⟩,h14,h14'⟩ ?_;clear hd ha h14 h14';rintro self4 k x31 d x33 hk ⟨rfl,⟨a,rfl,ha,hd⟩,h32,h32'⟩ hs4;by_cases hlk:k<X.n
 case neg=>rw[show X.n-k=0 by omega,show u=p.Nv.n-(n+1) by omega]at hd;exact Bl (hs3 hlt _ _ _ ⟨Br,⟨a,rfl,ha,hd⟩,by omega,h32'⟩)
 obtain⟨v,hv,ev,hline⟩:=hlv k hlk;obtain⟨z,hz⟩:∃z,X.n-k=z+1:=⟨X.n-k-1,by omega⟩;have hz2:X.n-(k+1)=z:=by omega
 have hex:exQ 4194304 X p.Nr p.Nv (c:Int) ⟨(n:Int),(k:Int)⟩=(kdX 4194304 X (p.Nr.g n) ((p.Nv.g n).Nw.g k) k).map λt=>⟨(n:Int),(k:Int),t,(c:Int)⟩:=rfl;rw[hz,AF3,Bj7,Bt4,hex]at hd;have hkq:kq 4194304 X p.Nr p.Nv ⟨(n:Int),(k:Int)⟩=kdX 4194304 X (p.Nr.g n) ((p.Nv.g n).Nw.g k) k:=rfl;refine Al ?_;simp only[Lp];refine Af (Af (ltX ?_));have AL6:∀y:A4,Jg y=⟨(n:Int),(k:Int)⟩->kdX 4194304 X (p.Nr.g n) ((p.Nv.g n).Nw.g k) k=none->∃r,(if (Kl 32 (d.n+(Sl.of [y]:Sl A4).n))then self4 (a:Int) (d.push y) (wrap .i64 ((k:Int)+1))else none)=some r/\r=true:=λy hy hkd=>by
  rw[hkd]at hd;refine ifT (by show (d.n+1)*32<=_/\d.n+1<=_;omega) (hs4 hlk _ _ _ ⟨Br,⟨a,rfl,ha,by rw[hz2];exact hd⟩,by show d.n+1<=_;omega,λj hj=>?_⟩);show kq 4194304 X p.Nr p.Nv (Jg (if j<d.n then d.g j else y))=none;split
  .exact h32' j (by assumption)
  rw[hy,hkq];exact hkd
 generalize hf:(p.Nv.g n).Nw.g k=f at hd AL6;have K26:∀t:Int,(f.Has=true->kdX 4194304 X (p.Nr.g n) f k=some t)->∃r,(if (!f.Has) then
  if (Kl 32 (d.n+(Sl.of [(⟨(n:Int),(k:Int),t,(c:Int)⟩:A4)]:Sl A4).n))then
   self4 (a:Int) (d.push (⟨(n:Int),(k:Int),t,(c:Int)⟩:A4)) (wrap .i64 ((k:Int)+1))
  else none
  else
   if (decide ((b.n:Int)<=(a:Int))) then
    some false
   else
    if ((0:Int)<=(a:Int)/\(a:Int)<(b.n:Int))then
     if ((((b.g a).Pb==(n:Int))&&(((b.g a).Np==(k:Int))&&(((b.g a).Kind==t)&&((b.g a).Cost==(c:Int))))) != true) then
      some false
     else
      self4 (wrap .i64 ((a:Int)+1)) d (wrap .i64 ((k:Int)+1))
    else none)=some r/\r=true:=λt ht=>by
  by_cases o:f.Has=true
  .rw[ht o]at hd;have ha2:a<b.n:=by
    have:=congrArg List.length hd
    rw[Bi5,Ai]at this;simp at this;omega
   rw[Ar1 ha2]at hd;obtain⟨e1,e2⟩:=Bx1 hd;refine ifF (by simp[o]) (Bl (Af (ifF (by rw[e1];simp) (hs4 hlk _ _ _ ⟨Br,⟨a+1,Br,by omega,by rw[hz2];exact e2⟩,by omega,h32'⟩))))
  exact ifT (by simpa using o) (AL6 _ rfl (by unfold kdX;rw[Et o]))
 by_cases hph:(p.Nr.g n).Has=true
 case neg=>exact ifF hph (K26 2 λo=>by unfold kdX;rw[Ek o,Et (by simp[hph])])
 have hwp:=(he.pf n (by omega)).1;obtain⟨⟨A,e⟩,L,a1,a2,a3⟩:=Be2 hN hh hwp hv;obtain⟨D,_,d3,d4,d5⟩:=Ar8 hN (hL k hlk).1 hwp;have d5:=d5 (hL k hlk).2;obtain⟨L',l1,l2⟩:=hline;rw[l2,Hq,l1.det a2]at d5;refine ifT hph (Af ?_);rw[ev];refine B8 a1 (ltX ?_);dsimp only at a3⊢;rcases a3 with⟨rfl,hA,hfa⟩ | ⟨he0,hfa⟩
 .have hD:D.2=0/\D.1=A:=by
   rcases d5 with⟨g1,g2⟩ | ⟨_,g2⟩
   .exact⟨g1,(Bl3 (hfa.symm.trans g2)).symm⟩
   rw[hfa]at g2;cases g2
  refine Aw ?_;have hkd:f.Has=true->kdX 4194304 X (p.Nr.g n) f k=if O7 4194304 A f.W=some true then none else some 1:=λo=>by unfold kdX;rw[Ek o,Ek (by rw[d3,hph,hD.1];rfl),d3,hD.2]
  by_cases o:f.Has=true
  .have h32w:=hA.1;obtain⟨eb,he1⟩:=Ar3 (N:=4194304) (x:=A) (y:=f.W) (by omega) (by omega);have hr2:Fz 4194304 A f.W=some eb:=by
    have:(Fz 4194304 A f.W).bind (λy=>some y)=some eb:=he1
    obtain⟨y,h1,h2⟩:=Bp8.1 this;cases h2;exact h1
   rw[he1]at hkd;refine ifT o (B8 hr2 ?_);cases eb
   .exact Bq (K26 1 λh=>(hkd h).trans (Et (by decide)))
   exact ifT rfl (AL6 _ rfl ((hkd o).trans (Ek rfl)))
  exact ifF o (Bq (K26 1 λh=>Eu h o))
 have hD:D.2≠0:=by
  rcases d5 with⟨_,g2⟩ | ⟨g1,_⟩
  .rw[hfa]at g2;cases g2
  exact g1
 refine ifF (by simpa using he0) (Bq ?_)
 have:=K26 2 λo=>by unfold kdX;rw[Ek o,Et (by rw[d3];simp[hD])]
 rw[Et (show ¬(e==0)=true by simpa using he0)];exact this
end Go.AM
