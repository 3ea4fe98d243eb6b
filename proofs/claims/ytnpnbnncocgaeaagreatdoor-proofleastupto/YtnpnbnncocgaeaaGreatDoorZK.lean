/- Part 11. -/
import Derived.Test.YtnpnbnncocgaeaaGreatDoorZJ
import Derived.Test.YtnpnbnncocgaeaaGreatDoorZI
import Derived.Test.YtnpnbnncocgaeaaGreatDoorZH
set_option linter.defProp false
set_option linter.unusedSimpArgs false
set_option linter.unusedVariables false
set_option linter.unusedSectionVars false
namespace Go.AM
variable {N:Nat}
def Fc{c:Prop}{i:Decidable c}{α:Sort _}{a b:α}(h:¬c:=by simp):(if c then a else b)=b:=Gb h
open IntKind (wrap)
open Go.Proofs
def BI0 (s c:Qb):Prop:=∃p m a b:BitVec 32,s=sOf p m/\c=sOf a b/\AP3 p m a b=true
def Bc0 {p m a b:BitVec 32}(h:sOf p m=sOf a b):p=a/\m=b:=by
 have e1:(p.toNat:Int)=a.toNat:=congrArg Qb.Plus h;have e2:(m.toNat:Int)=b.toNat:=by grind
 grind[BitVec.eq_of_toNat_eq]
def satS_of {p m a b:BitVec 32}:BI0 (sOf p m) (sOf a b)↔AP3 p m a b=true:=by
 constructor
 .rintro⟨p',m',a',b',h1,c,d⟩;obtain⟨rfl,rfl⟩:=Bc0 h1;obtain⟨rfl,rfl⟩:=Bc0 c;omega
 exact λh=>⟨_,_,_,_,rfl,rfl,h⟩
def Bq3 {s c:Qb}(hs:okS s)(hc:okS c):∃b,O9 N s c=some b/\(b=true↔BI0 s c):=by obtain⟨p,m,rfl⟩:=hs;obtain⟨a,b,rfl⟩:=hc;exact⟨_,BE8 p m a b,satS_of.symm⟩
def Bq4 (d:1000<=N){s c:Qb}(hs:okS s)(hc:okS c):∃b,V2 N s c=some b/\(b=true↔BI0 s c):=by obtain⟨p,m,rfl⟩:=hs;obtain⟨a,b,rfl⟩:=hc;exact⟨_,BE9 p m a b d,satS_of.symm⟩
def arP (l:Law)(w:Sl Qb)(i:Nat):Prop:=chk 40 [l.Left]/\chk 40 [l.Right]/\wOk w/\i+l.If.n<=w.n/\(∃a,a<=w.n/\PR w l.Left a i)/\∃b,b<=w.n/\PR w l.Right (i+l.If.n) b
def AD2 (l:Law)(w:Sl Qb)(i:Nat):Prop:=i+l.If.n<=w.n/\(∀j,j<l.If.n->BI0 (w.g (i+j)) (l.If.g j))/\arP l w i
def okW (w:Sl Qb):Prop:=w.n<1000/\∀i,i<w.n->okS (w.g i)
def AN6 (c:3000<=N){l:Law}(hl:okL l)(hk:l.If.n<=4){w:Sl Qb}(hw:okW w)(i:Nat)(d:i<2000) :∃b,Ao N (i:Int) l w=some b/\(b=true↔arP l w i):=by
 unfold Ao;obtain⟨y1,e1,h1⟩:=AN5 (N:=N) c hl.1 (w:=w) ⟨by have:=hw.1;omega,by have:=hw.1;omega⟩ hw.2 (i:Int);refine C0 e1 ?_;rw[BS9]at h1;by_cases f:y1.1.n=0
 .refine ifT (by grind) ⟨false,rfl,by simp,λh=>?_⟩
  have:=h1.2 ⟨h.1,h.2.2.1,by omega,by have:=h.2.2.2.1;omega,h.2.2.2.2.1⟩
  omega
 refine ifF (by grind) ?_;rw[GJ (by omega)];obtain⟨y2,e2,a⟩:=Bq2 (N:=N) c hl.2.1 (w:=w) ⟨by have:=hw.1;omega,by have:=hw.1;omega⟩ hw.2 ((i+l.If.n:Nat):Int);rw[BS9]at a;refine C0 e2 ⟨_,rfl,?_⟩;have h1:=h1.1 (by omega);rw[Je];constructor
 .intro h;have a:=a.1 (by omega);exact⟨h1.1,a.1,h1.2.1,by omega,h1.2.2.2.2,a.2.2.2.2⟩
 intro h
 have:=a.2 ⟨h.2.1,h.2.2.1,by omega,by have:=h.2.2.2.1;omega,h.2.2.2.2.2⟩
 omega
def Yj (d:3000<=N){l:Law}(hl:okL l)(hk:l.If.n<=4){w:Sl Qb}(hw:okW w)(i:Nat)(o:i<2000) :∃b,Gx N l w (i:Int)=some b/\(b=true↔AD2 l w i):=by
 unfold Gx;rw[GJ (by omega)];by_cases hn:w.n<i+l.If.n
 .exact ifT (by grind) ⟨false,rfl,by simp,λh=>by have:=h.1;omega⟩
 refine ifF (by grind) ?_;refine Y6 (λj x1=>x1=(j:Int)/\∀k,k<j->BI0 (w.g (i+k)) (l.If.g k)) l.If.n _ (by omega) (by grind) ?_;rintro f j x1 q ⟨rfl,h⟩ hs;by_cases c:j<l.If.n
 .rw[GJ (by omega)];refine ifT (by grind) (Ab ?_);obtain⟨b,eb,hb⟩:=Bq4 (N:=N) (by omega) (hw.2 (i+j) (by omega)) (hl.2.2 j c);refine C0 (by rw[BS9,BS9];exact eb) ?_;cases b
  .refine ifT rfl ⟨false,rfl,by simp,λa=>?_⟩
   have:=hb.2 (a.2.1 j c);omega
  refine Bj (hs c _ ⟨By,λk m=>?_⟩)
  grind
 refine ifF (by grind) ?_;obtain⟨y1,e1,h1⟩:=Av6 (N:=N) d hl.1 (w:=w) hw.2 (i:Int);obtain⟨y2,e2,a⟩:=Bb9 (N:=N) d hl.2.1 (w:=w) hw.2 ((i+l.If.n:Nat):Int);rw[BS9]at h1 a;refine C0 e1 (C0 e2 ⟨_,rfl,?_⟩);simp only[BT5,Je];constructor
 .rintro⟨g1,g2⟩;have h1:=h1.1 (by omega);have a:=a.1 (by omega);exact⟨by omega,by grind,h1.1,a.1,h1.2.1,by omega,h1.2.2.2.2,a.2.2.2.2⟩
 intro g;have a1:=h1.2 ⟨g.2.2.1,g.2.2.2.2.1,by omega,by omega,g.2.2.2.2.2.2.1⟩;have a2:=a.2 ⟨g.2.2.2.1,g.2.2.2.2.1,by omega,by omega,g.2.2.2.2.2.2.2⟩;omega
open Classical in
noncomputable def hitB (l:Law) (w:Sl Qb) (i:Nat):Bool:=decide (AD2 l w i)
def hitB_iff {l:Law}{w:Sl Qb}{i:Nat}:hitB l w i=true↔AD2 l w i:=by simp[hitB]
noncomputable def Hh (l:Law) (w:Sl Qb) (i:Nat):List Int:=((List.range' i (w.n+1-i)).filter (hitB l w)).map λ(j:Nat)=>(j:Int)
def OO {l:Law}{w:Sl Qb}{i:Nat}(h:w.n<i+l.If.n):Hh l w i=[]:=by
 unfold Hh;rw[Cj2.2 λj a hb=>by
  have:=List.mem_range'_1.1 a
  have:=(hitB_iff.1 hb).1
  omega]
 rfl
def Ob {l:Law}{w:Sl Qb}{i:Nat}(a:i<=w.n)(h:AD2 l w i):Hh l w i=(i:Int)::Hh l w (i+1):=by unfold Hh;rw[show w.n+1-i=(w.n+1-(i+1))+1 by omega,Cd8,Ch9 (hitB_iff.2 h)];rfl
theorem Oc {l:Law}{w:Sl Qb}{i:Nat}(h:¬AD2 l w i):Hh l w i=Hh l w (i+1):=by
 unfold Hh;by_cases a:i<=w.n
 .rw[show w.n+1-i=(w.n+1-(i+1))+1 by omega,Cd8,Ci0 λhb=>h (hitB_iff.1 hb)]
 grind
def Bq5 {l:Law}{w:Sl Qb}{i:Nat}{y:Int}(h:y∈Hh l w i):(i:Int)<=y:=by
 obtain⟨j,a,rfl⟩:=BZ1.1 h
 have:=List.mem_range'_1.1 (Cf7.1 a).1
 omega
def AD3 (z:3000<=N){l:Law}(hl:okL l)(hk:l.If.n<=4){w:Sl Qb}(hw:okW w)(i:Nat)(v:i<1500):AQ N l w (i:Int)=some (Hh l w i):=by
 unfold AQ;show (some (l,w)).bind _=_;rw[BT1];simp only[]
 suffices h:∀(k i:Nat),i<1501->w.n+1-i<=k->∀F,k<F->∃r,O7 F (λ(a:Int->Option (List Int)) (x2:Int)=>
  if (decide ((wrap .i64 (x2+(l.If.n:Int)))<=(w.n:Int))) then
   O7 N (λ(d:Int->Option (List Int)) (x4:Int)=>
    if (decide (x4<(l.If.n:Int))) then
     if ((0:Int)<=x4/\x4<(l.If.n:Int))then
      if ((0:Int)<=(wrap .i64 (x2+x4))/\(wrap .i64 (x2+x4))<(w.n:Int))then
       (O9 N (w.g (wrap .i64 (x2+x4)).toNat) (l.If.g x4.toNat)).bind λs=>
       if (!s) then
        a (wrap .i64 (x2+1))
       else
        d (wrap .i64 (x4+1))
      else none
     else none
    else
     (Ao N x2 l w).bind λt=>
     if t then
      Dk x2 (
       a (wrap .i64 (x2+1))
       )
     else
      a (wrap .i64 (x2+1))
    ) 0
  else
   some []
  ) (i:Int)=some r/\r=Hh l w i by
  obtain⟨r,h1,rfl⟩:=h (w.n+1-i) i (by omega) (BT8 _) N (by have:=hw.1;omega);omega
 intro k
 induction k with
 |zero=>
  intro i v m F q
  match F,q with
  |F+1,_=>rw[BQ,GJ (by omega)];exact ifF (by grind) ⟨_,rfl,(OO (by omega)).symm⟩
 |succ k ih=>
  intro i v m F q
  match F,q with
  |F+1,q=>
   rw[BQ,GJ (by omega)];by_cases hn:i+l.If.n<=w.n
   case neg=>exact ifF (by grind) ⟨_,rfl,(OO (by omega)).symm⟩
   refine ifT (by grind) ?_;have a0:=hw.1;obtain⟨r,x,o⟩:=ih (i+1) (by omega) (by omega) F (by omega);have c:∀(Q:List Int->Prop),Q (Hh l w (i+1))->∃r,O7 F _ (IntKind.i64.wrap ((i:Int)+1))=some r/\Q r:=λQ hQ=>⟨r,by rw[By];exact x,by rw[o];omega⟩;refine Y6 (λj x1=>x1=(j:Int)/\∀k,k<j->BI0 (w.g (i+k)) (l.If.g k)) l.If.n _ (by omega) (by grind) ?_;rintro y j x1 hj ⟨rfl,h⟩ hs;by_cases f:j<l.If.n
   .rw[GJ (by omega)];refine ifT (by grind) (Ab (Ab ?_));obtain⟨b,eb,hb⟩:=Bq3 (N:=N) (hw.2 (i+j) (by omega)) (hl.2.2 j f);refine C0 (by rw[BS9,BS9];exact eb) ?_;cases b
    .refine ifT rfl (c _ ?_);exact (Oc λu=>by have:=hb.2 (u.2.1 j f);grind).symm
    refine Bj (hs f _ ⟨By,λk m=>?_⟩)
    grind
   refine ifF (by grind) ?_;obtain⟨b,eb,hb⟩:=AN6 z hl hk hw i (by omega);refine C0 eb ?_;cases b
   .refine Bj (c _ ?_);exact (Oc λu=>by have:=hb.2 u.2.2;grind).symm
   refine ifT rfl ?_;have hh:AD2 l w i:=⟨hn,by grind,hb.1 rfl⟩;refine⟨(i:Int)::Hh l w (i+1),?_,(Ob (by omega) hh).symm⟩;rw[By,x,o];rfl
def Bc1 (a:3000<=N){l:Law}(hl:okL l)(hk:l.If.n<=4){w:Sl Qb}(hw:okW w)(i:Nat)(c:i<1500) :∃b,HC N l w (i:Int)=some b/\(b=true↔AD2 l w i):=by
 unfold HC;refine C0 (x:=(l,w,(i:Int))) rfl (C0 (AD3 a hl hk hw i c) ?_);by_cases h:AD2 l w i
 .rw[Ob (by have:=h.1;omega) h]
  simp_all[T9]
 rw[Oc h];rcases hL:Hh l w (i+1)with _|⟨t,L⟩
 .exact⟨false,rfl,by grind⟩
 have:((i+1:Nat):Int)<=t:=Bq5 (l:=l) (w:=w) (by rw[hL];simp)
 exact⟨false,by show some (t==(i:Int))=some false;congr 1;grind,by grind⟩
def Bv7 {p m a b s:BitVec 32}(h1:vB p m=true)(c:vB a b=true):vB (Yu p a s) (Yu m b s)=true:=by
 rw[Jb]at *
 grind[Yu]
def vS0:vS (⟨0,0⟩:Qb):=⟨0#32,0#32,rfl,by decide +kernel⟩
def Av7 (f:1000<=N){s t:Qb}{c:Int}(hs:okS s)(hc:∃b:BitVec 32,c=(b.toNat:Int))(ht:okS t):∃y,T2 N s c t=some y/\W3 N s c t=some y/\vS y.1:=by
 obtain⟨p,m,rfl⟩:=hs;obtain⟨a,b,rfl⟩:=ht;obtain⟨d,rfl⟩:=hc;refine⟨_,AN3 p m d a b,AN4 p m d a b f,?_⟩;unfold Bp7;split
 .rename_i h;split
  .exact⟨_,_,rfl,Bv7 h.1 h.2⟩
  exact vS0
 exact vS0
def Bc2 (f:1000<=N){s t:Qb}{c:Int}(hs:okS s)(hc:∃b:BitVec 32,c=(b.toNat:Int))(ht:okS t):∃y,Y8 N s t c=some y/\Bw N s t c=some y/\vS y.1:=by
 obtain⟨p,m,rfl⟩:=hs;obtain⟨a,b,rfl⟩:=ht;obtain⟨d,rfl⟩:=hc;refine⟨_,Bp9 p m a b d,Bq0 p m a b d f,?_⟩;unfold Bp8;split
 .rename_i h;split
  .exact⟨_,_,rfl,Bv7 h.1 h.2⟩
  exact vS0
 exact vS0
def eqX {R:Type}{Q:R->Prop}{o o' : Option R}(h:o=o')(a:∃r,o' = some r/\Q r):∃r,o=some r/\Q r:=by rw[h];omega
def Fr (f:Nat->Qb):Nat->Sl Qb
 |0=>Sl.nil
 |m+1=>(Fr f m).push (f m)
theorem OP (f:Nat->Qb):∀m,(Fr f m).n=m
 |0=>rfl
 |m+1=>by show (Fr f m).n+1=_;rw[OP f m]
theorem Av8 (f:Nat->Qb):∀{m i:Nat},i<m->(Fr f m).g i=f i
 |0,i,h=>by omega
 |m+1,i,h=>by
  show (if i<(Fr f m).n then (Fr f m).g i else f m)=f i;rw[OP];by_cases e:i<m
  .rw[Fg e,Av8 f e]
  grind
abbrev srcS (l:Law)(cut:Sl Qb)(i:Nat):Qb:=⟨(if (decide (0<=(l.Out.g i).From)) then (cut.g (l.Out.g i).From.toNat).Plus else 0),(if (decide (0<=(l.Out.g i).From)) then (cut.g (l.Out.g i).From.toNat).Minus else 0)⟩
def BF6 (t:1000<=N){l:Law}(u:BS5 l){cut:Sl Qb}(hn:cut.n=l.If.n)(hc:∀i,i<cut.n->okS (cut.g i)) :∃s,Ag N l cut=some s/\EN N l cut=some s/\s.n=l.Out.n/\∀i,i<s.n->vS (s.g i):=by
 have one:∀i,∃y:Qb,i<l.Out.n->vS y/\∀(R:Type) (k:Qb->Option R),
  (∀(Ch:Nat->Qb->Int->Qb->Option (Qb×Int)) (Ta:Nat->Qb->Qb->Int->Option (Qb×Int)),(Ch=T2/\Ta=Y8) \/ (Ch=W3/\Ta=Bw) ->
  (if ((decide (0<=(l.Out.g i).From))=true->((0:Int)<=(l.Out.g i).From/\(l.Out.g i).From<(cut.n:Int)))then
   (Ch N (⟨(if (decide (0<=(l.Out.g i).From)) then (cut.g (l.Out.g i).From.toNat).Plus else 0),(if (decide (0<=(l.Out.g i).From)) then (cut.g (l.Out.g i).From.toNat).Minus else 0)⟩:Qb) (l.Out.g i).Clear (l.Out.g i).Set).bind λy5=>
   if ((l.Out.g i).Take != 0) then
    if ((0:Int)<=(l.Out.g i).Of/\(l.Out.g i).Of<(cut.n:Int))then
     (Ta N y5.1 (cut.g (l.Out.g i).Of.toNat) (l.Out.g i).Take).bind λy6=>k y6.1
    else none
   else k y5.1
   else none)=k y):=by
  intro i;by_cases d:i<l.Out.n
  case neg=>exact⟨default,λh=>Hc h d⟩
  obtain⟨⟨f,m,o⟩,v,q⟩:=u.2 i d;have hs:okS (⟨(if (decide (0<=(l.Out.g i).From)) then (cut.g (l.Out.g i).From.toNat).Plus else 0),(if (decide (0<=(l.Out.g i).From)) then (cut.g (l.Out.g i).From.toNat).Minus else 0)⟩:Qb):=by
   by_cases w:0<=(l.Out.g i).From
   .simp_all
   simp only[w,decide_false,BT6,Ih];exact⟨0#32,0#32,rfl⟩
  obtain⟨y,e1,e2,hy⟩:=Av7 t hs m f;by_cases ht:(l.Out.g i).Take=0
  .refine⟨y.1,λ_=>⟨hy,λR k Ch Ta h=>?_⟩⟩;rw[Fg (by grind)]
   have:Ch N (srcS l cut i) (l.Out.g i).Clear (l.Out.g i).Set=some y:=by
    rcases h with⟨rfl,rfl⟩ | ⟨rfl,rfl⟩
    all_goals omega
   rw[this,BT1,Gb (by grind)]
  obtain⟨g1,g2⟩:=q ht;obtain⟨z,e3,e4,x⟩:=Bc2 t hy.ok o (hc (l.Out.g i).Of.toNat (by omega));refine⟨z.1,λ_=>⟨x,λR k Ch Ta h=>?_⟩⟩;rw[Fg (by grind)]
  have:Ch N (srcS l cut i) (l.Out.g i).Clear (l.Out.g i).Set=some y:=by
   rcases h with⟨rfl,rfl⟩ | ⟨rfl,rfl⟩
   all_goals omega
  rw[this,BT1,Fg (by grind),Dl]
  have:Ta N y.1 (cut.g (l.Out.g i).Of.toNat) (l.Out.g i).Take=some z:=by
   rcases h with⟨rfl,rfl⟩ | ⟨rfl,rfl⟩
   all_goals omega
  rw[this,BT1]
 obtain⟨out,j⟩:=Cd6 one;have a0:=u.1;have b:∀(Ch:Nat->Qb->Int->Qb->Option (Qb×Int)) (Ta:Nat->Qb->Qb->Int->Option (Qb×Int)),(Ch=T2/\Ta=Y8) \/ (Ch=W3/\Ta=Bw) ->
  ∀(a:Sl Qb->Int->Option (Sl Qb)) (i:Nat),i<l.Out.n->(∃r,a ((Fr out i).push (out i)) (wrap .i64 ((i:Int)+1))=some r/\r=Fr out l.Out.n) ->
  ∃r,(if ((decide (0<=(l.Out.g i).From))=true->((0:Int)<=(l.Out.g i).From/\(l.Out.g i).From<(cut.n:Int)))then
   (Ch N (srcS l cut i) (l.Out.g i).Clear (l.Out.g i).Set).bind λy5=>
   if ((l.Out.g i).Take != 0) then
    if ((0:Int)<=(l.Out.g i).Of/\(l.Out.g i).Of<(cut.n:Int))then
     (Ta N y5.1 (cut.g (l.Out.g i).Of.toNat) (l.Out.g i).Take).bind λy6=>
     if (Qd 8 ((Fr out i).n+(Sl.of [y6.1]:Sl Qb).n))then
      a ((Fr out i).push y6.1) (wrap .i64 ((i:Int)+1))
     else none
    else none
   else
    if (Qd 8 ((Fr out i).n+(Sl.of [y5.1]:Sl Qb).n))then
     a ((Fr out i).push y5.1) (wrap .i64 ((i:Int)+1))
    else none
   else none)=some r/\r=Fr out l.Out.n:=by
  intro Ch Ta h a i d hr;have e:=(j i d).2 (Sl Qb) (λy=>if (Qd 8 ((Fr out i).n+(Sl.of [y]:Sl Qb).n))then a ((Fr out i).push y) (wrap .i64 ((i:Int)+1))else none) Ch Ta h;refine eqX e (ifT ?_ hr)
  have:=OP out i
  grind
 have h1:∃r,Ag N l cut=some r/\r=Fr out l.Out.n:=by
  unfold Ag;refine W4 (λi x1 x2=>x2=(i:Int)/\x1=Fr out i) l.Out.n _ (by omega) ⟨rfl,rfl⟩ ?_;rintro a i x1 x2 d ⟨rfl,rfl⟩ hs;by_cases c:i<l.Out.n
  .refine ifT (by grind) (Ab ?_);rw[BS9];exact b _ _ (.inl ⟨rfl,rfl⟩) a i c (hs c _ _ ⟨By,rfl⟩)
  grind
 have h2:∃r,EN N l cut=some r/\r=Fr out l.Out.n:=by
  unfold EN;refine W4 (λi x1 x2=>x2=(i:Int)/\x1=Fr out i) l.Out.n _ (by omega) ⟨rfl,rfl⟩ ?_;rintro a i x1 x2 d ⟨rfl,rfl⟩ hs;by_cases c:i<l.Out.n
  .refine ifT (by grind) (Ab ?_);rw[BS9];exact b _ _ (.inr ⟨rfl,rfl⟩) a i c (hs c _ _ ⟨By,rfl⟩)
  grind
 obtain⟨r,e1,rfl⟩:=h1;obtain⟨r,e2,rfl⟩:=h2
 grind[OP,Av8]
def nf:(!false)=true:=rfl
def BF7 {α : Type}{s t:Sl α}(h:s.n=0):s.app t=t:=by
 simp_all[Sl.app]
def Bv8 {α : Type}[Inhabited α](s:Sl (Sl α)):Nat->Sl α
 |0=>Sl.nil
 |k+1=>(Bv8 s k).app (s.g k)
def Bv9 {α : Type}[Inhabited α](s:Sl (Sl α)){B:Nat}:∀k,(∀i,i<k->(s.g i).n<=B)->(Bv8 s k).n<=k*B
 |0,_=>by simp[Bv8]
 |k+1,h=>by
  have:=Bv9 s k λi a=>h i (by omega)
  have:=h k (by omega)
  grind[Bv8,Nat.succ_mul]
def Av9 {s:Sl (Sl Qb)}(hn:s.n<1000)(d:1000<=N)(hs:∀i,i<s.n->(s.g i).n<=3000000) :B8 N s=some (Bv8 s s.n):=by
 suffices h:∃r,B8 N s=some r/\r=Bv8 s s.n by grind
 unfold B8;refine W4 (λ(i:Nat) (x1 x2:Int)=>x2=(i:Int)/\0<=x1/\x1<=(i:Int)*3000000) s.n _ (by omega) (by omega) ?_;rintro b i x1 x2 c ⟨rfl,f,h1⟩ a;by_cases hl:i<s.n
 .have:=hs i hl
  refine ifT (by grind) (Ab ?_);rw[BS9,Qf];exact ifF (by grind) (a hl _ _ ⟨By,by omega,by omega⟩)
 refine ifF (by grind) (C0 (x:=Sl.nil) ?_ ?_)
 .unfold K4;rw[Dl]
 refine W4 (λi x1 x2=>x2=(i:Int)/\x1=Bv8 s i) s.n _ (by omega) ⟨rfl,rfl⟩ ?_;rintro b i x1 x2 c ⟨rfl,rfl⟩ a;by_cases hl:i<s.n
 .have g1:=hs i hl;have g2:=Bv9 s i (B:=3000000) (by grind);refine ifT (by grind) (ifT ⟨by omega,?_⟩ (a hl _ _ ⟨By,?_⟩))
  .rw[BS9];omega
  rw[BS9];rfl
 grind
def BI1 (w:Sl Qb)(i k:Nat)(y:Sl Qb):Sl Qb:=((w.take i).app y).app (w.drop (i+k))
def Bc3 {w y:Sl Qb}{i k:Nat}(b:i+k<=w.n)(hw:∀j,j<w.n->vS (w.g j))(hy:∀j,j<y.n->vS (y.g j)):(BI1 w i k y).n=w.n-k+y.n/\∀j,j<(BI1 w i k y).n->vS ((BI1 w i k y).g j):=by
 have hn:(BI1 w i k y).n=w.n-k+y.n:=by show i+y.n+(w.n-(i+k))=_;omega
 refine⟨hn,λj a=>?_⟩;rw[hn]at a;show vS (if j<i+y.n then (if j<i then w.g j else y.g (j-i))else w.g (i+k+(j-(i+y.n))))
 grind
def Qt (N:Nat)(l:Law)(w:Sl Qb)(i:Nat):Sl Qb:=(Ag N l (w.sub i (i+l.If.n))).getD Sl.nil
def Bf (N:Nat)(l:Law)(w:Sl Qb)(i:Nat):Sl Qb:=BI1 w i l.If.n (Qt N l w i)
def vOk {w:Sl Qb}(h:wOk w):okW w:=⟨by have:=h.1;omega,λi a=>(h.2 i a).ok⟩
def Kv (a:1000<=N){l:Law}(b:BS5 l){w:Sl Qb}(hw:∀j,j<w.n->vS (w.g j)){i:Nat}(d:i+l.If.n<=w.n) :Ag N l (w.sub i (i+l.If.n))=some (Qt N l w i)/\EN N l (w.sub i (i+l.If.n))=some (Qt N l w i)/\(Qt N l w i).n=l.Out.n/\∀j,j<(Qt N l w i).n->vS ((Qt N l w i).g j):=by
 obtain⟨s,h1,f,m,o⟩:=BF6 a b (cut:=w.sub i (i+l.If.n)) (by grind) λj c=>(hw (i+j) (by have:j<i+l.If.n-i:=c;omega)).ok;have e:Qt N l w i=s:=by grind[Qt]
 rw[e];grind
def cat3 (a b c:Sl Qb):Bv8 (Sl.of [a,b,c]:Sl (Sl Qb)) 3=(a.app b).app c:=by show ((Oy.app a).app b).app c=_;rw[BF7 (s:=Oy) rfl]
def Bc4 (d:1000<=N){a b c:Sl Qb}(ha:a.n<=3000000)(hb:b.n<=3000000)(hc:c.n<=3000000):B8 N (Sl.of [a,b,c]:Sl (Sl Qb))=some ((a.app b).app c):=by
 have h:=Av9 (N:=N) (s:=(Sl.of [a,b,c]:Sl (Sl Qb))) (by grind) d (by grind);rw[h]
 simp_all[congrArg,cat3]
def IF (a:1000<=N){l:Law}(b:BS5 l){w:Sl Qb}(c:w.n<1000)(hw:∀j,j<w.n->vS (w.g j)){i:Nat}(d:i+l.If.n<=w.n) :Bs N l w i=some (Bf N l w i)/\Bx N l w i=some (Bf N l w i):=by
 obtain⟨h1,f,m,o⟩:=Kv a b hw d;have q:=b.1;constructor
 .unfold Bs;rw[GJ (by omega),Dl,BS9,BS9,h1,BT1,Dl,
   Bc4 a (by grind) (by omega) (by grind)]
  rfl
 unfold Bx;rw[GJ (by omega),BS9,BS9,BF7 (s:=Oz) rfl,Fg (by grind),Dl,f,BT1,
  Fg (by grind),Fg (by grind)]
 rfl
def SE {α : Type}(s t:Sl α):Prop:=s.n=t.n/\∀i,i<s.n->s.g i=t.g i
def SE.refl {α : Type}(s:Sl α):SE s s:=⟨rfl,λ_ _=>rfl⟩
def SE.symm {α : Type}{s t:Sl α}(h:SE s t):SE t s:=⟨h.1.symm,λi a=>(h.2 i (by rw[h.1];omega)).symm⟩
def SE.trans {α : Type}{s t u:Sl α}(h:SE s t)(h' : SE t u):SE s u:=⟨h.1.trans h'.1,λi a=>(h.2 i a).trans (h'.2 i (by rw[<- h.1];omega))⟩
def SE.app {α : Type}{s t u v:Sl α}(h:SE s t)(h' : SE u v):SE (s.app u) (t.app v):=⟨by show s.n+u.n=t.n+v.n;rw[h.1,h'.1],λi a=>by
 show (if i<s.n then s.g i else u.g (i-s.n))=if i<t.n then t.g i else v.g (i-t.n)
 have a:i<s.n+u.n:=a;rw[<- h.1];split
 .exact h.2 i (by omega)
 exact h'.2 _ (by omega)⟩
def SE.drop {α : Type}{s t:Sl α}(h:SE s t)(k:Nat):SE (s.drop k) (t.drop k):=⟨by show s.n-k=t.n-k;rw[h.1],λi a=>by have a:i<s.n-k:=a;exact h.2 _ (by omega)⟩
def SE.take {α : Type}{s t:Sl α}(h:SE s t){k:Nat}(hk:k<=s.n):SE (s.take k) (t.take k):=⟨rfl,λi a=>h.2 i (by have a:i<k:=a;omega)⟩
def SE.sub {α : Type}{s t:Sl α}(h:SE s t){a b:Nat}(hk:b<=s.n):SE (s.sub a b) (t.sub a b):=⟨rfl,λi c=>h.2 _ (by have c:i<b-a:=c;omega)⟩
def SE.v {s t:Sl Qb}(h:SE s t)(a:∀j,j<s.n->vS (s.g j)):∀j,j<t.n->vS (t.g j):=λj b=>by rw[<- h.2 j (by rw[h.1];omega)];exact a j (by rw[h.1];omega)
def SE.wOk {s t:Sl Qb}(h:SE s t)(a:wOk s):wOk t:=⟨by rw[<- h.1];exact a.1,h.v a.2⟩
def Yk {w w' : Sl Qb}(h:SE w w'):∀p:Pat,PR w p=PR w' p
 |.nil=>rfl
 |.mk kind is no mn mx m g=>by
  have ih:(λi=>PR w (g i))=λi=>PR w' (g i):=funext λi=>Yk h (g i);have ih1:∀i,PR w (g i)=PR w' (g i):=λi=>congrFun ih i;have e1:∀a,(a<w.n↔a<w'.n):=λa=>by rw[h.1]
  funext a b;unfold PR;rw[ih];simp only[ih1,<- h.1];by_cases ha:a<w.n
  .rw[h.2 a ha]
  grind
def OQ {l:Law}{w w' : Sl Qb}(h:SE w w'){i:Nat}:AD2 l w i↔AD2 l w' i:=by
 suffices H:∀{w w' : Sl Qb},SE w w' -> AD2 l w i->AD2 l w' i by exact⟨H h,H h.symm⟩
 intro w w' h;rintro⟨h1,n,c,d,f,o,⟨a,ha,g⟩,b,hb,m⟩;have hn:=h.1;refine⟨by omega,λj q=>?_,c,d,h.wOk f,by omega,⟨a,by omega,?_⟩,b,by omega,?_⟩
 .rw[<- h.2 (i+j) (by omega)];grind
 .rw[<- Yk h];omega
 rw[<- Yk h];omega
def Bc5 {l:Law}{c c' : Sl Qb}(h:SE c c'):Ag N l c=Ag N l c':=by
 unfold Ag;congr 1;funext self x1 x2;by_cases h1:(decide (x2<(l.Out.n:Int)))=true
 case neg=>rw[Gb h1,Gb h1]
 rw[Fg h1,Fg h1,<- h.1];have e1:∀y:Int,(0:Int)<=y->y<(c.n:Int)->c.g y.toNat=c'.g y.toNat:=λy b h1=>h.2 _ (by omega);by_cases a:(0:Int)<=x2/\x2<(l.Out.n:Int)
 case neg=>rw[Gb a,Gb a]
 rw[Fg a,Fg a];split
 .rename_i d;have e2:(⟨(if (decide (0<=(l.Out.g x2.toNat).From)) then (c.g (l.Out.g x2.toNat).From.toNat).Plus else 0),(if (decide (0<=(l.Out.g x2.toNat).From)) then (c.g (l.Out.g x2.toNat).From.toNat).Minus else 0)⟩:Qb) =
   ⟨(if (decide (0<=(l.Out.g x2.toNat).From)) then (c'.g (l.Out.g x2.toNat).From.toNat).Plus else 0),(if (decide (0<=(l.Out.g x2.toNat).From)) then (c'.g (l.Out.g x2.toNat).From.toNat).Minus else 0)⟩:=by
   grind
  rw[e2]
  grind
 rfl
def Tp {l:Law}{w w' : Sl Qb}(h:SE w w'){i:Nat}(a:i+l.If.n<=w.n):Qt N l w i=Qt N l w' i:=by unfold Qt;rw[Bc5 (h.sub a)]
def PT {l:Law}{w w' : Sl Qb}(h:SE w w'){i:Nat}(a:i+l.If.n<=w.n):SE (Bf N l w i) (Bf N l w' i):=by unfold Bf BI1;rw[Tp h a];exact ((h.take (by omega)).app (SE.refl _)).app (h.drop _)
def RL:List (Int×Sl Qb)->List (Int×Sl Qb)->Prop
 |[],[]=>True
 |(p,v)::L,(q,u)::M=>p=q/\SE v u/\RL L M
 |_,_=>False
def Od:Sl Int->Sl (Sl Qb)->List (Int×Sl Qb)->Sl Int×Sl (Sl Qb)×Int
 |x,y,[]=>(x,y,0)
 |x,y,(p,v)::L=>if 32<v.n then (Sl.nil,Sl.nil,11)else Od (x.push p) (y.push v) L
def vL (L:Ad3):Prop:=∀x∈L,∀j,j<x.2.n->vS (x.2.g j)
def AD4:vL []:=λx hx=>Hc hx (by simp)
def Aw0 {x:Int×Sl Qb}{L:Ad3}(h:∀j,j<x.2.n->vS (x.2.g j))(hL:vL L):vL (x::L):=λy hy=>by
 rcases BX5.1 hy with rfl|hy
 .exact h
 exact hL y hy
abbrev Ag7 (N:Nat)(l:Law):=BH5 N l (l.If.n:Int) (l.Out.n:Int)
def Bc6 (y:3000<=N){l:Law}(hf:BS6 l):∀(m:Nat) (w w' : Sl Qb) (i:Nat),SE w w' -> w.n<=100->(∀j,j<w.n->vS (w.g j))->i<=200->w.n+1<=i+m ->
 ∃L L',(∀M,m<M->Y4 M (Ag7 N l) w i=some L)/\vL L/\L.length<=m/\RL L L' /\ ∀M x2 x3,m<M->x2.n+m<=1000->x3.n+m<=1000->AO8 M (VT N l) w' x2 x3 i=some (Od x2 x3 L'):=by
 obtain⟨hl,_,_,hk,r,hko,_,_⟩:=hf;have h6:=r.1;intro m
 induction m with
 |zero=>
  intro w w' i a hn c hi hm;have s:=a.1;refine⟨[],[],λM d=>?_,AD4,BT8 _,trivial,λM x2 x3 d _ _=>?_⟩
  .obtain⟨M,rfl⟩:∃K,M=K+1:=⟨M-1,by omega⟩;rw[J9,Ag7,BH5,GJ (by omega),Gb (by grind)]
  obtain⟨M,rfl⟩:∃K,M=K+1:=⟨M-1,by omega⟩;rw[AF,VT,GJ (by omega),Gb (by grind),Od]
 |succ m ih=>
  intro w w' i a hn c hi hm;have s:=a.1;by_cases hle:i+l.If.n<=w.n
  case neg=>
   refine⟨[],[],λM d=>?_,AD4,by simp,trivial,λM x2 x3 d _ _=>?_⟩
   .obtain⟨M,rfl⟩:∃K,M=K+1:=⟨M-1,by omega⟩;rw[J9,Ag7,BH5,GJ (by omega),Gb (by grind)]
   obtain⟨M,rfl⟩:∃K,M=K+1:=⟨M-1,by omega⟩;rw[AF,VT,GJ (by omega),Gb (by grind),Od]
  have hw:okW w:=⟨by omega,λj t=>(c j t).ok⟩;have o:=a.v c;have u : okW w':=⟨by omega,λj t=>(o j t).ok⟩;obtain⟨b,e1,h1⟩:=Bc1 y hl hk hw i (by omega);obtain⟨b',e2,h2⟩:=Yj y hl hk u i (by omega);obtain rfl:b' = b:=by rw[BV2,h1,h2,OQ a]
  cases b'
  .obtain⟨L,L',g1,g2,g3,g5,g4⟩:=ih w w' (i+1) a hn c (by omega) (by omega);refine⟨L,L',λM d=>?_,g2,by omega,g5,λM x2 x3 d hx hy=>?_⟩
   .obtain⟨M,rfl⟩:∃K,M=K+1:=⟨M-1,by omega⟩;rw[J9,Ag7,BH5,GJ (by omega),Fg (by grind),e1,BT1,Fg nf,By]
    grind
   obtain⟨M,rfl⟩:∃K,M=K+1:=⟨M-1,by omega⟩;rw[AF,VT,GJ (by omega),Fg (by grind),e2,BT1,Fg nf,By]
   grind
  have x:=h1.1 rfl;have z:=x.2.2.2.2.1.1;have r1:=(IF (N:=N) (by omega) r (by omega) c hle).1;have r2:=(IF (N:=N) (w:=w') (i:=i) (by omega) r (by omega) o (by omega)).2;have f:=PT (N:=N) a hle;have hrn:=f.1;obtain⟨_,_,p3,p4⟩:=Kv (N:=N) (by omega) r c hle;obtain⟨q1,q2⟩:=Bc3 hle c p4;have q1:(Bf N l w i).n=w.n-l.If.n+l.Out.n:=by rw[<- p3];exact q1
  have q2:∀j,j<(Bf N l w i).n->vS ((Bf N l w i).g j):=q2;obtain⟨L,L',g1,g2,g3,g5,g4⟩:=ih (Bf N l w i) (Bf N l w' i) (if l.If.n=0 then i+l.Out.n+1 else i+l.Out.n) f (by omega) q2 (by split<;>omega) (by split<;>omega);refine⟨((i:Int),Bf N l w i)::L,((i:Int),Bf N l w' i)::L',λM d=>?_,Aw0 q2 g2,by grind,⟨rfl,f,g5⟩,λM x2 x3 d hx hy=>?_⟩
  .obtain⟨M,rfl⟩:∃K,M=K+1:=⟨M-1,by omega⟩;rw[J9,Ag7,BH5,GJ (by omega),Fg (by grind),e1,BT1,Fc,r1,BT1,GJ (by omega),By];have g1:=g1 M (by omega);by_cases h0:l.If.n=0
   .rw[Fg h0]at g1;rw[Fg (by grind),g1];rfl
   rw[Gb h0]at g1;rw[Gb (by grind),g1];rfl
  obtain⟨M,rfl⟩:∃K,M=K+1:=⟨M-1,by omega⟩;rw[AF,VT,GJ (by omega),Fg (by grind),e2,BT1,Fc,r2,BT1,GJ (by omega),By,Od];by_cases q:32<(Bf N l w' i).n
  .rw[Fg (by grind),Fg q]
  rw[Gb (by grind),Gb q,Fg (by grind)];have g4:=g4 M (x2.push (i:Int)) (x3.push (Bf N l w' i)) (by omega) (by show x2.n+1+m<=_;omega) (by show x3.n+1+m<=_;omega)
  grind
abbrev Bq6 (N:Nat)(l:Law):=BO3 N l (l.If.n:Int)
def Bq7 (hN:3000<=N){l:Law}(hf:BS6 l):∀(m:Nat) (w w' : Sl Qb) (i:Int),SE w w' -> w.n<=100->(∀j,j<w.n->vS (w.g j)) -> -100<=i->i+1<=m->m<=200 ->
 ∃L L',(∀M,m<M->Y4 M (Bq6 N l) w i=some L)/\vL L/\L.length<=m/\RL L L' /\ ∀M x2 x3,m<M->x2.n+m<=1000->x3.n+m<=1000->AO8 M (AY2 N l) w' x2 x3 i=some (Od x2 x3 L'):=by
 obtain⟨hl,_,_,hk,s,hko,_,_⟩:=hf;have h6:=s.1;intro m
 induction m with
 |zero=>
  intro w w' i a hn c hi hm u;have x:=a.1;refine⟨[],[],λM f=>?_,AD4,BT8 _,trivial,λM x2 x3 f _ _=>?_⟩
  .obtain⟨M,rfl⟩:∃K,M=K+1:=⟨M-1,by omega⟩;rw[J9,Bq6,BO3,Gb (by grind)]
  obtain⟨M,rfl⟩:∃K,M=K+1:=⟨M-1,by omega⟩;rw[AF,AY2,Gb (by grind),Od]
 |succ m ih=>
  intro w w' i a hn c hi hm u;have x:=a.1;by_cases hle:0<=i
  case neg=>
   grind
  obtain⟨k,rfl⟩:∃k:Nat,i=(k:Int):=⟨i.toNat,by omega⟩;have hw:okW w:=⟨by omega,λj y=>(c j y).ok⟩;have o:=a.v c;have z : okW w':=⟨by omega,λj y=>(o j y).ok⟩;obtain⟨b,e1,h1⟩:=Bc1 hN hl hk hw k (by omega);obtain⟨b',e2,h2⟩:=Yj hN hl hk z k (by omega);obtain rfl:b' = b:=by rw[BV2,h1,h2,OQ a]
  cases b'
  .obtain⟨L,L',g1,g2,g3,g5,g4⟩:=ih w w' ((k:Int)-1) a hn c (by omega) (by omega) (by omega);refine⟨L,L',λM f=>?_,g2,by omega,g5,λM x2 x3 f hx hy=>?_⟩
   .obtain⟨M,rfl⟩:∃K,M=K+1:=⟨M-1,by omega⟩;rw[J9,Bq6,BO3,Fg (by simp),e1,BT1,Fg nf,Qf]
    grind
   obtain⟨M,rfl⟩:∃K,M=K+1:=⟨M-1,by omega⟩;rw[AF,AY2,Fg (by simp),e2,BT1,Fg nf,Qf]
   grind
  have q:=h1.1 rfl;have hle:=q.1;have hw32:=q.2.2.2.2.1.1;have r1:=(IF (N:=N) (by omega) s (by omega) c hle).1;have r2:=(IF (N:=N) (w:=w') (i:=k) (by omega) s (by omega) o (by omega)).2;have d:=PT (N:=N) a hle;have hrn:=d.1;obtain⟨_,_,p3,p4⟩:=Kv (N:=N) (by omega) s c hle;obtain⟨q1,q2⟩:=Bc3 hle c p4;have q1:(Bf N l w k).n=w.n-l.If.n+l.Out.n:=by rw[<- p3];exact q1
  have q2:∀j,j<(Bf N l w k).n->vS ((Bf N l w k).g j):=q2;obtain⟨L,L',g1,g2,g3,g5,g4⟩:=ih (Bf N l w k) (Bf N l w' k) (if l.If.n=0 then (k:Int)-1 else (k:Int)-l.If.n) d (by omega) q2 (by split<;>omega) (by split<;>omega) (by omega);refine⟨((k:Int),Bf N l w k)::L,((k:Int),Bf N l w' k)::L',λM f=>?_,Aw0 q2 g2,by grind,⟨rfl,d,g5⟩,λM x2 x3 f hx hy=>?_⟩
  .obtain⟨M,rfl⟩:∃K,M=K+1:=⟨M-1,by omega⟩;rw[J9,Bq6,BO3,Fg (by simp),e1,BT1,Fc,r1,BT1];have g1:=g1 M (by omega);by_cases t:l.If.n=0
   .rw[Fg t]at g1;rw[Dl,Qf,g1];rfl
   rw[Gb t]at g1;rw[Dm,Qf,g1];rfl
  obtain⟨M,rfl⟩:∃K,M=K+1:=⟨M-1,by omega⟩;rw[AF,AY2,Fg (by simp),e2,BT1,Fc,r2,BT1,Od];by_cases r:32<(Bf N l w' k).n
  .rw[Fg (by grind),Fg r]
  rw[Gb (by grind),Gb r,Fg (by grind)];have g4:=g4 M (x2.push (k:Int)) (x3.push (Bf N l w' k)) (by omega) (by show x2.n+1+m<=_;omega) (by show x3.n+1+m<=_;omega);rw[Qf (n:=(k:Int)-(l.If.n:Int))];by_cases t:l.If.n=0
  .rw[Fg t]at g4;rw[Fg (by grind),Qf,show (k:Int)-(l.If.n:Int)-1=(k:Int)-1 by omega,g4]
  grind
abbrev Qu (N:Nat)(l:Law)(q0:Sl Qb):=BS2 N l (l.If.n:Int) (l.Out.n:Int) q0
abbrev vW (s:Sl Qb):Prop:=∀j,j<s.n->vS (s.g j)
def Ag8 {x s:Sl Qb}{i:Nat}(a:i<s.n):SE (x.app (s.drop i)) ((x.push (s.g i)).app (s.drop (i+1))):=⟨by grind,λj _=>by
 grind⟩
def Bq8 {a x t:Sl Qb}(h:SE a (x.app t)):SE (a.take x.n) x:=⟨rfl,λj b=>by
 have b:j<x.n:=b;have hn:a.n=x.n+t.n:=h.1;have e:a.g j=if j<x.n then x.g j else t.g (j-x.n):=h.2 j (by omega)
 rw[Fg b]at e;exact e⟩
def AD5 {N:Nat}{l:Law}{w:Sl Qb}{K:AllS->Option Ad3}{acc:Sl Qb}{next sh:Int}:∀(d i:Nat),((i+d:Nat):Int)<=next->T9 (Hh l w i) (Qu N l w) K (acc,next,sh)=T9 (Hh l w (i+d)) (Qu N l w) K (acc,next,sh)
 |0,i,_=>rfl
 |d+1,i,h=>by
  have ih:=AD5 (N:=N) (l:=l) (w:=w) (K:=K) (acc:=acc) (next:=next) (sh:=sh) d (i+1) (by omega);rw[show i+(d+1)=i+1+d by omega,<- ih];by_cases a:AD2 l w i
  .rw[Ob (by have:=a.1;omega) a];show Qu N l w (T9 (Hh l w (i+1)) (Qu N l w) K) (i:Int) (acc,next,sh)=_;unfold Qu BS2;rw[Fg (by grind)]
  grind[Oc]
def BF8 {N:Nat}(hN:3000<=N){l:Law}(hf:BS6 l){w w' : Sl Qb}(b:SE w w')(hn:w.n<=32)(hv:vW w):∀(m i:Nat) (x4 acc:Sl Qb) (sh next:Int),i<=w.n+1->w.n+1<=i+m ->
 (i<=w.n->SE acc (x4.app (w'.drop i))/\(x4.n:Int)=i+sh)->next<=i->x4.n<=7*i->vW acc -> -1000<=sh->sh<=1000 ->
 ∃L L',T9 (Hh l w i) (Qu N l w) (λ_=>some []) (acc,next,sh)=some L/\vL L/\L.length<=m/\RL L L' /\ ∀M x2 x3,m<M->x2.n+m<=1000->x3.n+m<=1000->AO8 M (BC3 N l w') x2 x3 x4 i=some (Od x2 x3 L'):=by
 obtain⟨hl,_,_,hk,ho,hko,_,_⟩:=hf;have h6:=ho.1;have hn':=b.1;have hw:okW w:=⟨by omega,λj hj=>(hv j hj).ok⟩;have o : vW w':=b.v hv;have hw' : okW w':=⟨by omega,λj hj=>(o j hj).ok⟩;have fin:∀(m i:Nat) (x4 acc:Sl Qb) (sh next:Int),w.n<i->∃L L',T9 (Hh l w i) (Qu N l w) (λ_=>some []) (acc,next,sh)=some L/\vL L/\L.length<=m/\RL L L' /\ ∀M x2 x3,m<M->x2.n+m<=1000->x3.n+m<=1000->AO8 M (BC3 N l w') x2 x3 x4 i=some (Od x2 x3 L'):=by
  intro m i x4 acc sh next hi
  refine⟨[],[],by rw[OO (by omega)];rfl,AD4,by simp,trivial,λM x2 x3 hM _ _=>?_⟩;obtain⟨M,rfl⟩:∃K,M=K+1:=⟨M-1,by omega⟩;rw[AF,BC3,Gb (by grind),Od]
 intro m
 induction m with
 |zero=>exact λi x4 acc sh next h1 h2 _ _ _ _ _ _=>fin 0 i x4 acc sh next (by omega)
 |succ m ih=>
  intro i x4 acc sh next hi hm hx hnx h7 q r t
  by_cases hle:i<=w.n
  case neg=>grind
  obtain⟨d,hnn⟩:=hx hle;have han:acc.n=x4.n+(w.n-i):=by rw[d.1];grind
  obtain⟨b',e2,h2⟩:=Yj hN hl hk hw' i (by omega);have h2:=h2.trans (OQ b).symm;cases b'
  .have hno:¬AD2 l w i:=(by grind);rw[Oc hno];by_cases u:i<w.n
   .obtain⟨L,L',g1,g2,g3,g5,g4⟩:=ih (i+1) (x4.push (w'.g i)) acc sh next (by omega) (by omega) (λ_=>⟨d.trans (Ag8 (by omega)),by grind⟩) (by omega) (by grind) q r t
    refine⟨L,L',g1,g2,by omega,g5,λM x2 x3 hM hx hy=>?_⟩;obtain⟨M,rfl⟩:∃K,M=K+1:=⟨M-1,by omega⟩;rw[AF,BC3,Fg (by grind),e2,BT1,Fg nf,lt,Fg (by grind),Fg (by grind),By,BS9]
    grind
   obtain⟨L,L',g1,g2,g3,g5,g4⟩:=ih (i+1) x4 acc sh next (by omega) (by omega) (λh=>by omega) (by omega) (by omega) q r t
   refine⟨L,L',g1,g2,by omega,g5,λM x2 x3 hM hx hy=>?_⟩;obtain⟨M,rfl⟩:∃K,M=K+1:=⟨M-1,by omega⟩;rw[AF,BC3,Fg (by grind),e2,BT1,Fg nf,lt,Gb (by grind),By]
   grind
  have x:=h2.1 rfl;have y:=x.1;rw[Ob hle x];obtain⟨p1,_,p3,p4⟩:=Kv (N:=N) (by omega) ho hv y;obtain⟨_,p2,_,_⟩:=Kv (N:=N) (w:=w') (i:=i) (by omega) ho o (by omega);rw[<- Tp b y]at p2;generalize hY:Qt N l w i=Y at p1 p2 p3 p4;have c:SE (((acc.take x4.n).app Y).app (w.drop (i+l.If.n))) ((x4.app Y).app (w'.drop (i+l.If.n))):=((Bq8 d).app (SE.refl _)).app (b.drop _);have f:vW (((acc.take x4.n).app Y).app (w.drop (i+l.If.n))):=(by grind);generalize hZ:(((acc.take x4.n).app Y).app (w.drop (i+l.If.n)))=Z at c f;have hZn:Z.n=x4.n+Y.n+(w.n-(i+l.If.n)):=by rw[<- hZ]
  obtain⟨L,L',g1,g2,g3,g5,g4⟩:=ih (if l.If.n=0 then i+1 else i+l.If.n) (if l.If.n=0/\i<w.n then (x4.app Y).push (w'.g i)else x4.app Y) Z (sh+l.Out.n-l.If.n) (if l.If.n=0 then i+1 else i+l.If.n:Nat)
   (by split<;>omega) (by split<;>omega)
   (λh=>by
    by_cases a:l.If.n=0
    .rw[Fg a]at h;rw[Fg a,Fg ⟨a,by omega⟩];rw[a]at c;exact⟨c.trans (Ag8 (by omega)),by grind⟩
    rw[Gb a,Dm]
    grind)
   (by omega)
   (by
    grind)
   f (by omega) (by omega)
  refine⟨((i:Int),Z)::L,((i:Int),(x4.app Y).app (w'.drop (i+l.If.n)))::L', ?_,Aw0 f g2,by grind,⟨rfl,c,g5⟩,λM x2 x3 hM hx hy=>?_⟩
  .show Qu N l w (T9 (Hh l w (i+1)) (Qu N l w) λ_=>some []) (i:Int) (acc,next,sh)=_;unfold Qu BS2;have es:wrap .i64 ((i:Int)+sh)=((x4.n:Nat):Int):=by rw[Qf,hnn]
   simp only[es];rw[GJ (by omega),Gb (by grind),Dl];simp only[BS9];rw[p1,BT1,Dl,Bc4 (by omega) (by grind) (by omega) (by grind),BT1,hZ];have en:wrap .i64 ((i:Int)+(if (l.If.n:Int)<1 then 1 else (l.If.n:Int)))=((if l.If.n=0 then i+1 else i+l.If.n:Nat):Int):=by
    by_cases a:l.If.n=0
    .rw[Dl,Fg a,Qf];omega
    rw[Dm,Gb a,Qf];omega
   have eh:wrap .i64 ((wrap .i64 (sh+(l.Out.n:Int)))-(l.If.n:Int))=sh+l.Out.n-l.If.n:=by rw[Qf (n:=sh+(l.Out.n:Int)),Qf]
   rw[en,eh];have sk:=AD5 (N:=N) (l:=l) (w:=w) (K:=λ_=>some []) (acc:=Z) (next:=((if l.If.n=0 then i+1 else i+l.If.n:Nat):Int)) (sh:=sh+l.Out.n-l.If.n) (if l.If.n=0 then 0 else l.If.n-1) (i+1) (by split<;>omega);rw[show i+1+(if l.If.n=0 then 0 else l.If.n-1)=(if l.If.n=0 then i+1 else i+l.If.n) by split<;>omega]at sk;show Dk _ (T9 (Hh l w (i+1)) (Qu N l w) (λ_=>some []) (Z,_,_))=_;rw[sk,g1];rfl
  obtain⟨M,rfl⟩:∃K,M=K+1:=⟨M-1,by omega⟩;have hdn:((x4.app Y).app (w'.drop (i+l.If.n))).n=x4.n+Y.n+(w'.n-(i+l.If.n)):=rfl;rw[AF,BC3,Fg (by grind),e2,BT1,Fc,GJ (by omega),Dl];simp only[BS9];rw[p2,BT1,Dl,Fg (by show (x2.n+1)*8<=_/\x2.n+1<=_;omega)];rw[Fg ⟨⟨by show (0+(x4.n+Y.n))*8<=_/\0+(x4.n+Y.n)<=_;omega,by omega⟩,by simp only[Cf5];omega⟩,Od];by_cases z:32<((x4.app Y).app (w'.drop (i+l.If.n))).n
  .rw[Fg (by grind),Fg z]
  rw[Gb (by grind),Gb z,BF7 (s:=Oz) rfl,Fg (by show (x3.n+1)*24<=_/\x3.n+1<=_;omega)];have g4:=g4 M (x2.push (i:Int)) (x3.push ((x4.app Y).app (w'.drop (i+l.If.n)))) (by omega) (by show x2.n+1+m<=_;omega) (by show x3.n+1+m<=_;omega);by_cases a:l.If.n=0
  .rw[Fg (by grind)];rw[Fg a]at g4;by_cases u:i<w.n
   .rw[Fg ⟨a,u⟩]at g4;rw[Fg (by grind),Fg ⟨by omega,by grind⟩,By,show w'.g (i+l.If.n)=w'.g i by rw[a];rfl,show i+l.If.n+1=i+1 by omega];omega
   rw[Dm]at g4;rw[Gb (by grind),By,show i+l.If.n+1=i+1 by omega];omega
  rw[Gb (by grind)];rw[Gb a,Dm]at g4;omega
def trS (r r' : Bu6):Prop:=r.1=r'.1/\r.2.1.n=r'.2.1.n/\(∀i,i<r.2.1.n->SE (r.2.1.g i) (r'.2.1.g i))/\r.2.2=r'.2.2
def Bw0:∀(L L' : Ad3) (x:Sl Int) (y y' : Sl (Sl Qb)),RL L L' -> y.n=y'.n->(∀i,i<y.n->SE (y.g i) (y'.g i))->trS (Od x y L) (Od x y' L')
 |[],[],x,y,y',_,h1,h2=>⟨rfl,h1,h2,rfl⟩
 |(p,v)::L,(q,u)::M,x,y,y',⟨h3,h4,h5⟩,h1,h2=>by
  subst h3;unfold Od;rw[<- h4.1];split
  .exact⟨rfl,rfl,by grind,rfl⟩
  refine Bw0 L M _ _ _ h5 (by grind) λi a=>?_;have a:i<y.n+1:=a
  grind
 |[],_::_,_,_,_,h,_,_=>h.elim
 |_::_,[],_,_,_,h,_,_=>h.elim
def Bc7:∀(L:Ad3) (x:Sl Int) (y:Sl (Sl Qb)),vL L->(∀i,i<y.n->wOk (y.g i))->(Od x y L).2.2=11 \/ ((Od x y L).2.2=0/\(Od x y L).2.1.n<=y.n+L.length/\∀i,i<(Od x y L).2.1.n->wOk ((Od x y L).2.1.g i))
 |[],x,y,_,h=>.inr ⟨rfl,BT8 _,h⟩
 |(p,v)::L,x,y,hv,h=>by
  unfold Od;split
  .grind
  have:=Bc7 L (x.push p) (y.push v) (λz a=>hv z (by grind)) λi b=>by
   show wOk (if i<y.n then y.g i else v);split
   .grind
   exact⟨by omega,hv (p,v) (by simp)⟩
  grind
theorem Ag9:∀(L:Ad3) (x:Sl Int) (y:Sl (Sl Qb)),x.n+L.length<=100000->y.n+L.length<=100000 ->
 T9 L (λ(a:Sl Int×Sl (Sl Qb)->Option Bu6) (x1:Int×(Sl Qb)) (z1:(Sl Int)×(Sl (Sl Qb)))=>
  if (decide (32<(x1.2.n:Int))) then
   some (Ox,Qa,11)
  else
   if (Qd 8 (z1.1.n+(Sl.of [x1.1]:Sl Int).n))then
    if (Qd 24 (z1.2.n+(Sl.of [x1.2]:Sl (Sl Qb)).n))then
     a (z1.1.push x1.1,z1.2.push x1.2)
    else none
   else none
  ) (λ(z1:(Sl Int)×(Sl (Sl Qb)))=>
   some (z1.1,z1.2,0)
  ) (x,y)=some (Od x y L)
 |[],x,y,_,_=>rfl
 |(p,v)::L,x,y,hx,hy=>by
  simp at hx hy;have ih:=Ag9 L (x.push p) (y.push v) (by grind) (by grind);rw[T9,Od]
  grind
def Bc8 {N:Nat}(m:3000000<=N){l:Law}(hl:Yc l)(hc:chkAll N l){w w' : Sl Qb}(b:SE w w')(a:wOk w) :∃L L',Gh N l w=some (Od Ox Qa L)/\Gz N l w' = some (Od Ox Qa L')/\RL L L' /\ vL L/\L.length<=100:=by
 obtain⟨e,e1,e2,o⟩:=NW m hl;obtain rfl:e=0:=(o.resolve_right λh=>h.2 hc).1;obtain⟨e',e3,g⟩:=NV (N:=N) (by omega) (vOk a).2;obtain rfl:=(GC g).2 a;obtain⟨e'',e4,c⟩:=HN (N:=N) (by omega) (vOk (b.wOk a)).2;obtain rfl:=(GC c).2 (b.wOk a);unfold Gh Gz Im IA;rw[e1,e2,BT1,BT1,Gb (by decide),Gb (by decide),e3,e4];simp only[BT1];rw[Gb (by decide),Gb (by decide)];have d:=hc.f hl;obtain⟨j,_,_,hk,x,q,r,s⟩:=id d;have hn:=a.1;have t:=b.1;have key:∃L L',DV N w l (l.If.n:Int) (l.Out.n:Int)=some L/\vL L/\L.length<=100/\RL L L' /\
  (if (l.Mode==1) then (Km N l w').bind λy2=>some (y2.1,y2.2.1,y2.2.2)
   else if (l.Mode==2) then (Gy N l w').bind λy3=>some (y3.1,y3.2.1,y3.2.2)
   else (FE N l w').bind λy4=>some (y4.1,y4.2.1,y4.2.2))=some (Od Ox Qa L'):=by
  unfold DV;by_cases c1:l.Mode=1
  .rw[Fg (by grind),Fg (by grind)];obtain⟨L,L',g1,g2,g3,g5,g4⟩:=BF8 (N:=N) (by omega) d b hn a.2 (w.n+1) 0 Oy w 0 0 (by omega) (by omega) (λ_=>⟨by rw[BF7 rfl];exact⟨b.1,λi u=>by rw[b.2 i u];grind⟩,rfl⟩) (by omega) (by grind) a.2 (by omega) (by omega);have v:=AD3 (N:=N) (by omega) j hk (w:=w) (vOk a) 0 (by omega);refine⟨L,L', ?_,g2,by omega,g5,?_⟩
   .show ((AQ N l w ((0:Nat):Int)).bind λL1=>T9 L1 (Qu N l w) (λ_=>some []) (w,0,0))=_;rw[v,BT1];omega
   have:Km N l w' = some _:=g4 N Ox Qa (by omega) (by grind) (by grind)
   rw[this];rfl
  rw[Gb (by grind),Gb (show ¬(l.Mode==1)=true by simp[c1])];by_cases c2:l.Mode=2
  .rw[Fg (by grind),Fg (by grind)];obtain⟨L,L',g1,g2,g3,g5,g4⟩:=Bc6 (N:=N) (by omega) d (w.n+1) w w' 0 b (by omega) a.2 (by omega) (by omega);refine⟨L,L',g1 N (by omega),g2,by omega,g5,?_⟩
   have:Gy N l w' = some _:=g4 N Ox Qa (by omega) (by grind) (by grind)
   rw[this];rfl
  have c3:l.Mode=3:=by omega
  rw[Gb (by grind),Gb (show ¬(l.Mode==2)=true by simp[c2]),Fg (by grind)];obtain⟨L,L',g1,g2,g3,g5,g4⟩:=Bq7 (N:=N) (by omega) d (w.n+1) w w' ((w.n:Int)-(l.If.n:Int)) b (by omega) a.2 (by omega) (by omega) (by omega);refine⟨L,L', ?_,g2,by omega,g5,?_⟩
  .rw[Qf];grind
  have g4:=g4 N Ox Qa (by omega) (by show 0+_<=_;omega) (by show 0+_<=_;omega)
  have:FE N l w' = some (Od Ox Qa L'):=by
   grind[FE,wrap,G4]
  rw[this];rfl
 grind[NM,DV,bind,Ag9]
def Bc9 (i:3000000<=N){l:Law}(hl:Yc l)(hc:chkAll N l){w w' : Sl Qb}(a:SE w w')(b:wOk w) :∃v v' e,CH N l w=some (v,e)/\GA N l w' = some (v',e)/\(e=11 \/ e=0/\SE v v' /\ wOk v):=by
 obtain⟨L,L',h1,d,j,m,z⟩:=Bc8 i hl hc a b;have hs:=Bw0 L L' Ox Qa Qa j rfl (by grind);have ht:=Bc7 L Ox Qa m (by grind);generalize Od Sl.nil Sl.nil L=r at h1 hs ht;generalize Od Sl.nil Sl.nil L' = r' at d hs;obtain⟨x,y,e⟩:=r;obtain⟨x',y',e'⟩:=r';obtain⟨_,hn,hs,f⟩:=hs;dsimp only at hn hs f ht;subst f;unfold CH GA;rw[h1,d,BT1,BT1];dsimp only;rcases ht with rfl|⟨rfl,g,o⟩
 .grind
 rw[Gb (by grind),Gb (show ¬((0:Int) != 0)=true by decide)];have g:y.n<=0+L.length:=g;have q:=b.1;have t:=a.1;by_cases hy:y.n=0
 .rw[Gb (by grind),Fg (by grind),Fg (by grind),BF7 (s:=Oz) rfl];unfold B2;rw[Dl]
  grind
 have hk:=o (y.n-1) (by omega);have c:=hs (y.n-1) (by omega);have hb:=hk.1;have u:=c.1;have e1:wrap .i64 ((y.n:Int)-1)=((y.n-1:Nat):Int):=wrapP (by omega) (by omega);have e2:wrap .i64 ((y'.n:Int)-1)=((y.n-1:Nat):Int):=by rw[<- hn];omega
 rw[e1,e2,BS9,Fg (by grind),Dl,Gb (by grind),Fg (by grind),BF7 (s:=Oz) rfl]
 grind
def contF {s:Sl Law}(c:s.n<N)(hs:s.n<1000000){f:Law->Option Bool}(d:∀i,i<s.n->f (s.g i)=some false):D7 N s f=some false:=by
 suffices h:∃y,F3 N s f=some y/\y = -1 by obtain⟨y,h,rfl⟩:=h;unfold D7;rw[h];rfl
 unfold F3;refine Y6 (λi x1=>x1=(i:Int)) s.n _ c rfl ?_;rintro b i x1 j rfl a;by_cases hl:i<s.n
 .exact ifT (by grind) (Ab (C0 (by rw[BS9];exact d i hl) (Bj (a hl _ (By)))))
 grind
def Ah0 (f:3000000<=N){laws:Sl Law}(hl:VZ laws)(a:PQ N laws):Ce N laws=some 0/\Ee N laws=some 0:=by
 have j:=a.1;have hc:∀i,i<laws.n->Z4 N (laws.g i)=some 0/\Z7 N (laws.g i)=some 0:=λi c=>by
  obtain⟨e,e1,e2,l⟩:=NW f (hl i c);obtain rfl:e=0:=(l.resolve_right λh=>h.2 (a.2 i c)).1
  grind
 constructor
 .unfold Ce;rw[Gb (by grind),contF (by omega) (by omega) λi c=>by grind[Cs]];rfl
 suffices h:∃y,Ee N laws=some y/\y=0 by grind
 unfold Ee;refine ifF (by grind) (Y6 (λi x1=>x1=(i:Int)) laws.n _ (by omega) rfl ?_);rintro d i x1 c rfl hs;by_cases b:i<laws.n
 .exact ifT (by grind) (Ab (C0 (by rw[BS9];exact (hc i b).2) (Bk (hs b _ (By)))))
 grind
def LX (N:Nat)(c:Int)(q1:Sl Law)(a:Sl Qb->Int->Option Ad3)(x1:Sl Qb)(x2:Int):Option Ad3:= if (decide (x2<(q1.n:Int))) then if ((0:Int)<=x2/\x2<(q1.n:Int))then (CH N (q1.g x2.toNat) x1).bind λy4=>if (y4.2 != 0) then if y4.2=c then some []else none else Dk (wrap .i64 (x2+1),y4.1) (a y4.1 (wrap .i64 (x2+1))) else none else if c=0 then some []else none
def GE {c:Int}{laws:Sl Law}{a:Sl Qb->Int->Option Ad3}{w:Sl Qb}{i:Nat}(d:i<laws.n)(b:laws.n<=64){y:Sl Qb×Int}(h:CH N (laws.g i) w=some y) :LX N c laws a w (i:Int)=if (y.2 != 0) then (if y.2=c then some []else none)else Dk (((i+1:Nat):Int),y.1) (a y.1 ((i+1:Nat):Int)):=by unfold LX;rw[Fg (by grind),Dl,BS9,h,BT1,By]
def AN7:Sl Qb->Ad3->Sl Qb
 |w,[]=>w
 |_,(_,v)::L=>AN7 v L
def Yl:∀(L:Ad3) (w:Sl Qb),T9 L (λ(a:Sl Qb->Option (Sl Qb)) (x1:Int×(Sl Qb)) (z1:Sl Qb)=>a x1.2) (λ(z1:Sl Qb)=>some z1) w=some (AN7 w L)
 |[],w=>rfl
 |(p,v)::L,w=>Yl L v
def Bd0 (o:3000000<=N){laws:Sl Law}(hl:VZ laws)(j:PQ N laws):∀(m i:Nat) (w w' : Sl Qb),SE w w' -> wOk w->i<=laws.n->laws.n<=i+m ->
 (∃L v',SE (AN7 w L) v' /\ wOk (AN7 w L)/\(∀M,m<M->Y4 M (LX N 0 laws) w i=some L)/\∀M x2,m<M->x2.n=i+1->x2.g i=w' -> ∃y,Y4 M (NT N laws) x2 i=some (y,0)/\y.n=laws.n+1/\y.g laws.n=v') \/
 ((∃L,∀M,m<M->Y4 M (LX N 0 laws) w i=none/\Y4 M (LX N 11 laws) w i=some L)/\∀M x2,m<M->x2.n=i+1->x2.g i=w' -> Y4 M (NT N laws) x2 i=some (Qa,11)):=by
 have b:=j.1;intro m
 induction m with
 |zero=>
  intro i w w' c hw q hm;refine .inl ⟨[],w',c,hw,λM d=>?_,λM x2 d hx f=>⟨x2,?_,by omega,by rw[<- f];grind⟩⟩
  .obtain⟨M,rfl⟩:∃K,M=K+1:=⟨M-1,by omega⟩;rw[J9,LX,Gb (by grind),Fg rfl]
  obtain⟨M,rfl⟩:∃K,M=K+1:=⟨M-1,by omega⟩;rw[J9,NT,Gb (by grind)]
 |succ m ih=>
  intro i w w' c hw q hm;by_cases a:i<laws.n
  case neg=>
   refine .inl ⟨[],w',c,hw,λM d=>?_,λM x2 d hx f=>⟨x2,?_,by omega,by rw[<- f];grind⟩⟩
   .obtain⟨M,rfl⟩:∃K,M=K+1:=⟨M-1,by omega⟩;rw[J9,LX,Gb (by grind),Fg rfl]
   obtain⟨M,rfl⟩:∃K,M=K+1:=⟨M-1,by omega⟩;rw[J9,NT,Gb (by grind)]
  obtain⟨v,v',e,h1,l,r⟩:=Bc9 o (hl i a) (j.2 i a) c hw;rcases r with rfl|⟨rfl,s,t⟩
  .refine .inr ⟨⟨[],λM d=>?_⟩,λM x2 d hx f=>?_⟩
   .obtain⟨M,rfl⟩:∃K,M=K+1:=⟨M-1,by omega⟩;rw[J9,J9,GE a b h1,GE a b h1]
    grind
   obtain⟨M,rfl⟩:∃K,M=K+1:=⟨M-1,by omega⟩;rw[J9,NT,Fg (by grind),Dl,BS9,f,l,BT1,Fg (by simp)]
  rcases ih (i+1) v v' s t (by omega) (by omega)with⟨L,u,g1,g2,g3,g4⟩ | ⟨⟨L,g1⟩,g2⟩
  .refine .inl ⟨((i+1:Nat),v)::L,u,g1,g2,λM d=>?_,λM x2 d hx f=>?_⟩
   .obtain⟨M,rfl⟩:∃K,M=K+1:=⟨M-1,by omega⟩;rw[J9,GE a b h1,Fc]
    grind[Dk,Y4,LX]
   obtain⟨M,rfl⟩:∃K,M=K+1:=⟨M-1,by omega⟩;rw[J9,NT,Fg (by grind),Dl,BS9,f,l,BT1,Fc,Fg (by grind),By]
   simp_all
  refine .inr ⟨⟨((i+1:Nat),v)::L,λM d=>?_⟩,λM x2 d hx f=>?_⟩
  .obtain⟨M,rfl⟩:∃K,M=K+1:=⟨M-1,by omega⟩;obtain⟨a1,a2⟩:=g1 M (by omega);rw[J9,J9,GE a b h1,GE a b h1,Fc,Fc]
   grind[Dk,Y4,LX]
  obtain⟨M,rfl⟩:∃K,M=K+1:=⟨M-1,by omega⟩;rw[J9,NT,Fg (by grind),Dl,BS9,f,l,BT1,Fc,Fg (by grind),By]
  grind
def Bq9 {w:Sl Qb}(d:w.n<N)(hs:w.n<10000000):∃y,FA N w=some y/\SE w y:=by
 suffices h:∃y,FA N w=some y/\y=Fr w.g w.n by obtain⟨y,h,rfl⟩:=h;exact⟨_,h,(OP _ _).symm,λi b=>(Av8 w.g b).symm⟩
 unfold FA;refine W4 (λi x1 x2=>x2=(i:Int)/\x1=Fr w.g i) w.n _ d ⟨rfl,rfl⟩ ?_;rintro c i x1 x2 b ⟨rfl,rfl⟩ a;by_cases hl:i<w.n
 .have:=OP w.g i
  refine ifT (by grind) (ifT (by grind) (a hl _ _ ⟨By,by rw[BS9];rfl⟩))
 grind
def AN8 (g:3000000<=N){laws:Sl Law}(hl:VZ laws)(d:PQ N laws){w:Sl Qb}(b:wOk w) :∃v v' e,U6 N laws w=some (v,e)/\EO N laws w=some (v',e)/\(e=11 \/ e=0/\SE v v' /\ wOk v):=by
 have m:=d.1;obtain⟨e,e3,o⟩:=NV (N:=N) (by omega) (vOk b).2;obtain rfl:=(GC o).2 b;obtain⟨e',e4,j⟩:=HN (N:=N) (by omega) (vOk b).2;obtain rfl:=(GC j).2 b;have e1:Ap N laws (Sl.of [w]:Sl (Sl Qb))=some 0:=by
  suffices h:∃y,Ap N laws (Sl.of [w]:Sl (Sl Qb))=some y/\y=0 by grind
  unfold Ap;refine C0 (Ah0 g hl d).1 (Bk (ifF (by grind) ?_));refine Y6 (λi x1=>x1=(i:Int)) 1 _ (by omega) rfl ?_;rintro l i x1 s rfl hs;by_cases q:i<1
  .obtain rfl:i=0:=by omega
   exact ifT (by grind) (ifT (by grind) (C0 e3 (Bk (hs (by omega) _ rfl))))
  grind
 have r:=b.1;obtain⟨y4,c1,c2⟩:=Bq9 (N:=N) (w:=w) (by omega) (by omega);have f:∀c,K7 N c laws w=(Dk (0,w) (Y4 N (LX N c laws) w ((0:Nat):Int))).bind λL1=>T9 L1 (λ(a:Sl Qb->Option (Sl Qb)) (x1:Int×(Sl Qb)) (z1:Sl Qb)=>a x1.2) (λ(z1:Sl Qb)=>some z1) Oy:=by intro c;unfold K7 Em Ct B2;rw[BT1,Fg (by grind),BT1];rfl
 unfold U6 EO IB Cu;rw[e1,(Ah0 g hl d).2,BT1,BT1,lt,Fg (show ((0:Int)==0)=true from rfl),e4,BT1];dsimp only;rw[Gb (by grind),Gb (by grind),c1,BT1,f,f];rcases Bd0 g hl d laws.n 0 w y4 c2 b (by omega) (by omega)with⟨L,v',g1,g2,g3,g4⟩ | ⟨⟨L,g1⟩,g2⟩
 .obtain⟨y,d1,d2,d3⟩:=g4 N (Sl.of [y4]:Sl (Sl Qb)) (by omega) rfl rfl;rw[g3 N (by omega)]
  have:(Dk (0,w) (some L)).bind (λL1=>T9 L1 (λ(a:Sl Qb->Option (Sl Qb)) (x1:Int×(Sl Qb)) (z1:Sl Qb)=>a x1.2) (λ(z1:Sl Qb)=>some z1) Oy)=some (AN7 w L):=Yl _ _
  rw[this];refine⟨_,v',0,rfl,?_,by grind⟩;show Option.bind (Y4 N (NT N laws) (Sl.of [y4]:Sl (Sl Qb)) ((0:Nat):Int)) _=_;rw[d1,BT1,Fc];have ew:wrap .i64 ((y.n:Int)-1)=((laws.n:Nat):Int):=by rw[d2,Qf];omega
  grind
 obtain⟨g3,g4⟩:=g1 N (by omega);rw[g3,g4]
 have:(Dk (0,w) (some L)).bind (λL1=>T9 L1 (λ(a:Sl Qb->Option (Sl Qb)) (x1:Int×(Sl Qb)) (z1:Sl Qb)=>a x1.2) (λ(z1:Sl Qb)=>some z1) Oy)=some (AN7 w L):=Yl _ _
 rw[this];refine⟨_,Oy,11,rfl,?_,.inl rfl⟩
 grind
def pk (h:Sv)(l:Sl Int):Nat->Sl Law
 |0=>Sl.nil
 |i+1=>(pk h l i).push (h.Laws.g (l.g i).toNat)
theorem BI2 (h:Sv)(l:Sl Int):∀i,(pk h l i).n=i
 |0=>rfl
 |i+1=>congrArg (· + 1) (BI2 h l i)
def pk_g (h:Sv)(l:Sl Int):∀{m i:Nat},i<m->(pk h l m).g i=h.Laws.g (l.g i).toNat
 |m+1,i,hi=>by
  show (if i<(pk h l m).n then (pk h l m).g i else _)=_;rw[BI2];split
  .exact pk_g h l (by omega)
  grind
def lw (h:Sv)(v:Nat):Sl Law:=pk h (T7 h v) (T7 h v).n
def Aw1 {N:Nat}{h:Sv}(a:PS N h):∀(m v:Nat),v<=m->v<h.Tree.n->∀i,i<(T7 h v).n->0<=(T7 h v).g i/\(T7 h v).g i<h.Laws.n
 |m,v,hm,hv,i,b=>by
  have Ai7:=(on_ok a hv).2;rcases Cq a.tree hv with⟨_,e⟩ | ⟨p,hp,e⟩
  .rw[FG (by omega)]at b⊢;have b:i<0+(h.On.g v).n:=b
   grind
  rw[KM e hp]at b⊢;have b:i<(T7 h p).n+(h.On.g v).n:=b;show 0<=(if i<(T7 h p).n then (T7 h p).g i else (h.On.g v).g (i-(T7 h p).n))/\(if i<(T7 h p).n then (T7 h p).g i else (h.On.g v).g (i-(T7 h p).n))<_;split
  .match m with
   |0=>omega
   |m+1=>exact Aw1 a m p (by omega) (by omega) i (by omega)
  grind
def BQ8 {h:Sv}(d:GD h)(a:PS N h){v:Nat}(l:v<h.Tree.n):(T7 h v).n<=64/\VZ (lw h v)/\PQ N (lw h v):=by
 have b:(T7 h v).n<=64:=Ci2 λf=>a.long ⟨v,by rw[a.on];omega,f⟩;have e:∀i,i<(lw h v).n->∃j,j<h.Laws.n/\(lw h v).g i=h.Laws.g j:=λi hl=>by
  have hl:i<(T7 h v).n:=by rw[<- BI2 h (T7 h v) (T7 h v).n];exact hl
  have:=Aw1 a v v (BT8 _) l i hl
  exact⟨_,by omega,pk_g h _ hl⟩
 refine⟨b,λi hl=>?_,by grind[lw,BI2],λi hl=>?_⟩
 .obtain⟨j,c,e⟩:=e i hl;rw[e];exact d.laws j c
 obtain⟨j,c,e⟩:=e i hl;rw[e];exact a.laws.2 j c
def Bd1 (t:Sl Node)(v:Nat):List Nat:= if hp:0<=(t.g v).Sx/\(t.g v).Sx<v then Bd1 t (t.g v).Sx.toNat++[v]else [v]
termination_by v
decreasing_by omega
def Tq {t:Sl Node}{v:Nat}(a:(t.g v).Sx<0):Bd1 t v=[v]:=by rw[Bd1,dif_neg (by omega)]
theorem Aw2 {t:Sl Node}{v p:Nat}(a:(t.g v).Sx=(p:Int))(hp:p<v):Bd1 t v=Bd1 t p++[v]:=by rw[Bd1,dif_pos (by omega),a,BS9]
def Bd2 {t:Sl Node}(ht:Dc t):∀(m v:Nat),v<=m->v<t.n->(Bd1 t v).length<=v+1/\∀x∈Bd1 t v,x<=v
 |m,v,hm,hv=>by
  rcases Cq ht hv with⟨_,e⟩ | ⟨p,hp,e⟩
  .rw[Tq (by omega)]
   grind
  rw[Aw2 e hp]
  match m with
  |0=>omega
  |m+1=>
   obtain⟨h1,a⟩:=Bd2 ht m p (by omega) (by omega)
   grind
theorem Bd3 {α : Type}(s:Sl α)(a : α):(s.push a).toList=s.toList++[a]:=by
 unfold Sl.toList;show (List.range (s.n+1)).map (λi=>if i<s.n then s.g i else a)=_;rw[Ca6,Cc4]
 simp_all
def Br0 {α : Type}{x:Sl α}{m:Nat}(h:x.n=m+1):x.toList.reverse=x.g m::(x.take m).toList.reverse:=by
 grind[Sl.toList,List.range_succ,List.reverse_append]
def AD6 {x2:Sl Int}(hx:x2.n<100000):∀(k M:Nat),k<=x2.n->k<M->O7 M (λ(a:Int->Option (List Int)) (x3:Int)=>
 if (decide (0<=x3)) then
  if (((0:Int)<=x3/\x3<(x2.n:Int))/\x3.toNat<x2.n)then
   Dk (x2.g x3.toNat) (
    a (wrap .i64 (x3-1))
    )
  else none
 else
  some []
 ) ((k:Int)-1)=some (x2.take k).toList.reverse
 |0,M,hk,hM=>by obtain⟨M,rfl⟩:∃K,M=K+1:=⟨M-1,by omega⟩;rw[BQ,Fc];rfl
 |k+1,M,hk,hM=>by obtain⟨M,rfl⟩:∃K,M=K+1:=⟨M-1,by omega⟩;rw[show ((k+1:Nat):Int)-1=(k:Int) by omega,BQ,Fg (by simp),Dl,Qf,AD6 hx k M (by omega) (by omega),BS9,Br0 (x:=x2.take (k+1)) (m:=k) rfl];rfl
def BF9 (j:3000000<=N){t:Sl Node}(ht:Dc t){v:Nat}(f:v<t.n):Y0 N (v:Int) t=some ((Bd1 t v).map λ(x:Nat)=>(x:Int)):=by
 have i:=ht.2.1;have key:∀(m c:Nat) (x2:Sl Int) (M:Nat),c<m->c<t.n->m+1<M->x2.n+c<=1000->∃y:Sl Int,y.n<=1001/\y.toList.reverse=((Bd1 t c).map λ(x:Nat)=>(x:Int))++x2.toList.reverse /\
  Y4 M (λ(a:Int->Sl Int->Option (List Int)) (x1:Int) (x2:Sl Int)=>
  if (decide (0<=x1)) then
   if ((Qd 8 (x2.n+(Sl.of [x1]:Sl Int).n))/\((0:Int)<=x1/\x1<(t.n:Int)))then
    a (t.g x1.toNat).Sx (x2.push x1)
   else none
  else
   O7 N (λb (x3:Int)=>
    if (decide (0<=x3)) then
     if (((0:Int)<=x3/\x3<(x2.n:Int))/\x3.toNat<x2.n)then
      Dk (x2.g x3.toNat) (
       b (wrap .i64 (x3-1))
       )
     else none
    else
     some []
    ) (wrap .i64 ((x2.n:Int)-1))
  ) (c:Int) x2=some y.toList.reverse:=by
  intro m
  induction m with
  |zero=>omega
  |succ m ih=>
   intro c x2 M hc d l hx;obtain⟨M,rfl⟩:∃K,M=K+1:=⟨M-1,by omega⟩;rw[J9,Fg (by simp),Fg (by grind),BS9];rcases Cq ht d with⟨_,e⟩ | ⟨p,hp,e⟩
   .obtain⟨M,rfl⟩:∃K,M=K+1:=⟨M-1,by omega⟩;refine⟨x2.push (c:Int),by grind,by rw[Bd3,Cb2,Tq (by omega)];rfl,?_⟩;rw[e,J9,Gb (by decide)];have hb:=AD6 (x2:=x2.push (c:Int)) (by grind) (x2.n+1) N (BT8 _) (by omega);rw[G4 (by omega) (by grind)];omega
   obtain⟨y,y1,y2,y3⟩:=ih p (x2.push (c:Int)) M (by omega) (by omega) (by omega) (by grind)
   grind[Bd3,List.reverse_append,Aw2,List.append_assoc]
 obtain⟨y,_,y2,y3⟩:=key (v+1) v Ox N (by omega) f (by omega) (by grind);unfold Y0;rw[y3,y2];show some (_++[])=_;rw[BV8]
def BG0 (h:Sv)(L:List Nat)(z:Sl Int):Sl Int:=L.foldl (λz x=>z.app (h.On.g x)) z
def Ah1 {h:Sv}(ht:Dc h.Tree):∀(m v:Nat),v<=m->v<h.Tree.n->BG0 h (Bd1 h.Tree v) Ox=T7 h v
 |m,v,hm,hv=>by
  rcases Cq ht hv with⟨_,e⟩ | ⟨p,hp,e⟩
  .rw[Tq (by omega),FG (by omega)];rfl
  rw[Aw2 e hp,KM e hp]
  match m with
  |0=>omega
  |m+1=>
   have:=Ah1 ht m p (by omega) (by omega)
   grind[BG0]
def Ah2 {h:Sv}(c:GD h):∀(L:List Nat) (z:Sl Int),(∀x∈L,x<h.On.n)->z.n+L.length*1100000<=10000000000 ->
 T9 (L.map λ(x:Nat)=>(x:Int)) (λ(a:Sl Int->Option ((Sl Int)×Int)) (x1:Int) (z1:Sl Int)=>
  if (((0:Int)<=x1/\x1<(h.On.n:Int))/\(Qd 8 (z1.n+(h.On.g x1.toNat).n)))then
   a (z1.app (h.On.g x1.toNat))
  else none
  ) (λ(z1:Sl Int)=>
   some (z1,0)
  ) z=some (BG0 h L z,0)
 |[],z,_,_=>rfl
 |x::L,z,hx,hz=>by have b:=hx x (by simp);have hl:=c.len x b;simp only[BW3,Cf0]at hz;rw[BU9,T9,BS9,Dl];exact Ah2 c L _ (by grind) (by grind)
def AD7 (g:3000000<=N){h:Sv}(c:GD h)(a:PS N h){v:Nat}(d:v<h.Tree.n):Cj N h (v:Int)=some (lw h v,0)/\HL N h (v:Int)=some (lw h v,0):=by
 have hb:¬(!((decide (0<=(v:Int)))&&(decide ((v:Int)<(h.Tree.n:Int)))))=true:=by grind
 have j:=a.on;have m:=a.tree.2.1;obtain⟨h1,q⟩:=Bd2 a.tree v v (BT8 _) d;obtain⟨o,_,_⟩:=BQ8 c a d;have hl:=Aw1 a v v (BT8 _) d;have e1:Cg N h (v:Int)=some (T7 h v,0):=by unfold Cg;rw[Wa g c,hres_zero.2 a,BT1,Gb (by decide),Cf,BT1,Gb hb,Fo,BT1];show (Y0 N (v:Int) h.Tree).bind _=_;rw[BF9 g a.tree d,BT1,Ah2 c _ _ (by grind) (by grind),Ah1 a.tree v v (BT8 _) d]
 have e2:HK N h (v:Int)=some (T7 h v,0):=by unfold HK;rw[NX g c,hres_zero.2 a,BT1,Gb (by decide),Fz,BT1,Gb hb,Th c a.tree j N v (by omega) d];rfl
 unfold Cj HL;rw[e1,e2,BT1,BT1];constructor
 .have:Ci N h (T7 h v)=some (lw h v):=by
   refine eqR ?_;unfold Ci;refine W4 (λi x1 x2=>x2=(i:Int)/\x1=pk h (T7 h v) i) (T7 h v).n _ (by omega) ⟨rfl,rfl⟩ ?_;rintro f i x1 x2 l ⟨rfl,rfl⟩ hs;simp only[BS9];have hn:=BI2 h (T7 h v) i;by_cases b:i<(T7 h v).n
   .have:=hl i b
    exact ifT (by grind) (Ab (C0 (Bb0 g (c.laws _ (by omega)) (a.laws.2 _ (by omega))) (ifT (by grind) (hs b _ _ ⟨By,rfl⟩))))
   exact ifF (by grind) ⟨_,rfl,by rw[show i=(T7 h v).n by omega];rfl⟩
  grind
 refine eqR (W4 (λi x1 x2=>x2=(i:Int)/\x1=pk h (T7 h v) i) (T7 h v).n _ (by omega) ⟨rfl,rfl⟩ ?_);rintro f i x1 x2 l ⟨rfl,rfl⟩ hs;simp only[BS9];have hn:=BI2 h (T7 h v) i;by_cases b:i<(T7 h v).n
 .have:=hl i b
  exact ifT (by grind) (Ab (ifT (by grind) (hs b _ _ ⟨By,rfl⟩)))
 exact ifF (by grind) ⟨_,rfl,by rw[show i=(T7 h v).n by omega];rfl⟩
def sEq (x y:Qb):((x.Plus==y.Plus)&&(x.Minus==y.Minus))=decide (x=y):=by cases x;cases y;rw[BV2];simp
def Bd4 {x y:Sl Qb}(f:x.n<N)(hs:x.n<10000000) :∃b,(if ((x.n:Int) != (y.n:Int)) then
 some false
 else
  O7 N (λ(a:Int->Option Bool) (x1:Int)=>
   if (decide (x1<(x.n:Int))) then
    if (((0:Int)<=x1/\x1<(x.n:Int))/\((0:Int)<=x1/\x1<(y.n:Int)))then
     if ((((x.g x1.toNat).Plus==(y.g x1.toNat).Plus)&&((x.g x1.toNat).Minus==(y.g x1.toNat).Minus)) != true) then
      some false
     else
      a (wrap .i64 (x1+1))
    else none
   else
    some true
   ) 0)=some b/\(b=true↔SE x y):=by
 by_cases hn:x.n=y.n
 case neg=>exact ifT (by grind) ⟨false,rfl,by simp,λh=>Hc h.1 hn⟩
 refine ifF (by grind) ?_;refine Y6 (λi x1=>x1=(i:Int)/\∀j,j<i->x.g j=y.g j) x.n _ f (by grind) ?_;rintro d i x1 l ⟨rfl,h⟩ c;by_cases hl:i<x.n
 .refine ifT (by grind) (Ab ?_);rw[BS9,sEq];by_cases e:x.g i=y.g i
  .refine ifF (by grind) (c hl _ ⟨By,λj m=>?_⟩)
   grind
  exact ifT (by grind) ⟨false,rfl,by simp,λh=>Hc (h.2 i hl) e⟩
 exact ifF (by grind) ⟨true,rfl,λ_=>⟨hn,by grind⟩,λ_=>rfl⟩
def BG1 {x y:Sl Qb}(a:x.n<N)(hs:x.n<10000000):∃b,AK N x y=some b/\(b=true↔SE x y):=by
 obtain⟨b,h,hb⟩:=Bd4 (N:=N) (x:=x) (y:=y) a hs
 grind[AK,G6]
def BG2 {x y:Sl Qb}(a:x.n<N)(hs:x.n<10000000):∃b,Gu N x y=some b/\(b=true↔SE x y):=Bd4 a hs
def cn (P:Nat->Bool):Nat->Nat
 |0=>0
 |k+1=>cn P k+if P k then 1 else 0
def BG3 (P:Nat->Bool):∀k,cn P k<=k
 |0=>BT8 0
 |k+1=>by
  have:=BG3 P k
  grind[cn]
def Bd5 (i:3000000<=N){h:Sv}(j:GD h)(a:PS N h){u:Nat}(l:u<h.Tree.n){w:Sl Qb}(hw:wOk w){f:K0}(o:f.Has=true) :∃b q,I5 N (lw h u) ⟨true,w⟩ f=some b/\KL N h w (u:Int)=some q/\(lt (λz1:Bool=>some z1) λk1=>if (q.2==0) then (Gu N q.1 f.W).bind λy4=>k1 y4 else k1 false)=some b:=by
 obtain⟨_,l1,l2⟩:=BQ8 j a l;obtain⟨v,v',e,d1,d2,d3⟩:=AN8 i l1 l2 hw;obtain⟨e',e4,c⟩:=HN (N:=N) (by omega) (vOk hw).2;obtain rfl:=(GC c).2 hw;have hb:¬(!((decide (0<=(u:Int)))&&(decide ((u:Int)<(h.Tree.n:Int)))))=true:=by grind
 have d:KL N h w (u:Int)=some (v',e):=by
  have m:HM N h w=some 0:=by
   simp_all[HM,NX,hres_zero,BT1,Gb]
  simp_all[KL,QF,BT1,Gb,Fz,AD7]
 have hp:I5 N (lw h u) ⟨true,w⟩ f=lt (λz1:Bool=>some z1) λk1=>if (e==0) then (AK N v f.W).bind λy3=>k1 y3 else k1 false:=by
  simp_all[I5,Gb,U6,lw,bind]
 rw[hp];rcases d3 with rfl|⟨rfl,d4,d5⟩
 .exact⟨false,_,rfl,d,rfl⟩
 have r:=d5.1;have s:=d4.1;obtain⟨b,b1,b2⟩:=BG1 (N:=N) (x:=v) (y:=f.W) (by omega) (by omega);obtain⟨b',b3,b4⟩:=BG2 (N:=N) (x:=v') (y:=f.W) (by omega) (by omega);obtain rfl:b' = b:=by rw[BV2,b2,b4];exact⟨λg=>d4.trans g,λg=>d4.symm.trans g⟩
 refine⟨b',_,?_,d,?_⟩
 .rw[b1];rfl
 dsimp only;rw[b3];rfl
def Br1 (c:3000000<=N){h:Sv}(d:GD h)(a:PS N h):∃X,T0 N h=some X/\X.n=(Q5 h.Tree h.Tree.n).n/\∀k,k<X.n->X.g k=lw h ((Q5 h.Tree h.Tree.n).g k).toNat:=by
 have j:=Tk a.tree;unfold T0;rw[(NZ c d.tree a.tree).1,BT1];refine W4 (λi (x1:Sl (Sl Law)) x2=>x2=(i:Int)/\x1.n=i/\∀k,k<i->x1.g k=lw h ((Q5 h.Tree h.Tree.n).g k).toNat) (Q5 h.Tree h.Tree.n).n _ (by omega) (by grind) ?_;rintro f i x1 x2 l ⟨rfl,hn,o⟩ hs;simp only[BS9];by_cases b:i<(Q5 h.Tree h.Tree.n).n
 .obtain⟨v,m,e⟩:=Tj h.Tree h.Tree.n i b;refine ifT (by grind) (Ab (C0 (by rw[e];exact (AD7 c d a m).1) (ifT (by grind) (hs b _ _ ⟨By,by grind,λk hk=>?_⟩))))
  grind
 grind
noncomputable def bd (N:Nat) (p:B4) (n:Nat) (w:Sl Qb) (k:Nat):Bool:=((p.Sz.g n).Ua.g k).Has && !(I5 N (lw p.Sv ((Q5 p.Sv.Tree p.Sv.Tree.n).g k).toNat) ⟨true,w⟩ ((p.Sz.g n).Ua.g k)==some true)
def Ah3 (i:3000000<=N){p:B4}(j:GD p.Sv)(ha:BE0 N p.Sv p.Sg p.Sz){n:Nat}(hn:n<p.Sz.n){w:Sl Qb}(hw:wOk w) :Ef N p (n:Int) w=some (cn (bd N p n w) (Q5 p.Sv.Tree p.Sv.Tree.n).n:Int):=by
 have l:=Tk ha.hist.tree;have t:=ha.fn n hn;have m:=ha.pn;have o:=ha.n;refine eqR ?_;unfold Ef;refine ifT (by grind) (ifT (by grind) ?_);refine W4 (λk x2 x3=>x3=(k:Int)/\x2=(cn (bd N p n w) k:Int)) (Q5 p.Sv.Tree p.Sv.Tree.n).n _ (by omega) ⟨rfl,rfl⟩ ?_;rintro a k x2 x3 hk ⟨rfl,rfl⟩ hs;simp only[BS9];have hc:=BG3 (bd N p n w) k;refine Ab ?_;by_cases c:k<(Q5 p.Sv.Tree p.Sv.Tree.n).n
 .refine ifT (by grind) (Ab (ltX ?_));have fin:∃r,(if bd N p n w k then a (wrap .i64 ((cn (bd N p n w) k:Int)+1)) (wrap .i64 ((k:Int)+1))else a (cn (bd N p n w) k:Int) (wrap .i64 ((k:Int)+1)))=some r/\r=(cn (bd N p n w) (Q5 p.Sv.Tree p.Sv.Tree.n).n:Int):=by
   by_cases hb:bd N p n w k=true
   .exact ifT hb (hs c _ _ ⟨By,by rw[By,cn,Fg hb]⟩)
   exact ifF hb (hs c _ _ ⟨By,by rw[cn,Gb hb];rfl⟩)
  by_cases f:((p.Sz.g n).Ua.g k).Has=true
  .obtain⟨v,s,e⟩:=Tj p.Sv.Tree p.Sv.Tree.n k c;obtain⟨b,q,b1,b2,b3⟩:=Bd5 i j ha.hist s hw f;have d:bd N p n w k = !b:=by
    grind[bd,Int.toNat_natCast]
   rw[d]at fin;refine ifT f (C0 (x:=b) ?_ fin);have e0:(((Sl.of []:Sl K0).app p.Sg).upd n (⟨true,w⟩:K0)).g n=⟨true,w⟩:=Fg rfl;refine eqR ?_;unfold Fq;simp only[BS9];refine Ab (ifF (by grind) (C0 (NZ i j.tree ha.hist.tree).2 (by grind)))
  have d:bd N p n w k=false:=by unfold bd;rw[Bool.eq_false_iff.2 f];rfl
  rw[d]at fin
  grind
 grind
def am (G:Nat->Int):Nat->Nat
 |0=>0
 |j+1=>if G j<G (am G j)then j else am G j
def BQ9 (G:Nat->Int):∀j,am G j<=j
 |0=>BT8 0
 |j+1=>by
  have:=BQ9 G j
  grind[am]
def am1 (G:Nat->Int):am G 1=0:=by simp[am]
noncomputable def co (N:Nat) (p:B4) (n:Nat) (c:Int) (w:Sl Qb) (k:Nat):Int:=(cn (bd N p n w) k:Int)*c
def BR0 {p:B4}{n:Nat}{c:Int}{w:Sl Qb}(hc:0<=c/\c<=1073741824){k:Nat}(hk:k<=63):0<=co N p n c w k/\co N p n c w k<=70000000000:=by have h:=BG3 (bd N p n w) k;refine⟨Int.mul_nonneg (by omega) hc.1,?_⟩;have h1:co N p n c w k<=63*c:=Int.mul_le_mul_of_nonneg_right (by omega) hc.1;omega
def wL (N:Nat)(cands:Sl (Sl Qb))(chk:Sl Qb->Option Int)(K:Option (Int×Int)):Option (Int×Int):=O7 N (λa (x1:Int)=>if (decide (x1<(cands.n:Int))) then if ((0:Int)<=x1/\x1<(cands.n:Int))then (chk (cands.g x1.toNat)).bind λy4=>if (y4 != 0) then some (0,y4) else a (wrap .i64 (x1+1)) else none else K) 0
def wboth {cands:Sl (Sl Qb)}(hn:cands.n<N)(j:cands.n<=300){chk chk' : Sl Qb->Option Int}(hc:∀i,i<cands.n->chk (cands.g i)=some (wE N (cands.g i))/\chk' (cands.g i)=some (wE N (cands.g i))){K K' : Option (Int×Int)}(h:(∀i,i<cands.n->wE N (cands.g i)=0)->∃r,K=some r/\K' = some r) :∃r,wL N cands chk K=some r/\wL N cands chk' K' = some r:=by
 generalize l:(λi=>wE N (cands.g i))=f;have a:∀i,wE N (cands.g i)=f i:=(by grind);simp only[a]at hc h;have key:∀{r:Int×Int}{chk:Sl Qb->Option Int}{K:Option (Int×Int)},(∀i,i<cands.n->chk (cands.g i)=some (f i))->(DE f cands.n=0->K=some r)->(DE f cands.n≠0->r=(0,DE f cands.n))->wL N cands chk K=some r:=by
  intro r chk K hc m o;refine eqR (Y6 (λi x=>x=(i:Int)/\DE f i=0) cands.n _ hn ⟨rfl,rfl⟩ ?_);rintro c i x q ⟨rfl,d⟩ hs;simp only[BS9];by_cases hl:i<cands.n
  .refine ifT (by grind) (Ab (C0 (hc i hl) ?_));have e:DE f (i+1)=f i:=Kr d;by_cases s:f i=0
   .exact ifF (by grind) (hs hl _ ⟨By,by rw[e];omega⟩)
   have b:DE f (i+1)≠0:=by rw[e];omega
   have e2:=EP b cands.n hl
   grind
  grind
 by_cases d:DE f cands.n=0
 .grind[Cr,Hc]
 simp_all
def AN9 (o:3000000<=N){p:B4}(hp:Yi p){cands:Sl (Sl Qb)}(hc:∀i,i<cands.n->okA (cands.g i))(h3:cands.n<=300)(entry price:Int):∃r,Bt N p cands entry price=some r/\GB N p cands entry price=some r:=by
 unfold Bt GB Dw IC;rw[pChk o hp,rChk o hp,BT1];by_cases c:Av3 N p=0
 case neg=>
  have hb:(Av3 N p != 0)=true:=by grind
  rw[Fg hb,BT1,BT1,Fg hb,Fg hb]
  grind
 have ha:BE0 N p.Sv p.Sg p.Sz:=by
  unfold Av3 at c;split at c
  .omega
  split at c
  .omega
  exact (BE1 (by omega) hp.pro hp.ent).1 c
 rw[c,Gb (by grind)];by_cases t:0<=price/\price<=1073741824
 case neg=>rw[Fg (by grind)];simp
 rw[Gb (by grind),BT1,BT1,Gb (by grind),Gb (show ¬((0:Int) != 0)=true by decide)];by_cases h256:256<cands.n
 .rw[Fg (by grind),Fg (by grind)]
  grind
 have u:¬decide ((256:Int)<(cands.n:Int))=true:=by grind
 rw[Gb u,Gb u];refine wboth (by omega) h3 (λi hi=>Ag2 (by omega) (hc i hi)) λs=>?_;by_cases hen:0<=entry/\entry<p.Sz.n
 case neg=>
  have y:((decide (entry<0))||(decide ((p.Sz.n:Int)<=entry)))=true:=by grind
  rw[Fg y,Fg y]
  grind
 have y:¬((decide (entry<0))||(decide ((p.Sz.n:Int)<=entry)))=true:=by grind
 rw[Gb y,Gb y];by_cases hz:cands.n=0
 .rw[Fg (by grind),Fg (by grind)]
  grind
 rw[Gb (by grind),Gb (by grind)];obtain⟨n,rfl⟩:∃n:Nat,entry=(n:Int):=⟨entry.toNat,by omega⟩;have d:∀i,i<cands.n->wOk (cands.g i):=λi hi=>(Tl (N:=N) (by omega) (hc i hi)).1 (s i hi);obtain⟨X,x1,x2,x3⟩:=Br1 o hp.hist ha.hist;rw[x1,BT1];have h63:=Tk ha.hist.tree;have hn:n<p.Sz.n:=by omega
 have hF:=ha.fn n hn;generalize hG:(λi=>co N p n price (cands.g i) (Q5 p.Sv.Tree p.Sv.Tree.n).n)=G;refine⟨((am G cands.n:Int),0),?_,?_⟩
 .refine eqR (At6 (λj (x8 x9 z:Int)=>z=(j:Int)/\x8=(am G j:Int)/\(0<j->x9=G (am G j))) cands.n _ (by omega) ⟨rfl,rfl,by omega⟩ ?_);rintro self5 j x8 x9 z hj ⟨rfl,rfl,h9⟩ f;simp only[BS9];by_cases a:j<cands.n
  case neg=>
   grind
  refine ifT (by grind) (Ab ?_);refine W4 (λk (a0 a1:Int)=>a1=(k:Int)/\a0=co N p n price (cands.g j) k) (Q5 p.Sv.Tree p.Sv.Tree.n).n _ (by omega) ⟨rfl,by simp[co,cn]⟩ ?_;rintro l k a0 a1 hk ⟨rfl,rfl⟩ a2;simp only[BS9];by_cases m:k<(Q5 p.Sv.Tree p.Sv.Tree.n).n
  .refine ifT (by grind) (Ab ?_);have hb1:=BR0 (N:=N) (p:=p) (n:=n) (w:=cands.g j) t (k:=k) (by omega);have same:bd N p n (cands.g j) k=false->∃r,l (co N p n price (cands.g j) k) (wrap .i64 ((k:Int)+1))=some r/\_:=λh=>a2 m _ _ ⟨By,by grind[co,cn]⟩;by_cases s:((p.Sz.g n).Ua.g k).Has=true
   .obtain⟨v,hv,e⟩:=Tj p.Sv.Tree p.Sv.Tree.n k m;obtain⟨b,q,b1,_,_⟩:=Bd5 o hp.hist ha.hist hv (d j a) s;have hbd:bd N p n (cands.g j) k = !b:=by
     grind[bd,Int.toNat_natCast]
    refine ifT s (Ab (C0 (x:=b) (by rw[x3 k (by omega),e];grind) ?_));cases b
    .refine ifT rfl (a2 m _ _ ⟨By,?_⟩);have e2:co N p n price (cands.g j) (k+1)=co N p n price (cands.g j) k+price:=by
      simp_all[co,cn,bd,Int.natCast_add,Int.add_mul]
     rw[e2,Qf]
    grind
   exact ifF s (same (by unfold bd;rw[Bool.eq_false_iff.2 s];rfl))
  obtain rfl:k=(Q5 p.Sv.Tree p.Sv.Tree.n).n:=by omega
  refine ifF (by grind) ?_;have hGj:co N p n price (cands.g j) (Q5 p.Sv.Tree p.Sv.Tree.n).n=G j:=by rw[<- hG]
  rw[hGj];by_cases c:j=0
  .subst c;exact Ad (f a _ _ _ ⟨rfl,by rw[am1],λ_=>by rw[am1]⟩)
  have h9:=h9 (by omega);by_cases hb:G j<x9
  .exact ifT (by grind) (f a _ _ _ ⟨By,by rw[am,Dl],λ_=>by rw[am,Dl]⟩)
  exact ifF (by grind) (f a _ _ _ ⟨By,by rw[am,Dm],λ_=>by rw[am,Dm];omega⟩)
 have hw:∀i,wrap .i64 ((cn (bd N p n (cands.g i)) (Q5 p.Sv.Tree p.Sv.Tree.n).n:Int)*price)=G i:=λi=>by
  have:=BR0 (N:=N) (p:=p) (n:=n) (w:=cands.g i) t h63
  grind[co,G4]
 refine eqR (W4 (λj (x3 x4:Int)=>x4=(j:Int)/\x3=(am G j:Int)) cands.n _ (by omega) ⟨rfl,rfl⟩ ?_);rintro self j x3 x4 hj ⟨rfl,rfl⟩ hs;simp only[BS9];have ha2:=BQ9 G j;by_cases a:j<cands.n
 .refine ifT (by grind) (Ab (C0 (Ah3 o hp.hist ha hn (d j a)) (Ab (C0 (Ah3 o hp.hist ha hn (d _ (by omega))) ?_))));rw[hw,hw];by_cases hb:G j<G (am G j)
  .exact ifT (by grind) (hs a _ _ ⟨By,by rw[am,Fg hb]⟩)
  exact ifF (by grind) (hs a _ _ ⟨By,by rw[am,Gb hb]⟩)
 grind
def ifE {R:Type}{Q:R->Prop}{p:Prop}[Decidable p]{a b:Option R}(h1:p->∃r,a=some r/\Q r)(c:¬p->∃r,b=some r/\Q r):∃r,(if p then a else b)=some r/\Q r:=by
 split
 all_goals grind
def ltP {R A:Type}{Q:R->Prop}(P:A->Prop){K:A->Option R}{f:(A->Option R)->Option R}(a:∀z,P z->∃r,K z=some r/\Q r)(b:∀k:A->Option R,(∀z,P z->∃r,k z=some r/\Q r)->∃r,f k=some r/\Q r):∃r,lt K f=some r/\Q r:=b K a
def Bd6 {l:Sl K0}(hl:l.n<N)(c:l.n<1000000000):∃b,HH N l=some b/\True:=by
 unfold HH;refine Y6 (λi x=>x=(i:Int)) l.n _ hl rfl ?_;rintro a i x d rfl hs;by_cases h:i<l.n
 .exact ifT (by grind) (Ab (ifE (by grind) λ_=>hs h _ (By)))
 exact ifF (by grind) ⟨_,rfl,trivial⟩
def AO0 {h:Sv}(hl:h.On.n<N)(d:h.On.n<1000000000):∃b,EJ N h=some b/\True:=by
 unfold EJ;refine W4 (λi y x=>x=(i:Int)) h.On.n _ hl rfl ?_;rintro a i y x f rfl hs;by_cases c:i<h.On.n
 .exact ifT (by grind) (Ab (hs c _ _ (By)))
 exact ifF (by grind) ⟨_,rfl,trivial⟩
def Aw3 (a:3000000<=N){p:B4}(hp:Yi p)(j:∀i,i<p.Sz.n->(p.Sz.g i).Ua.n<1100000):∃b,Gs N p=some b/\True:=by
 unfold Gs;obtain⟨b,b1,_⟩:=Ba4 a p.Sv;refine C0 b1 (ifE (by grind) λhc=>?_);have q:p.Sz.n<=5/\p.Sg.n<=5:=by grind
 obtain⟨c,c1,_⟩:=Bd6 (N:=N) (l:=p.Sg) (by omega) (by omega);refine C0 c1 (ltP (λ_=>True) (λz _=>ifE (by grind) λ_=>?_) λk hk=>ifE (λ_=>hk _ Jy) λ_=>?_)
 .refine Y6 (λi x=>x=(i:Int)) p.Sz.n _ (by omega) rfl ?_;rintro f i x r rfl hs;by_cases h:i<p.Sz.n
  .have m:=j i h;refine ifT (by grind) (Ab ?_);rw[BS9];obtain⟨d,d1,_⟩:=Bd6 (N:=N) (l:=(p.Sz.g i).Ua) (by omega) (by omega);exact C0 d1 (ifE (by grind) λ_=>hs h _ (By))
  grind
 have o:=hp.hist.on;obtain⟨d,d1,_⟩:=AO0 (N:=N) (h:=p.Sv) (by omega) (by omega);exact C0 d1 (ifE (λ_=>C0 (NX a hp.hist) (hk _ Jy)) λ_=>hk _ Jy)
def Tv (d:3000000<=N)(hw:Ba N=some true){p:B4}(hp:Yi p)(f:∀i,i<p.Sz.n->(p.Sz.g i).Ua.n<1100000)(j:p.Sg.n<1100000){cands:Sl (Sl Qb)}(hc:∀i,i<cands.n->okA (cands.g i))(entry price:Int):Cw N p cands entry price=some true:=by
 refine eqR ?_;unfold Cw;obtain⟨b,b1,_⟩:=Aw3 d hp f;have wk:∃r,((Ba N).bind λy=>some y)=some r/\r=true:=(by grind);refine C0 b1 (ifE (λ_=>wk) λl=>?_);have a:cands.n<=300:=by grind
 refine Y6 (λi x=>x=(i:Int)) cands.n _ (by omega) rfl ?_;rintro c i x m rfl hs;by_cases h:i<cands.n
 .exact ifT (by grind) (Ab (ifE (λ_=>wk) λ_=>hs h _ (By)))
 rw[BF7 (s:=(Sl.of []:Sl K0)) rfl];obtain⟨r,r1,r2⟩:=AN9 d hp hc a entry price;refine ifF (by grind) (ifT (by grind) (C0 r1 (C0 r2 ?_)));clear hs;refine Y6 (λi x=>x=(i:Int)) p.Sg.n _ (by omega) rfl ?_;rintro c i x m rfl hs;by_cases h:i<p.Sg.n
 .exact ifT (by grind) (Ab (Bj (Ab (Bj (hs h _ (By))))))
 exact ifF (by grind) (ltX (by grind))
set_option maxRecDepth 100000
def AE1:Ba 4194304=some true:=by decide +kernel
end Go.AM
