/- What a law's walk and its plain proof need, part 8: no condition of its own. -/
import Derived.Test.YtodhnkfgkgkngaaGreatDoorGG
import Derived.Test.YtodhnkfgkgkngaaGreatDoorGF
set_option linter.defProp false
set_option linter.unusedSimpArgs false
set_option linter.unusedVariables false
set_option linter.unusedSectionVars false
namespace Go.AM
open IntKind (wrap)
def Bc3:=@List.mem_reverse
open Go.Proofs
def okO (x:Bn):Prop:=okS x.Set/\(∃c:BitVec 32,x.Clear=(c.toNat:Int))/\∃t:BitVec 32,x.Take=(t.toNat:Int)
theorem Av2 {p m a b s:BitVec 32}(h1:vB p m=true)(d:vB a b=true):vB (QX p a s) (QX m b s)=true:=by rw[Fm]at *;intro i c;have g1:=h1 i c;have g2:=d i c;simp only[QX,AQ8,AQ9,AU1];revert g1 g2;cases s.getLsbD i<;>cases p.getLsbD i<;>cases m.getLsbD i<;>cases a.getLsbD i<;>cases b.getLsbD i<;>simp[c]
theorem vS0:vS (⟨0,0⟩:Sound):=⟨0#32,0#32,rfl,by decide +kernel⟩
theorem Vt {N:Nat}(f:1000<=N){s t:Sound}{c:Int}(hs:okS s)(hc:∃b:BitVec 32,c=(b.toNat:Int))(ht:okS t):∃y,N6 N s c t=some y/\P6 N s c t=some y/\vS y.1:=by
 obtain⟨p,m,rfl⟩:=hs;obtain⟨a,b,rfl⟩:=ht;obtain⟨d,rfl⟩:=hc;refine⟨_,YB p m d a b,YC p m d a b f,?_⟩;unfold Ap0;split
 ·rename_i h;split
  ·exact⟨_,_,rfl,Av2 h.1 h.2⟩
  ·exact vS0
 ·exact vS0
theorem Ad8 {N:Nat}(f:1000<=N){s t:Sound}{c:Int}(hs:okS s)(hc:∃b:BitVec 32,c=(b.toNat:Int))(ht:okS t):∃y,S9 N s t c=some y/\Y7 N s t c=some y/\vS y.1:=by
 obtain⟨p,m,rfl⟩:=hs;obtain⟨a,b,rfl⟩:=ht;obtain⟨d,rfl⟩:=hc;refine⟨_,Ap2 p m a b d,Ap3 p m a b d f,?_⟩;unfold Ap1;split
 ·rename_i h;split
  ·exact⟨_,_,rfl,Av2 h.1 h.2⟩
  ·exact vS0
 ·exact vS0
def AG4 (l:Law):Prop:=l.Out.n<=6/\∀i,i<l.Out.n->okO (l.Out.g i)/\(l.Out.g i).From<l.If.n/\((l.Out.g i).Take≠0->0<=(l.Out.g i).Of/\(l.Out.g i).Of<l.If.n)
theorem eqX {R:Type}{Q:R->Prop}{o o' : Option R}(h:o=o')(a:∃r,o' = some r/\Q r):∃r,o=some r/\Q r:=by rw[h];exact a
def Bm (f:Nat->Sound):Nat->Sl Sound
 |0=>Sl.nil
 |m+1=>(Bm f m).push (f m)
theorem Hq (f:Nat->Sound):∀m,(Bm f m).n=m
 |0=>rfl
 |m+1=>by show (Bm f m).n+1=_;rw[Hq f m]
theorem Vu (f:Nat->Sound):∀{m i:Nat},i<m->(Bm f m).g i=f i
 |0,i,h=>by omega
 |m+1,i,h=>by
  show (if i<(Bm f m).n then (Bm f m).g i else f m)=f i;rw[Hq];by_cases e:i<m
  ·rw[if_pos e,Vu f e]
  ·rw[if_neg e,show i=m by omega]
abbrev srcS (l:Law)(cut:Sl Sound)(i:Nat):Sound:=⟨(if (decide (0<=(l.Out.g i).From)) then (cut.g (l.Out.g i).From.toNat).Plus else 0),(if (decide (0<=(l.Out.g i).From)) then (cut.g (l.Out.g i).From.toNat).Minus else 0)⟩
theorem AD7 {N:Nat}(t:1000<=N){l:Law}(u:AG4 l){cut:Sl Sound}(hn:cut.n=l.If.n)(hc:∀i,i<cut.n->okS (cut.g i)) :∃s,N1 N l cut=some s/\Bd N l cut=some s/\s.n=l.Out.n/\∀i,i<s.n->vS (s.g i):=by
 have one:∀i,∃y:Sound,i<l.Out.n->vS y/\∀(R:Type) (k:Sound->Option R),
  (∀(Ch:Nat->Sound->Int->Sound->Option (Sound×Int)) (Ta:Nat->Sound->Sound->Int->Option (Sound×Int)),(Ch=N6/\Ta=S9) \/ (Ch=P6/\Ta=Y7) ->
  (if ((decide (0<=(l.Out.g i).From))=true->((0:Int)<=(l.Out.g i).From/\(l.Out.g i).From<(cut.n:Int)))then
   (Ch N (⟨(if (decide (0<=(l.Out.g i).From)) then (cut.g (l.Out.g i).From.toNat).Plus else 0),(if (decide (0<=(l.Out.g i).From)) then (cut.g (l.Out.g i).From.toNat).Minus else 0)⟩:Sound) (l.Out.g i).Clear (l.Out.g i).Set).bind fun y5=>
   if ((l.Out.g i).Take != 0) then
    if ((0:Int)<=(l.Out.g i).Of/\(l.Out.g i).Of<(cut.n:Int))then
     (Ta N y5.1 (cut.g (l.Out.g i).Of.toNat) (l.Out.g i).Take).bind fun y6=>k y6.1
    else none
   else k y5.1
   else none)=k y):=by
  intro i;by_cases d:i<l.Out.n
  case neg=>exact⟨default,fun h=>absurd h d⟩
  obtain⟨⟨j,m,o⟩,w,q⟩:=u.2 i d;have hs:okS (⟨(if (decide (0<=(l.Out.g i).From)) then (cut.g (l.Out.g i).From.toNat).Plus else 0),(if (decide (0<=(l.Out.g i).From)) then (cut.g (l.Out.g i).From.toNat).Minus else 0)⟩:Sound):=by
   by_cases v:0<=(l.Out.g i).From
   ·simp only[v,decide_true,if_true];exact hc _ (by omega)
   ·simp only[v,decide_false,AQ0,if_false];exact⟨0#32,0#32,rfl⟩
  obtain⟨y,e1,e2,hy⟩:=Vt t hs m j;by_cases ht:(l.Out.g i).Take=0
  ·refine⟨y.1,fun _=>⟨hy,fun R k Ch Ta h=>?_⟩⟩;rw[if_pos (fun h=>by have:=of_decide_eq_true h;omega)]
   have:Ch N (srcS l cut i) (l.Out.g i).Clear (l.Out.g i).Set=some y:=by
    rcases h with⟨rfl,rfl⟩ | ⟨rfl,rfl⟩
    ·exact e1
    ·exact e2
   rw[this,AP5,if_neg (by simp[ht])]
  ·obtain⟨g1,g2⟩:=q ht;obtain⟨z,e3,e4,x⟩:=Ad8 t hy.ok o (hc (l.Out.g i).Of.toNat (by omega));refine⟨z.1,fun _=>⟨x,fun R k Ch Ta h=>?_⟩⟩;rw[if_pos (fun h=>by have:=of_decide_eq_true h;omega)]
   have:Ch N (srcS l cut i) (l.Out.g i).Clear (l.Out.g i).Set=some y:=by
    rcases h with⟨rfl,rfl⟩ | ⟨rfl,rfl⟩
    ·exact e1
    ·exact e2
   rw[this,AP5,if_pos (by simp[ht]),if_pos (by omega)]
   have:Ta N y.1 (cut.g (l.Out.g i).Of.toNat) (l.Out.g i).Take=some z:=by
    rcases h with⟨rfl,rfl⟩ | ⟨rfl,rfl⟩
    ·exact e3
    ·exact e4
   rw[this,AP5]
 obtain⟨out,f⟩:=AX3 one;have a0:=u.1;have b:∀(Ch:Nat->Sound->Int->Sound->Option (Sound×Int)) (Ta:Nat->Sound->Sound->Int->Option (Sound×Int)),(Ch=N6/\Ta=S9) \/ (Ch=P6/\Ta=Y7) ->
  ∀(a:Sl Sound->Int->Option (Sl Sound)) (i:Nat),i<l.Out.n->(∃r,a ((Bm out i).push (out i)) (wrap .i64 ((i:Int)+1))=some r/\r=Bm out l.Out.n) ->
  ∃r,(if ((decide (0<=(l.Out.g i).From))=true->((0:Int)<=(l.Out.g i).From/\(l.Out.g i).From<(cut.n:Int)))then
   (Ch N (srcS l cut i) (l.Out.g i).Clear (l.Out.g i).Set).bind fun y5=>
   if ((l.Out.g i).Take != 0) then
    if ((0:Int)<=(l.Out.g i).Of/\(l.Out.g i).Of<(cut.n:Int))then
     (Ta N y5.1 (cut.g (l.Out.g i).Of.toNat) (l.Out.g i).Take).bind fun y6=>
     if (((Bm out i).n+(Sl.of [y6.1]:Sl Sound).n)*8<=140737488355328/\(Bm out i).n+(Sl.of [y6.1]:Sl Sound).n<=140737488355328)then
      a ((Bm out i).push y6.1) (wrap .i64 ((i:Int)+1))
     else none
    else none
   else
    if (((Bm out i).n+(Sl.of [y5.1]:Sl Sound).n)*8<=140737488355328/\(Bm out i).n+(Sl.of [y5.1]:Sl Sound).n<=140737488355328)then
     a ((Bm out i).push y5.1) (wrap .i64 ((i:Int)+1))
    else none
   else none)=some r/\r=Bm out l.Out.n:=by
  intro Ch Ta h a i d hr;have e:=(f i d).2 (Sl Sound) (fun y=>if (((Bm out i).n+(Sl.of [y]:Sl Sound).n)*8<=140737488355328/\(Bm out i).n+(Sl.of [y]:Sl Sound).n<=140737488355328)then a ((Bm out i).push y) (wrap .i64 ((i:Int)+1))else none) Ch Ta h;refine eqX e (ifT ?_ hr)
  have:=Hq out i
  show ((Bm out i).n+1)*8<=_/\(Bm out i).n+1<=_;omega
 have h1:∃r,N1 N l cut=some r/\r=Bm out l.Out.n:=by
  unfold N1;refine S8 (fun i x1 x2=>x2=(i:Int)/\x1=Bm out i) l.Out.n _ (by omega) ⟨rfl,rfl⟩ ?_;rintro a i x1 x2 d ⟨rfl,rfl⟩ hs;by_cases c:i<l.Out.n
  ·refine ifT (by simp;omega) (ifT (by omega) ?_);rw[AP2];exact b _ _ (.inl ⟨rfl,rfl⟩) a i c (hs c _ _ ⟨C4 (by omega),rfl⟩)
  ·exact ifF (by simp;omega) ⟨_,rfl,by congr 1;omega⟩
 have h2:∃r,Bd N l cut=some r/\r=Bm out l.Out.n:=by
  unfold Bd;refine S8 (fun i x1 x2=>x2=(i:Int)/\x1=Bm out i) l.Out.n _ (by omega) ⟨rfl,rfl⟩ ?_;rintro a i x1 x2 d ⟨rfl,rfl⟩ hs;by_cases c:i<l.Out.n
  ·refine ifT (by simp;omega) (ifT (by omega) ?_);rw[AP2];exact b _ _ (.inr ⟨rfl,rfl⟩) a i c (hs c _ _ ⟨C4 (by omega),rfl⟩)
  ·exact ifF (by simp;omega) ⟨_,rfl,by congr 1;omega⟩
 obtain⟨r,e1,rfl⟩:=h1;obtain⟨r,e2,rfl⟩:=h2;exact⟨_,e1,e2,Hq out _,fun i d=>by rw[Hq]at d;rw[Vu out d];exact (f i d).1⟩
end Go.AM
namespace Go.AM
open Go.Proofs
theorem ne0 (x:BitVec 32):((x.toNat:Int) != 0)=decide (x≠0#32):=by rw[bne,eq0];simp
theorem or0 (x y:BitVec 32):x ||| y=0#32↔x=0#32/\y=0#32:=by
 constructor
 ·intro h;have h:=(z32 _).1 h;exact⟨(z32 _).2 fun i a=>by have:=h i a;rw[AQ8,AY3]at this;exact this.1,(z32 _).2 fun i a=>by have:=h i a;rw[AQ8,AY3]at this;exact this.2⟩
 ·rintro⟨rfl,rfl⟩;rfl
theorem AN1 (x y z:BitVec 32):x &&& (y ||| z)=(x &&& y) ||| (x &&& z):=by apply AU5;intro i a;simp only[AQ9,AQ8];cases x.getLsbD i<;>simp
theorem AN2 (x y z:BitVec 32):(x ||| y) &&& z=(x &&& z) ||| (y &&& z):=by apply AU5;intro i a;simp only[AQ9,AQ8];cases z.getLsbD i<;>simp
theorem WR {N:Nat}(j:1000<=N){x:Bn}(hx:okO x)(k:Int):∃b,U2 N x k=some b/\Ec N x k=some b:=by
 obtain⟨⟨a,b,d⟩,⟨c,hc⟩,t,ht⟩:=hx;have f:(16777215:Int)=((16777215#32).toNat:Int):=rfl;unfold U2 Ec;simp only[lt,d,hc,ht,Bj,Z5 a b j,AP5];rw[f];simp only[Es,Jy,DX,ne0];by_cases h1:x.From < -1
 ·simp[h1]
 by_cases g:k<=x.From
 ·simp[h1,g]
 by_cases i:vB a b=true
 case neg=>simp[h1,g,i]
 simp only[h1,g,i,decide_false,AQ0,if_false,Bb1];rw[AN2,AN1 t];generalize ~~~16777215#32=M;by_cases g1:c &&& M=0#32
 case neg=>simp[g1,or0]
 by_cases g2:t &&& M=0#32
 case neg=>simp[g1,g2,or0]
 by_cases g3:c &&& (a ||| b)=0#32
 case neg=>simp[g1,g2,g3,or0]
 by_cases g4:t &&& (a ||| b)=0#32
 case neg=>simp[g1,g2,g3,g4,or0]
 by_cases g5:t &&& c=0#32
 case neg=>simp[g1,g2,g3,g4,g5,or0]
 simp[g1,g2,g3,g4,g5,or0];by_cases g6:t.toNat=0
 ·simp only[g6,if_true];cases x.Of==0<;>simp
 ·simp only[g6,if_false];cases (decide (0<=x.Of)&&decide (x.Of<k))<;>simp
end Go.AM
namespace Go.AM
open Go.Proofs
abbrev nameC:Str:=[97,98,99,100,101,102,103,104,105,106,107,108,109,110,111,112,113,114,115,116,117,118,119,120,121,122,65,66,67,68,69,70,71,72,73,74,75,76,77,78,79,80,81,82,83,84,85,86,87,88,89,90,48,49,50,51,52,53,54,55,56,57,45]
theorem Ad9 {p:UInt8->Bool}:∀{l:Str},l.dropWhile p=[] ↔ ∀x∈l,p x=true
 |[]=>by simp
 |a::l=>by
  rw[List.dropWhile_cons];by_cases h:p a=true
  ·rw[if_pos h,Ad9];simp[h]
  ·rw[if_neg h];simp[h]
theorem Aq2 (l cs:Str):Lib.trimS l cs=[] ↔ ∀b∈l,cs.contains b=true:=by
 unfold Lib.trimS Lib.trimLeftS Lib.trimRightS;rw[Ad9];constructor
 ·intro h;have h:∀x∈l.reverse.dropWhile (cs.contains ·),cs.contains x=true:=fun x hx=>h x (Bc3.2 hx);have a:l.reverse.dropWhile (cs.contains ·)=[]:=by
   rcases e:l.reverse.dropWhile (cs.contains ·)with _|⟨y,r⟩
   ·rfl
   ·have c:=h y (by rw[e];simp);have d:¬cs.contains y=true:=by
     have:=List.head_dropWhile_not (cs.contains ·) (l:=l.reverse) (by rw[e];simp)
     simp only[e,List.head_cons]at this;rw[this];exact Bool.false_ne_true
    exact absurd c d
  rw[Ad9]at a;exact fun b hb=>a b (Bc3.2 hb)
 ·intro h x hx;have hx:=Bc3.1 hx;exact h x (Bc3.1 ((List.dropWhile_sublist _).mem hx))
abbrev QD (y:Int):Bool:=((((decide (97<=y))&&(decide (y<=122)))||((decide (65<=y))&&(decide (y<=90))))||((decide (48<=y))&&(decide (y<=57))))||(y==45)
theorem Ae0:∀k:Fin 256,nameC.contains (UInt8.ofNat k.val)=QD ((k.val:Nat):Int):=by decide +kernel
theorem Ae1 (b:UInt8):nameC.contains b=QD ((b.toNat:Nat):Int):=by
 have:=Ae0 ⟨b.toNat,b.toNat_lt⟩
 rw[show UInt8.ofNat b.toNat=b by simp]at this;exact this
theorem Te {N:Nat}{s:Str}(n:s.length<N)(hs:s.length<1000000000):∃b,By N s=some b/\Bu N s=some b:=by
 have o:∃b,Bu N s=some b/\(b=true↔(∀c∈s,nameC.contains c=true)/\1<=s.length/\s.length<=24):=by
  unfold Bu;refine Ae (fun i x1=>x1=(i:Int)/\∀j (h:j<s.length),j<i->nameC.contains s[j]=true) s.length _ n ⟨rfl,fun j _ a=>absurd a (by omega)⟩ ?_;rintro l i x1 v ⟨rfl,h⟩ f;by_cases hl:i<s.length
  ·refine ifT (by simp;omega) (ifT (by omega) ?_);have eb:Z6 s (i:Int)=((s[i].toNat:Nat):Int):=by simp[Z6,hl]
   by_cases hb:nameC.contains s[i]=true
   ·refine ifF (by rw[eb];show ¬(!(QD ((s[i].toNat:Nat):Int)))=true;rw[<- Ae1,hb];simp) (f hl _ ⟨C4 (by omega),fun j a q=>?_⟩);by_cases e:j=i
    ·subst e;exact hb
    ·exact h j a (by omega)
   ·refine ifT ?_ ⟨false,rfl,by simp,fun t=>absurd (t.1 s[i] (Be7 hl)) hb⟩;rw[eb];show (!(QD ((s[i].toNat:Nat):Int)))=true;rw[<- Ae1];simpa using hb
  ·refine ifF (by simp;omega) ⟨_,rfl,?_⟩;simp only[AP7,decide_eq_true_eq];constructor
   ·rintro⟨g1,g2⟩;refine⟨fun c hc=>?_,by omega,by omega⟩;obtain⟨j,a,rfl⟩:=Bc7 hc;exact h j a (by omega)
   ·rintro⟨_,g1,g2⟩;exact⟨by omega,by omega⟩
 obtain⟨b,e,hb⟩:=o;refine⟨b,?_,e⟩
 suffices h:∃r,By N s=some r/\(r=true↔(∀c∈s,nameC.contains c=true)/\1<=s.length/\s.length<=24) by obtain⟨r,u,g⟩:=h;rw[u,show r=b by rw[AS5,g,hb]]
 unfold By;refine ltX ?_;by_cases d:s=[]
 ·exact ifF (by simp[d]) ⟨false,rfl,by simp[d]⟩
 refine ifT (by simp[d]) ?_;have m:0<s.length:=List.length_pos_iff.2 d;by_cases h1:s.length<=24
 ·refine ifT (by simp;omega) (B4 (x:=Lib.trimS s nameC) ?_ ⟨_,rfl,?_⟩)
  ·unfold Dy;rw[if_pos ⟨by omega,by decide,by decide⟩]
  ·rw[<- Aq2];constructor
   ·intro h;exact⟨by simpa using h,by omega,h1⟩
   ·rintro⟨h,_⟩;simp[h]
 ·exact ifF (by simp;omega) ⟨false,rfl,by simp;intro _ _;omega⟩
end Go.AM
namespace Go.AM
open IntKind (wrap)
open Go.Proofs
theorem Tf {N:Nat}{s:Sl Bn}(m:s.n<N)(hs:s.n<1000000){f:Bn->Option Bool}{b:Nat->Bool}(o:∀i,i<s.n->f (s.g i)=some (b i)) :∃r,C6 N s f=some r/\(r=true ↔ ∃i,i<s.n/\b i=true):=by
 unfold C6 E8
 have:∃y,R6 N (fun (a:Int->Option Int) (x1:Int)=>
  if (decide (x1<(s.n:Int))) then
   if ((0:Int)<=x1/\x1<(s.n:Int))then
    (f (s.g x1.toNat)).bind fun y3=>
    if y3 then
     some x1
    else
     a (wrap .i64 (x1+1))
   else none
  else
   some (-1)) 0=some y/\(0<=y ↔ ∃i,i<s.n/\b i=true):=by
  refine Ae (fun i x1=>x1=(i:Int)/\∀j,j<i->b j=false) s.n _ m ⟨rfl,fun j c=>absurd c (by omega)⟩ ?_;rintro l i x1 q ⟨rfl,h⟩ d;by_cases hl:i<s.n
  ·refine ifT (by simp;omega) (ifT (by omega) (B4 (by rw[AP2];exact o i hl) ?_));cases hb:b i
   ·refine ifF (by simp) (d hl _ ⟨C4 (by omega),fun j c=>?_⟩);by_cases e:j=i
    ·subst e;exact hb
    ·exact h j (by omega)
   ·exact ifT rfl ⟨i,rfl,fun _=>⟨i,hl,hb⟩,fun _=>by omega⟩
  ·refine ifF (by simp;omega) ⟨-1,rfl,fun h=>absurd h (by decide),?_⟩;rintro⟨j,c,hb⟩;rw[h j (by omega)]at hb;cases hb
 obtain⟨y,e,hy⟩:=this;exact B4 e ⟨_,rfl,by rw[decide_eq_true_eq];exact hy⟩
def Kj (l:Law):Prop:=okL l/\l.Name.length<1100000/\l.If.n<1100000/\l.Out.n<1100000/\∀i,i<l.Out.n->okO (l.Out.g i)
theorem YG {N:Nat}{s:Sound}(hs:okS s):∃b,G3 N s=some b/\(b=true↔vS s):=by obtain⟨p,m,e⟩:=hs;exact⟨vB p m,by rw[e];exact Bj p m,(Vn e).symm⟩
theorem YH {N:Nat}(a:1000<=N){s:Sound}(hs:okS s):∃b,I2 N s=some b/\(b=true↔vS s):=by obtain⟨p,m,e⟩:=hs;exact⟨vB p m,by rw[e];exact Z5 p m a,(Vn e).symm⟩
theorem Aq3 {N:Nat}{x:Bn}(hx:okO x){k:Int}(h:U2 N x k=some true):x.From<k/\(x.Take≠0->0<=x.Of/\x.Of<k):=by
 obtain⟨⟨a,b,c⟩,_,_⟩:=hx;unfold U2 at h;simp only[lt,c,Bj,AP5]at h;by_cases h1:x.From < -1
 ·simp[h1]at h
 by_cases d:k<=x.From
 ·simp[h1,d]at h
 refine⟨by omega,fun ht=>?_⟩;simp only[h1,d,decide_false,AQ0,if_false]at h;by_cases f:(!vB a b)=true
 ·rw[if_pos f]at h;cases h
 rw[if_neg f]at h;split at h
 ·cases h
 ·rw[if_neg (by simp[ht])]at h;simpa using h
def chkAll (N:Nat)(l:Law):Prop:=Bu N l.Name=some true/\chk 40 [l.Left]/\chk 40 [l.Right]/\l.If.n<=4/\l.Out.n<=6/\l.If.n+l.Out.n≠0/\1<=l.Mode/\l.Mode<=3/\(∀i,i<l.If.n->vS (l.If.g i))/\∀i,i<l.Out.n->U2 N (l.Out.g i) l.If.n=some true
def AD8 (N:Nat)(l:Law)(e:Int):Prop:=(e=0/\chkAll N l) \/ (e=17/\¬chkAll N l)
def AG5 (l:Law):Prop:=okL l/\chk 40 [l.Left]/\chk 40 [l.Right]/\l.If.n<=4/\AG4 l/\l.If.n+l.Out.n≠0/\1<=l.Mode/\l.Mode<=3
theorem chkAll.f {N:Nat}{l:Law}(hl:Kj l)(h:chkAll N l):AG5 l:=by obtain⟨_,h1,b,c,d,g,j,m,o,n⟩:=h;exact⟨hl.1,h1,b,c,⟨d,fun i a=>⟨hl.2.2.2.2 i a,Aq3 (hl.2.2.2.2 i a) (n i a)⟩⟩,g,j,m⟩
theorem YI {N:Nat}(hN:3000000<=N){l:Law}(hl:Kj l):∃e,X3 N l=some e/\AD8 N l e:=by
 have u:=hl.2.1;have v:=hl.2.2.1;have x:=hl.2.2.2.1;unfold X3;obtain⟨b0,e0,e0'⟩:=Te (N:=N) (s:=l.Name) (by omega) (by omega);refine B4 e0 ?_;cases b0
 ·exact ifT rfl ⟨17,rfl,.inr ⟨rfl,fun h=>by have:=h.1;rw[e0']at this;cases this⟩⟩
 refine ifF (by simp) ?_;obtain⟨y2,e2,o⟩:=QB (N:=N) (by omega) hl.1.1;refine B4 e2 ?_;by_cases c2:y2=0
 case neg=>exact ifT (by simpa using c2) ⟨17,rfl,.inr ⟨rfl,fun h=>c2 (o.2 h.2.1)⟩⟩
 refine ifF (by simp[c2]) ?_;obtain⟨y3,e3,q⟩:=QB (N:=N) (by omega) hl.1.2.1;refine B4 e3 ?_;by_cases c3:y3=0
 case neg=>exact ifT (by simpa using c3) ⟨17,rfl,.inr ⟨rfl,fun h=>c3 (q.2 h.2.2.1)⟩⟩
 refine ifF (by simp[c3]) ?_;by_cases c4:4<l.If.n
 ·exact ifT (by simp;omega) ⟨17,rfl,.inr ⟨rfl,fun h=>by have:=h.2.2.2.1;omega⟩⟩
 refine ifF (by simp;omega) ?_;by_cases c5:6<l.Out.n
 ·exact ifT (by simp;omega) ⟨17,rfl,.inr ⟨rfl,fun h=>by have:=h.2.2.2.2.1;omega⟩⟩
 refine ifF (by simp;omega) ?_;rw[Da (by omega)];by_cases c6:l.If.n+l.Out.n=0
 ·exact ifT (by rw[c6];rfl) ⟨17,rfl,.inr ⟨rfl,fun h=>h.2.2.2.2.2.1 c6⟩⟩
 refine ifF (by simp;omega) ?_;by_cases c7:l.Mode<1 \/ 3<l.Mode
 ·exact ifT (by simp;omega) ⟨17,rfl,.inr ⟨rfl,fun h=>by have g1:=h.2.2.2.2.2.2.1;have g2:=h.2.2.2.2.2.2.2.1;omega⟩⟩
 refine ifF (by simp;omega) ?_;have y:∀i,∃b,i<l.If.n->Z3 N (l.If.g i)=some b/\(b=true ↔ ¬vS (l.If.g i)):=by
  intro i;by_cases a:i<l.If.n
  ·obtain⟨b,eb,hb⟩:=YG (N:=N) (hl.1.2.2 i a);refine⟨!b,fun _=>⟨by unfold Z3;rw[eb];rfl,?_⟩⟩;rw[<- hb];simp
  ·exact⟨false,fun h=>absurd h a⟩
 obtain⟨f,j⟩:=AX3 y;obtain⟨y4,e4,r⟩:=JU (N:=N) (w:=l.If) (by omega) (by omega) (f:=fun u1=>Z3 N u1) (fun i a=>(j i a).1);refine B4 e4 ?_;cases c:y4
 case true=>obtain⟨i,a,hb⟩:=r.1 c;exact ifT rfl ⟨17,rfl,.inr ⟨rfl,fun h=>(j i a).2.1 hb (h.2.2.2.2.2.2.2.2.1 i a)⟩⟩
 refine ifF (by simp) ?_;have z:∀i,∃b,i<l.Out.n->Z2 N (l.Out.g i) (l.If.n:Int)=some b/\(b=true ↔ ¬U2 N (l.Out.g i) l.If.n=some true):=by
  intro i;by_cases a:i<l.Out.n
  ·obtain⟨b,eb,_⟩:=WR (N:=N) (by omega) (hl.2.2.2.2 i a) (l.If.n:Int);refine⟨!b,fun _=>⟨by unfold Z2;rw[eb];rfl,?_⟩⟩;rw[eb];simp
  ·exact⟨false,fun h=>absurd h a⟩
 obtain⟨g,m⟩:=AX3 z;obtain⟨y5,e5,t⟩:=Tf (N:=N) (s:=l.Out) (by omega) (by omega) (f:=fun u2=>Z2 N u2 (l.If.n:Int)) (fun i a=>(m i a).1);refine B4 e5 ?_;cases d:y5
 case true=>obtain⟨i,a,hb⟩:=t.1 d;exact ifT rfl ⟨17,rfl,.inr ⟨rfl,fun h=>(m i a).2.1 hb (h.2.2.2.2.2.2.2.2.2 i a)⟩⟩
 refine ifF (by simp) ⟨0,rfl,.inl ⟨rfl,e0',o.1 c2,q.1 c3,by omega,by omega,c6,by omega,by omega,fun i a=>?_,fun i a=>?_⟩⟩
 ·refine AS9 fun hn=>?_
  have:=r.2 ⟨i,a,(j i a).2.2 hn⟩
  rw[c]at this;cases this
 ·refine AS9 fun hn=>?_
  have:=t.2 ⟨i,a,(m i a).2.2 hn⟩
  rw[d]at this;cases this
theorem YJ {N:Nat}(y:3000000<=N){l:Law}(hl:Kj l):∃e,W9 N l=some e/\AD8 N l e:=by
 have u:=hl.2.1;have v:=hl.2.2.1;have w:=hl.2.2.2.1;unfold W9;obtain⟨b0,e0,e0'⟩:=Te (N:=N) (s:=l.Name) (by omega) (by omega);refine B4 e0' (ltX ?_);cases b0
 ·exact ifT rfl (ifT rfl ⟨17,rfl,.inr ⟨rfl,fun h=>by have:=h.1;rw[e0']at this;cases this⟩⟩)
 refine ifF (by simp) ?_;obtain⟨y2,e2,q⟩:=My (N:=N) (by omega) hl.1.1;refine B4 e2 ?_;by_cases c2:y2=0
 case neg=>exact ifT (by simpa using c2) (ifT rfl ⟨17,rfl,.inr ⟨rfl,fun h=>c2 (q.2 h.2.1)⟩⟩)
 refine ifF (by simp[c2]) ?_;obtain⟨y3,e3,r⟩:=My (N:=N) (by omega) hl.1.2.1;refine B4 e3 ?_;by_cases c3:y3=0
 case neg=>exact ifT (by simpa using c3) ⟨17,rfl,.inr ⟨rfl,fun h=>c3 (r.2 h.2.2.1)⟩⟩
 refine ifF (by simp[c3]) ?_;rw[Da (by omega)];by_cases a:l.If.n<=4/\l.Out.n<=6/\l.If.n+l.Out.n≠0/\1<=l.Mode/\l.Mode<=3
 case neg=>refine ifT ?_ ⟨17,rfl,.inr ⟨rfl,fun h=>a ⟨h.2.2.2.1,h.2.2.2.2.1,h.2.2.2.2.2.1,h.2.2.2.2.2.2.1,h.2.2.2.2.2.2.2.1⟩⟩⟩;simp only[AR6,decide_eq_true_eq,beq_iff_eq];omega
 refine ifF (by simp only[AR6,decide_eq_true_eq,beq_iff_eq];omega) ?_;obtain⟨c4,c5,c6,c7,c8⟩:=a;refine Ae (fun i x1=>x1=(i:Int)/\∀j,j<i->vS (l.If.g j)) l.If.n _ (by omega) ⟨rfl,fun j c=>absurd c (by omega)⟩ ?_;rintro t i x1 z ⟨rfl,h⟩ hs;by_cases d:i<l.If.n
 ·obtain⟨b,eb,hb⟩:=YH (N:=N) (by omega) (hl.1.2.2 i d);refine ifT (by simp;omega) (ifT (by omega) (B4 (by rw[AP2];exact eb) ?_));cases b
  ·exact ifT rfl ⟨17,rfl,.inr ⟨rfl,fun h=>by have:=hb.2 (h.2.2.2.2.2.2.2.2.1 i d);cases this⟩⟩
  ·refine ifF (by simp) (hs d _ ⟨C4 (by omega),fun j c=>?_⟩);by_cases e:j=i
   ·subst e;exact hb.1 rfl
   ·exact h j (by omega)
 refine ifF (by simp;omega) ?_;have x:∀j,j<l.If.n->vS (l.If.g j):=fun j c=>h j (by omega);refine Ae (fun i x1=>x1=(i:Int)/\∀j,j<i->U2 N (l.Out.g j) l.If.n=some true) l.Out.n _ (by omega) ⟨rfl,fun j c=>absurd c (by omega)⟩ ?_;rintro m k x2 hk ⟨rfl,h'⟩ o;by_cases f:k<l.Out.n
 ·obtain⟨b,eb,eb'⟩:=WR (N:=N) (by omega) (hl.2.2.2.2 k f) (l.If.n:Int);refine ifT (by simp;omega) (ifT (by omega) (B4 (by rw[AP2];exact eb') ?_));cases b
  ·exact ifT rfl ⟨17,rfl,.inr ⟨rfl,fun h=>by have:=h.2.2.2.2.2.2.2.2.2 k f;rw[eb]at this;cases this⟩⟩
  ·refine ifF (by simp) (o f _ ⟨C4 (by omega),fun j c=>?_⟩);by_cases e:j=k
   ·subst e;exact eb
   ·exact h' j (by omega)
 ·exact ifF (by simp;omega) ⟨0,rfl,.inl ⟨rfl,e0',q.1 c2,r.1 c3,c4,c5,c6,c7,c8,x,fun j c=>h' j (by omega)⟩⟩
theorem Tg {N:Nat}{l:Law}{e e' : Int}(h:AD8 N l e)(h' : AD8 N l e'):e=e':=by
 rcases h with⟨rfl,h⟩ | ⟨rfl,h⟩<;>rcases h' with⟨rfl,h'⟩ | ⟨rfl,h'⟩
 ·rfl
 ·exact absurd h h'
 ·exact absurd h' h
 ·rfl
theorem Eh {N:Nat}(a:3000000<=N){l:Law}(hl:Kj l):∃e,X3 N l=some e/\W9 N l=some e/\AD8 N l e:=by obtain⟨e,h,c⟩:=YI a hl;obtain⟨e',h',c'⟩:=YJ a hl;obtain rfl:=Tg c c';exact⟨_,h,h',c⟩
end Go.AM
namespace Go.AM
open Go.Proofs
def PE:Pat->Pat->Prop
 |.nil,q=>q.Kind=0/\q.Is=default/\q.Not=false/\q.Min=0/\q.Max=0/\q.L.n=0
 |.mk k is no mn mx n g,q=>q.Kind=k/\q.Is=is/\q.Not=no/\q.Min=mn/\q.Max=mx/\q.L.n=n/\∀i,i<n->PE (g i) (q.L.g i)
theorem PE_of {p q:Pat}:PE p q↔q.Kind=p.Kind/\q.Is=p.Is/\q.Not=p.Not/\q.Min=p.Min/\q.Max=p.Max/\q.L.n=p.L.n/\∀i,i<p.L.n->PE (p.L.g i) (q.L.g i):=by
 cases p with
 |nil=>exact⟨fun h=>⟨h.1,h.2.1,h.2.2.1,h.2.2.2.1,h.2.2.2.2.1,h.2.2.2.2.2,fun i a=>absurd a (AU0 i)⟩,fun h=>⟨h.1,h.2.1,h.2.2.1,h.2.2.2.1,h.2.2.2.2.1,h.2.2.2.2.2.1⟩⟩
 |mk k is no mn mx n g=>exact AY5
theorem Vv:∀p:Pat,PE p p
 |.nil=>⟨rfl,rfl,rfl,rfl,rfl,rfl⟩
 |.mk k is no mn mx n g=>⟨rfl,rfl,rfl,rfl,rfl,rfl,fun i _=>Vv (g i)⟩
theorem Vw:∀{p q:Pat},PE p q->PE q p
 |.nil,q,h=>PE_of.2 ⟨h.1.symm,h.2.1.symm,h.2.2.1.symm,h.2.2.2.1.symm,h.2.2.2.2.1.symm,h.2.2.2.2.2.symm,fun i a=>absurd a (by rw[h.2.2.2.2.2];exact AU0 i)⟩
 |.mk k is no mn mx n g,q,h=>PE_of.2 ⟨h.1.symm,h.2.1.symm,h.2.2.1.symm,h.2.2.2.1.symm,h.2.2.2.2.1.symm,h.2.2.2.2.2.1.symm,fun i a=>Vw (h.2.2.2.2.2.2 i (by rw[<- h.2.2.2.2.2.1];exact a))⟩
theorem OV {n:Nat}{Q Q' : Nat->Nat->Nat->Prop}:∀{m:Nat},(∀i,i<m->Q i=Q' i)->Yl n Q m=Yl n Q' m
 |0,_=>rfl
 |m+1,h=>by funext a b;simp only[Yl];rw[OV fun i c=>h i (by omega),h m (by omega)]
theorem AD9 {w:Sl Sound}:∀(d:Nat) {p q:Pat},okP d p->PE p q->PR w p=PR w q
 |0,p,q,h,_=>h.elim
 |d+1,p,q,h,e=>by
  obtain⟨e1,e2,e3,e4,e5,e6,e7⟩:=PE_of.1 e;have ih:∀i,i<p.L.n->PR w (p.L.g i)=PR w (q.L.g i):=fun i c=>AD9 d (h.2.2 i c) (e7 i c);funext a b;apply propext;rw[Ki,Ki,e1,e2,e3,e4,e5,e6];have j:Yl w.n (fun i=>PR w (p.L.g i)) p.L.n=Yl w.n (fun i=>PR w (q.L.g i)) p.L.n:=OV ih;have l:(∃i,i<p.L.n/\PR w (p.L.g i) a b) ↔ ∃i,i<p.L.n/\PR w (q.L.g i) a b:=⟨fun⟨i,c,g⟩=>⟨i,c,by rw[<- ih i c];exact g⟩,fun⟨i,c,g⟩=>⟨i,c,by rw[ih i c];exact g⟩⟩;rw[j,l];by_cases f:p.Kind=5
  ·have:=(h.2.1 f).1
   rw[ih 0 (by omega)]
  ·simp[f]
theorem Aq4 {p q:Pat}(e:PE p q):Gw p↔Gw q:=by obtain⟨e1,e2,e3,e4,e5,e6,_⟩:=PE_of.1 e;unfold Gw;rw[e1,e2,e3,e4,e5,e6]
def PEs:List Pat->List Pat->Prop
 |[],[]=>True
 |p::l,q::m=>PE p q/\PEs l m
 |_,_=>False
theorem Ae2:∀{a b c d:List Pat},PEs a b->PEs c d->PEs (a++c) (b++d)
 |[],[],_,_,_,h=>h
 |_::_,_::_,_,_,⟨h1,h2⟩,h=>⟨h1,Ae2 h2 h⟩
 |[],_::_,_,_,h,_=>h.elim
 |_::_,[],_,_,h,_=>h.elim
theorem Th {f g:Nat->Pat}:∀(l:List Nat),(∀i∈l,PE (f i) (g i))->PEs (l.map f) (l.map g)
 |[],_=>trivial
 |i::l,h=>⟨h i (by simp),Th l fun j a=>h j (by simp[a])⟩
theorem Av3:∀(k:Nat) (l m:List Pat),PEs l m->(chk k l↔chk k m)
 |0,[],[],_=>AY5
 |0,p::l,q::m,_=>⟨fun h=>(by cases h),fun h=>by cases h⟩
 |k+1,[],[],_=>AY5
 |k+1,p::l,q::m,⟨h1,h2⟩=>by
  obtain⟨_,_,_,_,_,e6,e7⟩:=PE_of.1 h1;show Gw p/\chk k (p.L.toList++l)↔Gw q/\chk k (q.L.toList++m);rw[Aq4 h1,Av3 k _ _ (Ae2 (c:=l) (d:=m) (show PEs p.L.toList q.L.toList by unfold Sl.toList;rw[e6];exact Th _ fun i a=>e7 i (AU8.1 a)) h2)]
 |_,[],_::_,h=>h.elim
 |_,_::_,[],h=>h.elim
theorem Jh {p q:Pat}(h:PE p q):chk 40 [p]↔chk 40 [q]:=Av3 40 [p] [q] ⟨h,trivial⟩
theorem okPS_of {p:Pat}:okPS p↔okS p.Is/\∀i,i<p.L.n->okPS (p.L.g i):=by
 cases p with
 |nil=>exact⟨fun _=>⟨⟨0#32,0#32,rfl⟩,fun i a=>absurd a (AU0 i)⟩,fun _=>trivial⟩
 |mk k is no mn mx n g=>exact AY5
theorem MA:∀{p q:Pat},PE p q->okPS p->okPS q
 |.nil,q,h,_=>okPS_of.2 ⟨by rw[h.2.1];exact⟨0#32,0#32,rfl⟩,fun i a=>absurd a (by rw[h.2.2.2.2.2];exact AU0 i)⟩
 |.mk k is no mn mx n g,q,h,hp=>okPS_of.2 ⟨by rw[h.2.1];exact hp.1,fun i a=>by
  have a:i<n:=by rw[<- h.2.2.2.2.2.1];exact a
  exact MA (h.2.2.2.2.2.2 i a) (hp.2 i a)⟩
end Go.AM
namespace Go.AM
open IntKind (wrap)
open Go.Proofs
theorem nf:(!false)=true:=rfl
theorem AE0 {α : Type}{s t:Sl α}(h:s.n=0):s.app t=t:=by cases t;simp[Sl.app,h]
def Av4 {α : Type}[Inhabited α](s:Sl (Sl α)):Nat->Sl α
 |0=>Sl.nil
 |k+1=>(Av4 s k).app (s.g k)
theorem Av5 {α : Type}[Inhabited α](s:Sl (Sl α)){B:Nat}:∀k,(∀i,i<k->(s.g i).n<=B)->(Av4 s k).n<=k*B
 |0,_=>by simp[Av4]
 |k+1,h=>by
  have:=Av5 s k fun i a=>h i (by omega)
  have:=h k (by omega)
  show (Av4 s k).n+(s.g k).n<=_;rw[Bb9];omega
theorem Vx {N:Nat}{s:Sl (Sl Sound)}(hn:s.n<1000)(d:1000<=N)(hs:∀i,i<s.n->(s.g i).n<=3000000) :B1 N s=some (Av4 s s.n):=by
 suffices h:∃r,B1 N s=some r/\r=Av4 s s.n by obtain⟨r,h,rfl⟩:=h;exact h
 unfold B1;refine S8 (fun (i:Nat) (x1 x2:Int)=>x2=(i:Int)/\0<=x1/\x1<=(i:Int)*3000000) s.n _ (by omega) ⟨rfl,Int.le_refl 0,by simp⟩ ?_;rintro b i x1 x2 c ⟨rfl,f,h1⟩ a;by_cases hl:i<s.n
 ·have:=hs i hl
  refine ifT (by simp;omega) (ifT (by omega) ?_);rw[AP2,F2 (by omega) (by omega)];exact ifF (by simp;omega) (a hl _ _ ⟨C4 (by omega),by omega,by omega⟩)
 refine ifF (by simp;omega) (B4 (x:=Sl.nil) ?_ ?_)
 ·unfold H5;rw[if_pos (by omega)]
 refine S8 (fun i x1 x2=>x2=(i:Int)/\x1=Av4 s i) s.n _ (by omega) ⟨rfl,rfl⟩ ?_;rintro b i x1 x2 c ⟨rfl,rfl⟩ a;by_cases hl:i<s.n
 ·have g1:=hs i hl;have g2:=Av5 s i (B:=3000000) fun j l=>hs j (by omega);refine ifT (by simp;omega) (ifT ⟨by omega,?_⟩ (a hl _ _ ⟨C4 (by omega),?_⟩))
  ·rw[AP2];omega
  ·rw[AP2];rfl
 ·exact ifF (by simp;omega) ⟨_,rfl,by congr 1;omega⟩
def AG6 (w:Sl Sound)(i k:Nat)(y:Sl Sound):Sl Sound:=((w.take i).app y).app (w.drop (i+k))
theorem Ae3 {w y:Sl Sound}{i k:Nat}(b:i+k<=w.n)(hw:∀j,j<w.n->vS (w.g j))(hy:∀j,j<y.n->vS (y.g j)):(AG6 w i k y).n=w.n-k+y.n/\∀j,j<(AG6 w i k y).n->vS ((AG6 w i k y).g j):=by
 have hn:(AG6 w i k y).n=w.n-k+y.n:=by show i+y.n+(w.n-(i+k))=_;omega
 refine⟨hn,fun j a=>?_⟩;rw[hn]at a;show vS (if j<i+y.n then (if j<i then w.g j else y.g (j-i))else w.g (i+k+(j-(i+y.n))));split
 ·split
  ·exact hw _ (by omega)
  ·exact hy _ (by omega)
 ·exact hw _ (by omega)
def Gx (N:Nat)(l:Law)(w:Sl Sound)(i:Nat):Sl Sound:=(N1 N l (w.sub i (i+l.If.n))).getD Sl.nil
def X9 (N:Nat)(l:Law)(w:Sl Sound)(i:Nat):Sl Sound:=AG6 w i l.If.n (Gx N l w i)
theorem vOk {w:Sl Sound}(h:wOk w):okW w:=⟨by have:=h.1;omega,fun i a=>(h.2 i a).ok⟩
theorem Ge {N:Nat}(a:1000<=N){l:Law}(b:AG4 l){w:Sl Sound}(hw:∀j,j<w.n->vS (w.g j)){i:Nat}(o:i+l.If.n<=w.n) :N1 N l (w.sub i (i+l.If.n))=some (Gx N l w i)/\Bd N l (w.sub i (i+l.If.n))=some (Gx N l w i)/\(Gx N l w i).n=l.Out.n/\∀j,j<(Gx N l w i).n->vS ((Gx N l w i).g j):=by
 obtain⟨s,h1,c,d,f⟩:=AD7 a b (cut:=w.sub i (i+l.If.n)) (by show i+l.If.n-i=_;omega) fun j m=>(hw (i+j) (by have:j<i+l.If.n-i:=m;omega)).ok;have e:Gx N l w i=s:=by unfold Gx;rw[h1];rfl
 rw[e];exact⟨h1,c,d,f⟩
theorem cat3 (a b c:Sl Sound):Av4 (Sl.of [a,b,c]:Sl (Sl Sound)) 3=(a.app b).app c:=by show (((Sl.nil:Sl Sound).app a).app b).app c=_;rw[AE0 (s:=(Sl.nil:Sl Sound)) rfl]
theorem Ae4 {N:Nat}(d:1000<=N){a b c:Sl Sound}(ha:a.n<=3000000)(hb:b.n<=3000000)(hc:c.n<=3000000):B1 N (Sl.of [a,b,c]:Sl (Sl Sound))=some ((a.app b).app c):=by
 have h:=Vx (N:=N) (s:=(Sl.of [a,b,c]:Sl (Sl Sound))) (by show 3<1000;omega) d fun i f=>by
  match i,f with
  |0,_=>exact ha
  |1,_=>exact hb
  |2,_=>exact hc
 rw[h];exact congrArg some (cat3 a b c)
theorem EW {N:Nat}(a:1000<=N){l:Law}(b:AG4 l){w:Sl Sound}(c:w.n<1000)(hw:∀j,j<w.n->vS (w.g j)){i:Nat}(d:i+l.If.n<=w.n) :P8 N l w i=some (X9 N l w i)/\P7 N l w i=some (X9 N l w i):=by
 obtain⟨h1,f,m,o⟩:=Ge a b hw d;have q:=b.1;constructor
 ·unfold P8;rw[Da (by omega),if_pos (by omega),AP2,AP2,h1,AP5,if_pos (by omega),
   Ae4 a (by show i<=_;omega) (by omega) (by show w.n-(i+l.If.n)<=_;omega)]
  rfl
 ·unfold P7;rw[Da (by omega),AP2,AP2,AE0 (s:=(Sl.of []:Sl Sound)) rfl,if_pos ⟨by omega,by show (0+i)*8<=_/\0+i<=_;omega⟩,if_pos (by omega),f,AP5,
   if_pos (by show (i+(Gx N l w i).n)*8<=_/\i+(Gx N l w i).n<=_;omega),if_pos ⟨by omega,by show (i+(Gx N l w i).n+(w.n-(i+l.If.n)))*8<=_/\i+(Gx N l w i).n+(w.n-(i+l.If.n))<=_;omega⟩]
  rfl
def SE {α : Type}(s t:Sl α):Prop:=s.n=t.n/\∀i,i<s.n->s.g i=t.g i
theorem SE.refl {α : Type}(s:Sl α):SE s s:=⟨rfl,fun _ _=>rfl⟩
theorem SE.symm {α : Type}{s t:Sl α}(h:SE s t):SE t s:=⟨h.1.symm,fun i a=>(h.2 i (by rw[h.1];exact a)).symm⟩
theorem SE.trans {α : Type}{s t u:Sl α}(h:SE s t)(h' : SE t u):SE s u:=⟨h.1.trans h'.1,fun i a=>(h.2 i a).trans (h'.2 i (by rw[<- h.1];exact a))⟩
theorem SE.app {α : Type}{s t u v:Sl α}(h:SE s t)(h' : SE u v):SE (s.app u) (t.app v):=⟨by show s.n+u.n=t.n+v.n;rw[h.1,h'.1],fun i a=>by
 show (if i<s.n then s.g i else u.g (i-s.n))=if i<t.n then t.g i else v.g (i-t.n)
 have a:i<s.n+u.n:=a;rw[<- h.1];split
 ·exact h.2 i (by assumption)
 ·exact h'.2 _ (by omega)⟩
theorem SE.drop {α : Type}{s t:Sl α}(h:SE s t)(k:Nat):SE (s.drop k) (t.drop k):=⟨by show s.n-k=t.n-k;rw[h.1],fun i a=>by have a:i<s.n-k:=a;exact h.2 _ (by omega)⟩
theorem SE.take {α : Type}{s t:Sl α}(h:SE s t){k:Nat}(hk:k<=s.n):SE (s.take k) (t.take k):=⟨rfl,fun i a=>h.2 i (by have a:i<k:=a;omega)⟩
theorem SE.sub {α : Type}{s t:Sl α}(h:SE s t){a b:Nat}(hk:b<=s.n):SE (s.sub a b) (t.sub a b):=⟨rfl,fun i c=>h.2 _ (by have c:i<b-a:=c;omega)⟩
theorem SE.v {s t:Sl Sound}(h:SE s t)(b:∀j,j<s.n->vS (s.g j)):∀j,j<t.n->vS (t.g j):=fun j a=>by rw[<- h.2 j (by rw[h.1];exact a)];exact b j (by rw[h.1];exact a)
theorem SE.wOk {s t:Sl Sound}(h:SE s t)(a:wOk s):wOk t:=⟨by rw[<- h.1];exact a.1,h.v a.2⟩
theorem QE {w w' : Sl Sound}(h:SE w w'):∀p:Pat,PR w p=PR w' p
 |.nil=>rfl
 |.mk kind is no mn mx m g=>by
  have ih:(fun i=>PR w (g i))=fun i=>PR w' (g i):=funext fun i=>QE h (g i);have ih1:∀i,PR w (g i)=PR w' (g i):=fun i=>congrFun ih i;have e1:∀a,(a<w.n↔a<w'.n):=fun a=>by rw[h.1]
  funext a b;unfold PR;rw[ih];simp only[ih1,<- h.1];by_cases ha:a<w.n
  ·rw[h.2 a ha]
  ·simp[ha]
theorem YK {l:Law}{w w' : Sl Sound}(h:SE w w'){i:Nat}:OU l w i↔OU l w' i:=by
 suffices H:∀{w w' : Sl Sound},SE w w' -> OU l w i->OU l w' i by exact⟨H h,H h.symm⟩
 intro w w' h;rintro⟨h1,f,g,m,n,q,⟨a,ha,c⟩,b,hb,d⟩;have hn:=h.1;refine⟨by omega,fun j o=>?_,g,m,h.wOk n,by omega,⟨a,by omega,?_⟩,b,by omega,?_⟩
 ·rw[<- h.2 (i+j) (by omega)];exact f j o
 ·rw[<- QE h];exact c
 ·rw[<- QE h];exact d
structure LE (l l' : Law):Prop where
 name:l'.Name=l.Name
 left:PE l.Left l'.Left
 right:PE l.Right l'.Right
 cond:SE l.If l'.If
 out:SE l.Out l'.Out
 mode:l'.Mode=l.Mode
theorem LE.refl (l:Law):LE l l:=⟨rfl,Vv _,Vv _,SE.refl _,SE.refl _,rfl⟩
theorem LE.symm {l l' : Law}(h:LE l l'):LE l' l:=⟨h.name.symm,Vw h.left,Vw h.right,h.cond.symm,h.out.symm,h.mode.symm⟩
theorem AE1 {l l' : Law}(h:LE l l'){w:Sl Sound}{i:Nat}:OU l w i↔OU l' w i:=by
 suffices H:∀{l l' : Law},LE l l' -> OU l w i->OU l' w i by exact⟨H h,H h.symm⟩
 intro l l' h;rintro⟨h1,m,f,g,n,o,⟨a,ha,c⟩,b,hb,d⟩;have hn:=h.cond.1;refine⟨by omega,fun j q=>?_,(Jh h.left).1 f,(Jh h.right).1 g,n,by omega,⟨a,ha,?_⟩,b,hb,?_⟩
 ·rw[<- h.cond.2 j (by omega)];exact m j (by omega)
 ·rw[<- AD9 40 (Mx 40 _ (by omega) f _ (by simp)) h.left];exact c
 ·rw[<- hn,<- AD9 40 (Mx 40 _ (by omega) g _ (by simp)) h.right];exact d
theorem Hr {l l' : Law}(e:LE l l'){w w' : Sl Sound}(h:SE w w'){i:Nat}:OU l w i↔OU l' w' i:=(AE1 e).trans (YK h)
theorem Kv {l l' : Law}(h:LE l l')(hl:Kj l):Kj l':=by obtain⟨⟨h1,a,b⟩,c,g,j,d⟩:=hl;have m:=h.cond.1;have n:=h.out.1;exact⟨⟨MA h.left h1,MA h.right a,fun i f=>by rw[<- h.cond.2 i (by omega)];exact b i (by omega)⟩,by rw[h.name];exact c,by omega,by omega,fun i f=>by rw[<- h.out.2 i (by omega)];exact d i (by omega)⟩
theorem AE2 {l l' : Law}(h:LE l l')(hl:AG4 l):AG4 l':=by have a:=h.cond.1;have b:=h.out.1;exact⟨by rw[<- b];exact hl.1,fun i c=>by rw[<- h.out.2 i (by omega),<- a];exact hl.2 i (by omega)⟩
theorem Vy {l l' : Law}(h:LE l l')(hl:AG5 l):AG5 l':=by obtain⟨⟨h1,a,b⟩,c,d,j,f,m,n,g⟩:=hl;have o:=h.cond.1;have q:=h.out.1;have hm:=h.mode;exact⟨⟨MA h.left h1,MA h.right a,fun i r=>by rw[<- h.cond.2 i (by omega)];exact b i (by omega)⟩,(Jh h.left).1 c,(Jh h.right).1 d,by omega,AE2 h f,by omega,by omega,by omega⟩
theorem CZ {N:Nat}{l l' : Law}(h:LE l l'):chkAll N l↔chkAll N l':=by
 suffices H:∀{l l' : Law},LE l l' -> chkAll N l->chkAll N l' by exact⟨H h,H h.symm⟩
 rintro l l' h ⟨h1,b,c,j,m,n,o,q,d,a⟩;have f:=h.cond.1;have r:=h.out.1;have hm:=h.mode;exact⟨by rw[h.name];exact h1,(Jh h.left).1 b,(Jh h.right).1 c,by omega,by omega,by omega,by omega,by omega,
  fun i g=>by rw[<- h.cond.2 i (by omega)];exact d i (by omega),fun i g=>by rw[<- h.out.2 i (by omega),<- f];exact a i (by omega)⟩
theorem AE3 {N:Nat}{l l' : Law}(h:LE l l'){e:Int}(b:AD8 N l e):AD8 N l' e:=by
 rcases b with⟨h1,a⟩ | ⟨h1,a⟩
 ·exact .inl ⟨h1,(CZ h).1 a⟩
 ·exact .inr ⟨h1,fun g=>a ((CZ h).2 g)⟩
theorem Ae5 {N:Nat}{l:Law}{c c' : Sl Sound}(h:SE c c'):N1 N l c=N1 N l c':=by
 unfold N1;congr 1;funext self x1 x2;by_cases h1:(decide (x2<(l.Out.n:Int)))=true
 case neg=>rw[if_neg h1,if_neg h1]
 rw[if_pos h1,if_pos h1,<- h.1];have e1:∀y:Int,(0:Int)<=y->y<(c.n:Int)->c.g y.toNat=c'.g y.toNat:=fun y i h1=>h.2 _ (by omega);by_cases b:(0:Int)<=x2/\x2<(l.Out.n:Int)
 case neg=>rw[if_neg b,if_neg b]
 rw[if_pos b,if_pos b];split
 ·rename_i f;have e2:(⟨(if (decide (0<=(l.Out.g x2.toNat).From)) then (c.g (l.Out.g x2.toNat).From.toNat).Plus else 0),(if (decide (0<=(l.Out.g x2.toNat).From)) then (c.g (l.Out.g x2.toNat).From.toNat).Minus else 0)⟩:Sound) =
   ⟨(if (decide (0<=(l.Out.g x2.toNat).From)) then (c'.g (l.Out.g x2.toNat).From.toNat).Plus else 0),(if (decide (0<=(l.Out.g x2.toNat).From)) then (c'.g (l.Out.g x2.toNat).From.toNat).Minus else 0)⟩:=by
   by_cases a:decide (0<=(l.Out.g x2.toNat).From)=true
   ·have:=f a
    rw[if_pos a,if_pos a,if_pos a,if_pos a,e1 _ this.1 this.2]
   ·rw[if_neg a,if_neg a,if_neg a,if_neg a]
  rw[e2];congr 1;funext y5;split
  ·split
   ·rename_i d;rw[e1 _ d.1 d.2]
   ·rfl
  ·rfl
 ·rfl
theorem YL {N:Nat}{l l' : Law}(h:SE l.Out l'.Out)(c:Sl Sound):N1 N l c=N1 N l' c:=by
 unfold N1;congr 1;funext self x1 x2;rw[<- h.1];by_cases h1:(0:Int)<=x2/\x2<(l.Out.n:Int)
 ·rw[h.2 x2.toNat (by omega)]
 ·by_cases a:(decide (x2<(l.Out.n:Int)))=true
  ·rw[if_pos a,if_pos a,if_neg h1,if_neg h1]
  ·rw[if_neg a,if_neg a]
theorem MB {N:Nat}{l l' : Law}(e:LE l l'){w w' : Sl Sound}(h:SE w w'){i:Nat}(a:i+l.If.n<=w.n):Gx N l w i=Gx N l' w' i:=by unfold Gx;rw[Ae5 (h.sub a),YL e.out,<- e.cond.1]
theorem JV {N:Nat}{l l' : Law}(e:LE l l'){w w' : Sl Sound}(h:SE w w'){i:Nat}(a:i+l.If.n<=w.n):SE (X9 N l w i) (X9 N l' w' i):=by unfold X9 AG6;rw[MB e h a,<- e.cond.1];exact ((h.take (by omega)).app (SE.refl _)).app (h.drop _)
def RL:List (Int×Sl Sound)->List (Int×Sl Sound)->Prop
 |[],[]=>True
 |(p,v)::L,(q,u)::M=>p=q/\SE v u/\RL L M
 |_,_=>False
def Ji:Sl Int->Sl (Sl Sound)->List (Int×Sl Sound)->Sl Int×Sl (Sl Sound)×Int
 |x,y,[]=>(x,y,0)
 |x,y,(p,v)::L=>if 32<v.n then (Sl.nil,Sl.nil,11)else Ji (x.push p) (y.push v) L
abbrev Ti:=List (Int×Sl Sound)
def vL (L:Ti):Prop:=∀x∈L,∀j,j<x.2.n->vS (x.2.g j)
theorem Tj:vL []:=fun x hx=>absurd hx (by simp)
theorem Vz {x:Int×Sl Sound}{L:Ti}(h:∀j,j<x.2.n->vS (x.2.g j))(hL:vL L):vL (x::L):=fun y hy=>by
 rcases AS6.1 hy with rfl|hy
 ·exact h
 ·exact hL y hy
def Tk (N:Nat)(l:Law)(a:Sl Sound->Int->Option Ti)(x5:Sl Sound)(x6:Int):Option Ti:=
 if (decide ((wrap .i64 (x6+(l.If.n:Int)))<=(x5.n:Int))) then
  (BS N l x5 x6).bind fun c=>
  if (!c) then
   a x5 (wrap .i64 (x6+1))
  else
   (P8 N l x5 x6).bind fun b=>
   AB (x6,b) (
    if ((l.If.n:Int)==0) then
     a b (wrap .i64 ((wrap .i64 (x6+(l.Out.n:Int)))+1))
    else
     a b (wrap .i64 (x6+(l.Out.n:Int)))
    )
 else
  some []
abbrev Aq5:=(Sl Int)×(Sl (Sl Sound))×Int
def Tl (N:Nat)(l:Law)(a:Sl Sound->Sl Int->Sl (Sl Sound)->Int->Option Aq5)(x1:Sl Sound)(x2:Sl Int)(x3:Sl (Sl Sound))(x4:Int):Option Aq5:=
 if (decide ((wrap .i64 (x4+(l.If.n:Int)))<=(x1.n:Int))) then
  (Ao N l x1 x4).bind fun y5=>
  if (!y5) then
   a x1 x2 x3 (wrap .i64 (x4+1))
  else
   (P7 N l x1 x4).bind fun y6=>
   if (decide (32<(y6.n:Int))) then
    some ((Sl.nil:Sl Int),(Sl.nil:Sl (Sl Sound)),11)
   else
    if (((x2.n+(Sl.of [x4]:Sl Int).n)*8<=140737488355328/\x2.n+(Sl.of [x4]:Sl Int).n<=140737488355328)/\((x3.n+(Sl.of [y6]:Sl (Sl Sound)).n)*24<=140737488355328/\x3.n+(Sl.of [y6]:Sl (Sl Sound)).n<=140737488355328))then
     if ((l.If.n:Int)==0) then
      a y6 (x2.push x4) (x3.push y6) (wrap .i64 ((wrap .i64 (x4+(l.Out.n:Int)))+1))
     else
      a y6 (x2.push x4) (x3.push y6) (wrap .i64 (x4+(l.Out.n:Int)))
    else none
 else
  some (x2,x3,0)
theorem Ae6 {N:Nat}(hN:3000<=N){l l' : Law}(hf:AG5 l)(s:LE l l'):∀(m:Nat) (w w' : Sl Sound) (i:Nat),SE w w' -> w.n<=100->(∀j,j<w.n->vS (w.g j))->i<=200->w.n+1<=i+m ->
 ∃L L',(∀M,m<M->Q2 M (Tk N l) w i=some L)/\vL L/\L.length<=m/\RL L L' /\ ∀M x2 x3,m<M->x2.n+m<=1000->x3.n+m<=1000->Ah4 M (Tl N l') w' x2 x3 i=some (Ji x2 x3 L'):=by
 obtain⟨hl,_,_,hk,x,y,_,_⟩:=hf;have h6:=x.1;obtain⟨z,_,_,a0,a1,_,_,_⟩:=Vy s ⟨hl,‹_›, ‹_›,hk,x,y,‹_›, ‹_›⟩;have c:l'.If.n=l.If.n:=s.cond.1.symm;have d:l'.Out.n=l.Out.n:=s.out.1.symm;intro m
 induction m with
 |zero=>
  intro w w' i a hn o hi hm;have a2:=a.1;refine⟨[],[],fun M q=>?_,Tj,AP8 _,trivial,fun M x2 x3 q _ _=>?_⟩
  ·obtain⟨M,rfl⟩:∃K,M=K+1:=⟨M-1,by omega⟩;rw[E1,Tk,Da (by omega),if_neg (by simp;omega)]
  ·obtain⟨M,rfl⟩:∃K,M=K+1:=⟨M-1,by omega⟩;rw[T6,Tl,c,d,Da (by omega),if_neg (by simp;omega),Ji]
 |succ m ih=>
  intro w w' i a hn o hi hm;have a2:=a.1;by_cases hle:i+l.If.n<=w.n
  case neg=>
   refine⟨[],[],fun M q=>?_,Tj,by simp,trivial,fun M x2 x3 q _ _=>?_⟩
   ·obtain⟨M,rfl⟩:∃K,M=K+1:=⟨M-1,by omega⟩;rw[E1,Tk,Da (by omega),if_neg (by simp;omega)]
   ·obtain⟨M,rfl⟩:∃K,M=K+1:=⟨M-1,by omega⟩;rw[T6,Tl,c,d,Da (by omega),if_neg (by simp;omega),Ji]
  have hw:okW w:=⟨by omega,fun j hj=>(o j hj).ok⟩;have t:=a.v o;have hw' : okW w':=⟨by omega,fun j hj=>(t j hj).ok⟩;obtain⟨b,e1,h1⟩:=Ad7 hN hl hk hw i (by omega);obtain⟨b',e2,h2⟩:=QC hN z a0 hw' i (by omega);obtain rfl:b' = b:=by rw[AS5,h1,h2,Hr s a]
  cases b'
  ·obtain⟨L,L',g1,g2,g3,g5,g4⟩:=ih w w' (i+1) a hn o (by omega) (by omega);refine⟨L,L',fun M q=>?_,g2,by omega,g5,fun M x2 x3 q hx hy=>?_⟩
   ·obtain⟨M,rfl⟩:∃K,M=K+1:=⟨M-1,by omega⟩;rw[E1,Tk,Da (by omega),if_pos (by simp;omega),e1,AP5,if_pos nf,C4 (by omega)];exact g1 M (by omega)
   ·obtain⟨M,rfl⟩:∃K,M=K+1:=⟨M-1,by omega⟩;rw[T6,Tl,c,d,Da (by omega),if_pos (by simp;omega),e2,AP5,if_pos nf,C4 (by omega)];exact g4 M x2 x3 (by omega) (by omega) (by omega)
  ·have hit:=h1.1 rfl;have hw32:=hit.2.2.2.2.1.1;have r1:=(EW (N:=N) (by omega) x (by omega) o hle).1;have r2:=(EW (N:=N) (l:=l') (w:=w') (i:=i) (by omega) a1 (by omega) t (by omega)).2;have r:=JV (N:=N) s a hle;have hrn:=r.1;obtain⟨_,_,p3,p4⟩:=Ge (N:=N) (by omega) x o hle;obtain⟨q1,q2⟩:=Ae3 hle o p4;have q1:(X9 N l w i).n=w.n-l.If.n+l.Out.n:=by rw[<- p3];exact q1
   have q2:∀j,j<(X9 N l w i).n->vS ((X9 N l w i).g j):=q2;obtain⟨L,L',g1,g2,g3,g5,g4⟩:=ih (X9 N l w i) (X9 N l' w' i) (if l.If.n=0 then i+l.Out.n+1 else i+l.Out.n) r (by omega) q2 (by split<;>omega) (by split<;>omega);refine⟨((i:Int),X9 N l w i)::L,((i:Int),X9 N l' w' i)::L',fun M q=>?_,Vz q2 g2,by simp;omega,⟨rfl,r,g5⟩,fun M x2 x3 q hx hy=>?_⟩
   ·obtain⟨M,rfl⟩:∃K,M=K+1:=⟨M-1,by omega⟩;rw[E1,Tk,Da (by omega),if_pos (by simp;omega),e1,AP5,if_neg (by simp),r1,AP5,Da (by omega),C4 (by omega)];have g1:=g1 M (by omega);by_cases f:l.If.n=0
    ·rw[if_pos f]at g1;rw[if_pos (by simp[f]),g1];rfl
    ·rw[if_neg f]at g1;rw[if_neg (by simp[f]),g1];rfl
   ·obtain⟨M,rfl⟩:∃K,M=K+1:=⟨M-1,by omega⟩;rw[T6,Tl,c,d,Da (by omega),if_pos (by simp;omega),e2,AP5,if_neg (by simp),r2,AP5,Da (by omega),C4 (by omega),Ji];by_cases u:32<(X9 N l' w' i).n
    ·rw[if_pos (by simp;omega),if_pos u]
    rw[if_neg (by simp;omega),if_neg u,if_pos (by show ((x2.n+1)*8<=_/\x2.n+1<=_)/\(x3.n+1)*24<=_/\x3.n+1<=_;omega)];have g4:=g4 M (x2.push (i:Int)) (x3.push (X9 N l' w' i)) (by omega) (by show x2.n+1+m<=_;omega) (by show x3.n+1+m<=_;omega);by_cases f:l.If.n=0
    ·rw[if_pos f]at g4;rw[if_pos (by simp[f]),g4]
    ·rw[if_neg f]at g4;rw[if_neg (by simp[f]),g4]
def Ae7 (N:Nat)(l:Law)(a:Sl Sound->Int->Option Ti)(x7:Sl Sound)(x8:Int):Option Ti:=
 if (decide (0<=x8)) then
  (BS N l x7 x8).bind fun c=>
  if (!c) then
   a x7 (wrap .i64 (x8-1))
  else
   (P8 N l x7 x8).bind fun b=>
   AB (x8,b) (
    a b (wrap .i64 (x8-(if (l.If.n:Int)<1 then 1 else (l.If.n:Int))))
    )
 else
  some []
def Ae8 (N:Nat)(l:Law)(a:Sl Sound->Sl Int->Sl (Sl Sound)->Int->Option Aq5)(x1:Sl Sound)(x2:Sl Int)(x3:Sl (Sl Sound))(x4:Int):Option Aq5:=
 if (decide (0<=x4)) then
  (Ao N l x1 x4).bind fun y5=>
  if (!y5) then
   a x1 x2 x3 (wrap .i64 (x4-1))
  else
   (P7 N l x1 x4).bind fun y6=>
   if (decide (32<(y6.n:Int))) then
    some ((Sl.nil:Sl Int),(Sl.nil:Sl (Sl Sound)),11)
   else
    if (((x2.n+(Sl.of [x4]:Sl Int).n)*8<=140737488355328/\x2.n+(Sl.of [x4]:Sl Int).n<=140737488355328)/\((x3.n+(Sl.of [y6]:Sl (Sl Sound)).n)*24<=140737488355328/\x3.n+(Sl.of [y6]:Sl (Sl Sound)).n<=140737488355328))then
     if ((l.If.n:Int)==0) then
      a y6 (x2.push x4) (x3.push y6) (wrap .i64 ((wrap .i64 (x4-(l.If.n:Int)))-1))
     else
      a y6 (x2.push x4) (x3.push y6) (wrap .i64 (x4-(l.If.n:Int)))
    else none
 else
  some (x2,x3,0)
theorem Aq6 {N:Nat}(hN:3000<=N){l l' : Law}(hf:AG5 l)(r:LE l l'):∀(m:Nat) (w w' : Sl Sound) (i:Int),SE w w' -> w.n<=100->(∀j,j<w.n->vS (w.g j)) -> -100<=i->i+1<=m->m<=200 ->
 ∃L L',(∀M,m<M->Q2 M (Ae7 N l) w i=some L)/\vL L/\L.length<=m/\RL L L' /\ ∀M x2 x3,m<M->x2.n+m<=1000->x3.n+m<=1000->Ah4 M (Ae8 N l') w' x2 x3 i=some (Ji x2 x3 L'):=by
 obtain⟨hl,_,_,hk,x,y,_,_⟩:=hf;have h6:=x.1;obtain⟨z,_,_,a0,a1,_,_,_⟩:=Vy r ⟨hl,‹_›, ‹_›,hk,x,y,‹_›, ‹_›⟩;have c:l'.If.n=l.If.n:=r.cond.1.symm;have hof:l'.Out.n=l.Out.n:=r.out.1.symm;intro m
 induction m with
 |zero=>
  intro w w' i a hn d hi hm a2;have a3:=a.1;refine⟨[],[],fun M f=>?_,Tj,AP8 _,trivial,fun M x2 x3 f _ _=>?_⟩
  ·obtain⟨M,rfl⟩:∃K,M=K+1:=⟨M-1,by omega⟩;rw[E1,Ae7,if_neg (by simp;omega)]
  ·obtain⟨M,rfl⟩:∃K,M=K+1:=⟨M-1,by omega⟩;rw[T6,Ae8,c,if_neg (by simp;omega),Ji]
 |succ m ih=>
  intro w w' i a hn d hi hm a2;have a3:=a.1;by_cases hle:0<=i
  case neg=>
   refine⟨[],[],fun M f=>?_,Tj,by simp,trivial,fun M x2 x3 f _ _=>?_⟩
   ·obtain⟨M,rfl⟩:∃K,M=K+1:=⟨M-1,by omega⟩;rw[E1,Ae7,if_neg (by simp;omega)]
   ·obtain⟨M,rfl⟩:∃K,M=K+1:=⟨M-1,by omega⟩;rw[T6,Ae8,c,if_neg (by simp;omega),Ji]
  obtain⟨k,rfl⟩:∃k:Nat,i=(k:Int):=⟨i.toNat,by omega⟩;have hw:okW w:=⟨by omega,fun j hj=>(d j hj).ok⟩;have s:=a.v d;have hw' : okW w':=⟨by omega,fun j hj=>(s j hj).ok⟩;obtain⟨b,e1,h1⟩:=Ad7 hN hl hk hw k (by omega);obtain⟨b',e2,h2⟩:=QC hN z a0 hw' k (by omega);obtain rfl:b' = b:=by rw[AS5,h1,h2,Hr r a]
  cases b'
  ·obtain⟨L,L',g1,g2,g3,g5,g4⟩:=ih w w' ((k:Int)-1) a hn d (by omega) (by omega) (by omega);refine⟨L,L',fun M f=>?_,g2,by omega,g5,fun M x2 x3 f hx hy=>?_⟩
   ·obtain⟨M,rfl⟩:∃K,M=K+1:=⟨M-1,by omega⟩;rw[E1,Ae7,if_pos (by simp),e1,AP5,if_pos nf,F2 (by omega) (by omega)];exact g1 M (by omega)
   ·obtain⟨M,rfl⟩:∃K,M=K+1:=⟨M-1,by omega⟩;rw[T6,Ae8,c,if_pos (by simp),e2,AP5,if_pos nf,F2 (by omega) (by omega)];exact g4 M x2 x3 (by omega) (by omega) (by omega)
  ·have t:=h1.1 rfl;have hle:=t.1;have hw32:=t.2.2.2.2.1.1;have r1:=(EW (N:=N) (by omega) x (by omega) d hle).1;have r2:=(EW (N:=N) (l:=l') (w:=w') (i:=k) (by omega) a1 (by omega) s (by omega)).2;have o:=JV (N:=N) r a hle;have hrn:=o.1;obtain⟨_,_,p3,p4⟩:=Ge (N:=N) (by omega) x d hle;obtain⟨q1,q2⟩:=Ae3 hle d p4;have q1:(X9 N l w k).n=w.n-l.If.n+l.Out.n:=by rw[<- p3];exact q1
   have q2:∀j,j<(X9 N l w k).n->vS ((X9 N l w k).g j):=q2;obtain⟨L,L',g1,g2,g3,g5,g4⟩:=ih (X9 N l w k) (X9 N l' w' k) (if l.If.n=0 then (k:Int)-1 else (k:Int)-l.If.n) o (by omega) q2 (by split<;>omega) (by split<;>omega) (by omega);refine⟨((k:Int),X9 N l w k)::L,((k:Int),X9 N l' w' k)::L',fun M f=>?_,Vz q2 g2,by simp;omega,⟨rfl,o,g5⟩,fun M x2 x3 f hx hy=>?_⟩
   ·obtain⟨M,rfl⟩:∃K,M=K+1:=⟨M-1,by omega⟩;rw[E1,Ae7,if_pos (by simp),e1,AP5,if_neg (by simp),r1,AP5];have g1:=g1 M (by omega);by_cases q:l.If.n=0
    ·rw[if_pos q]at g1;rw[if_pos (by omega),F2 (by omega) (by omega),g1];rfl
    ·rw[if_neg q]at g1;rw[if_neg (by omega),F2 (by omega) (by omega),g1];rfl
   ·obtain⟨M,rfl⟩:∃K,M=K+1:=⟨M-1,by omega⟩;rw[T6,Ae8,c,if_pos (by simp),e2,AP5,if_neg (by simp),r2,AP5,Ji];by_cases u:32<(X9 N l' w' k).n
    ·rw[if_pos (by simp;omega),if_pos u]
    rw[if_neg (by simp;omega),if_neg u,if_pos (by show ((x2.n+1)*8<=_/\x2.n+1<=_)/\(x3.n+1)*24<=_/\x3.n+1<=_;omega)];have g4:=g4 M (x2.push (k:Int)) (x3.push (X9 N l' w' k)) (by omega) (by show x2.n+1+m<=_;omega) (by show x3.n+1+m<=_;omega);rw[F2 (n:=(k:Int)-(l.If.n:Int)) (by omega) (by omega)];by_cases q:l.If.n=0
    ·rw[if_pos q]at g4;rw[if_pos (by simp[q]),F2 (by omega) (by omega),show (k:Int)-(l.If.n:Int)-1=(k:Int)-1 by omega,g4]
    ·rw[if_neg q]at g4;rw[if_neg (by simp[q]),g4]
end Go.AM
namespace Go.AM
open IntKind (wrap)
open Go.Proofs
abbrev AllS:=Sl Sound×Int×Int
def Kk (N:Nat)(l:Law)(q0:Sl Sound)(a:AllS->Option Ti)(x1:Int)(z1:AllS):Option Ti:=
 if (decide (x1<z1.2.1)) then
  a (z1.1,z1.2.1,z1.2.2)
 else
  if (((0:Int)<=(wrap .i64 (x1+z1.2.2))/\(wrap .i64 (x1+z1.2.2))<=(z1.1.n:Int))/\((0:Int)<=x1/\x1<=(wrap .i64 (x1+(l.If.n:Int)))/\(wrap .i64 (x1+(l.If.n:Int)))<=(q0.n:Int)))then
   (N1 N l (q0.sub x1.toNat (wrap .i64 (x1+(l.If.n:Int))).toNat)).bind fun y6=>
   if ((0:Int)<=(wrap .i64 (x1+(l.If.n:Int)))/\(wrap .i64 (x1+(l.If.n:Int)))<=(q0.n:Int))then
    (B1 N (Sl.of [z1.1.take (wrap .i64 (x1+z1.2.2)).toNat,y6,q0.drop (wrap .i64 (x1+(l.If.n:Int))).toNat]:Sl (Sl Sound))).bind fun y7=>
    AB (x1,y7) (
     a (y7,wrap .i64 (x1+(if (l.If.n:Int)<1 then 1 else (l.If.n:Int))),wrap .i64 ((wrap .i64 (z1.2.2+(l.Out.n:Int)))-(l.If.n:Int)))
     )
   else none
  else none
def AG7 (N:Nat)(a:Law)(b:Sl Sound)(c:Sl Int->Sl (Sl Sound)->Sl Sound->Int->Option Aq5)(x2:Sl Int)(x3:Sl (Sl Sound))(x4:Sl Sound)(x5:Int):Option Aq5:=
 if (decide (x5<=(b.n:Int))) then
  (Ao N a b x5).bind fun y5=>
  if (!y5) then
   lt (fun (z3:Sl Sound)=>
    c x2 x3 z3 (wrap .i64 (x5+1))
    ) fun k3=>
    if (decide (x5<(b.n:Int))) then
     if (((0:Int)<=x5/\x5<(b.n:Int))/\((x4.n+(Sl.of [b.g x5.toNat]:Sl Sound).n)*8<=140737488355328/\x4.n+(Sl.of [b.g x5.toNat]:Sl Sound).n<=140737488355328))then
      k3 (x4.push (b.g x5.toNat))
     else none
    else
     k3 x4
  else
   if ((0:Int)<=x5/\x5<=(wrap .i64 (x5+(a.If.n:Int)))/\(wrap .i64 (x5+(a.If.n:Int)))<=(b.n:Int))then
    (Bd N a (b.sub x5.toNat (wrap .i64 (x5+(a.If.n:Int))).toNat)).bind fun y6=>
    if ((x4.n+y6.n)*8<=140737488355328/\x4.n+y6.n<=140737488355328)then
     if ((x2.n+(Sl.of [x5]:Sl Int).n)*8<=140737488355328/\x2.n+(Sl.of [x5]:Sl Int).n<=140737488355328)then
      if (((((Sl.of []:Sl Sound).n+(x4.app y6).n)*8<=140737488355328/\(Sl.of []:Sl Sound).n+(x4.app y6).n<=140737488355328)/\((0:Int)<=(wrap .i64 (x5+(a.If.n:Int)))/\(wrap .i64 (x5+(a.If.n:Int)))<=(b.n:Int)))/\((((Sl.of []:Sl Sound).app (x4.app y6)).n+(b.drop (wrap .i64 (x5+(a.If.n:Int))).toNat).n)*8<=140737488355328/\((Sl.of []:Sl Sound).app (x4.app y6)).n+(b.drop (wrap .i64 (x5+(a.If.n:Int))).toNat).n<=140737488355328))then
       if (decide (32<((((Sl.of []:Sl Sound).app (x4.app y6)).app (b.drop (wrap .i64 (x5+(a.If.n:Int))).toNat)).n:Int))) then
        some ((Sl.nil:Sl Int),(Sl.nil:Sl (Sl Sound)),11)
       else
        if ((x3.n+(Sl.of [((Sl.of []:Sl Sound).app (x4.app y6)).app (b.drop (wrap .i64 (x5+(a.If.n:Int))).toNat)]:Sl (Sl Sound)).n)*24<=140737488355328/\x3.n+(Sl.of [((Sl.of []:Sl Sound).app (x4.app y6)).app (b.drop (wrap .i64 (x5+(a.If.n:Int))).toNat)]:Sl (Sl Sound)).n<=140737488355328)then
         if ((a.If.n:Int)==0) then
          if (decide ((wrap .i64 (x5+(a.If.n:Int)))<(b.n:Int))) then
           if (((0:Int)<=(wrap .i64 (x5+(a.If.n:Int)))/\(wrap .i64 (x5+(a.If.n:Int)))<(b.n:Int))/\(((x4.app y6).n+(Sl.of [b.g (wrap .i64 (x5+(a.If.n:Int))).toNat]:Sl Sound).n)*8<=140737488355328/\(x4.app y6).n+(Sl.of [b.g (wrap .i64 (x5+(a.If.n:Int))).toNat]:Sl Sound).n<=140737488355328))then
            c (x2.push x5) (x3.push (((Sl.of []:Sl Sound).app (x4.app y6)).app (b.drop (wrap .i64 (x5+(a.If.n:Int))).toNat))) ((x4.app y6).push (b.g (wrap .i64 (x5+(a.If.n:Int))).toNat)) (wrap .i64 ((wrap .i64 (x5+(a.If.n:Int)))+1))
           else none
          else
           c (x2.push x5) (x3.push (((Sl.of []:Sl Sound).app (x4.app y6)).app (b.drop (wrap .i64 (x5+(a.If.n:Int))).toNat))) (x4.app y6) (wrap .i64 ((wrap .i64 (x5+(a.If.n:Int)))+1))
         else
          c (x2.push x5) (x3.push (((Sl.of []:Sl Sound).app (x4.app y6)).app (b.drop (wrap .i64 (x5+(a.If.n:Int))).toNat))) (x4.app y6) (wrap .i64 (x5+(a.If.n:Int)))
        else none
      else none
     else none
    else none
   else none
 else
  some (x2,x3,0)
abbrev vW (s:Sl Sound):Prop:=∀j,j<s.n->vS (s.g j)
theorem Av6 {s t:Sl Sound}(h:vW s)(h' : vW t):vW (s.app t):=fun j a=>by
 have a:j<s.n+t.n:=a;show vS (if j<s.n then s.g j else t.g (j-s.n));split
 ·exact h j (by assumption)
 ·exact h' _ (by omega)
theorem AE4 {s:Sl Sound}(h:vW s)(k:Nat):vW (s.drop k):=fun j a=>h _ (by have a:j<s.n-k:=a;omega)
theorem AE5 {s:Sl Sound}(h:vW s){k:Nat}(hk:k<=s.n):vW (s.take k):=fun j a=>h _ (by have a:j<k:=a;omega)
theorem Tm {x s:Sl Sound}{i:Nat}(b:i<s.n):SE (x.app (s.drop i)) ((x.push (s.g i)).app (s.drop (i+1))):=⟨by show x.n+(s.n-i)=x.n+1+(s.n-(i+1));omega,fun j _=>by
 show (if j<x.n then x.g j else s.g (i+(j-x.n)))=if j<x.n+1 then (if j<x.n then x.g j else s.g i)else s.g (i+1+(j-(x.n+1)))
 by_cases h1:j<x.n
 ·rw[if_pos h1,if_pos (by omega),if_pos h1]
 ·rw[if_neg h1];by_cases a:j=x.n
  ·rw[if_pos (by omega),if_neg h1,a];simp
  ·rw[if_neg (by omega)];congr 1;omega⟩
theorem Aq7 {a x t:Sl Sound}(h:SE a (x.app t)):SE (a.take x.n) x:=⟨rfl,fun j b=>by
 have b:j<x.n:=b;have hn:a.n=x.n+t.n:=h.1;have e:a.g j=if j<x.n then x.g j else t.g (j-x.n):=h.2 j (by omega)
 rw[if_pos b]at e;exact e⟩
theorem WS {N:Nat}{l:Law}{w:Sl Sound}{K:AllS->Option Ti}{acc:Sl Sound}{next sh:Int}:∀(d i:Nat),((i+d:Nat):Int)<=next->O6 (DH l w i) (Kk N l w) K (acc,next,sh)=O6 (DH l w (i+d)) (Kk N l w) K (acc,next,sh)
 |0,i,_=>rfl
 |d+1,i,h=>by
  have ih:=WS (N:=N) (l:=l) (w:=w) (K:=K) (acc:=acc) (next:=next) (sh:=sh) d (i+1) (by omega);rw[show i+(d+1)=i+1+d by omega,<- ih];by_cases a:OU l w i
  ·rw[Iy (by have:=a.1;omega) a];show Kk N l w (O6 (DH l w (i+1)) (Kk N l w) K) (i:Int) (acc,next,sh)=_;unfold Kk;rw[if_pos (by simp;omega)]
  ·rw[Iz a]
theorem AE6 {N:Nat}(hN:3000<=N){l l' : Law}(hf:AG5 l)(he:LE l l'){w w' : Sl Sound}(b:SE w w')(hn:w.n<=32)(hv:vW w):∀(m i:Nat) (x4 acc:Sl Sound) (sh next:Int),i<=w.n+1->w.n+1<=i+m ->
 (i<=w.n->SE acc (x4.app (w'.drop i))/\(x4.n:Int)=i+sh)->next<=i->x4.n<=7*i->vW acc -> -1000<=sh->sh<=1000 ->
 ∃L L',O6 (DH l w i) (Kk N l w) (fun _=>some []) (acc,next,sh)=some L/\vL L/\L.length<=m/\RL L L' /\ ∀M x2 x3,m<M->x2.n+m<=1000->x3.n+m<=1000->Ah4 M (AG7 N l' w') x2 x3 x4 i=some (Ji x2 x3 L'):=by
 obtain⟨hl,_,_,hk,ho,hko,_,_⟩:=hf;have h6:=ho.1;obtain⟨hl',_,_,hk',ho',_,_,_⟩:=Vy he ⟨hl,‹_›, ‹_›,hk,ho,hko,‹_›, ‹_›⟩;have d:l'.If.n=l.If.n:=he.cond.1.symm;have hn':=b.1;have hw:okW w:=⟨by omega,fun j hj=>(hv j hj).ok⟩;have r : vW w':=b.v hv;have hw' : okW w':=⟨by omega,fun j hj=>(r j hj).ok⟩;have fin:∀(m i:Nat) (x4 acc:Sl Sound) (sh next:Int),w.n<i->∃L L',O6 (DH l w i) (Kk N l w) (fun _=>some []) (acc,next,sh)=some L/\vL L/\L.length<=m/\RL L L' /\ ∀M x2 x3,m<M->x2.n+m<=1000->x3.n+m<=1000->Ah4 M (AG7 N l' w') x2 x3 x4 i=some (Ji x2 x3 L'):=by
  intro m i x4 acc sh next hi
  refine⟨[],[],by rw[Jg (by omega)];rfl,Tj,by simp,trivial,fun M x2 x3 hM _ _=>?_⟩;obtain⟨M,rfl⟩:∃K,M=K+1:=⟨M-1,by omega⟩;rw[T6,AG7,if_neg (by simp;omega),Ji]
 intro m
 induction m with
 |zero=>exact fun i x4 acc sh next h1 t _ _ _ _ _ _=>fin 0 i x4 acc sh next (by omega)
 |succ m ih=>
  intro i x4 acc sh next hi hm hx hnx h7 f u x
  by_cases hle:i<=w.n
  case neg=>exact fin _ i x4 acc sh next (by omega)
  obtain⟨o,hnn⟩:=hx hle;have han:acc.n=x4.n+(w.n-i):=by rw[o.1];show x4.n+(w'.n-i)=_;omega
  obtain⟨b',e2,t⟩:=QC hN hl' hk' hw' i (by omega);have t:=t.trans (Hr he b).symm;cases b'
  ·have hno:¬OU l w i:=fun h=>by have:=t.2 h;cases this
   rw[Iz hno];by_cases y:i<w.n
   ·obtain⟨L,L',g1,g2,g3,g5,g4⟩:=ih (i+1) (x4.push (w'.g i)) acc sh next (by omega) (by omega) (fun _=>⟨o.trans (Tm (by omega)),by show ((x4.n+1:Nat):Int)=_;omega⟩) (by omega) (by show x4.n+1<=_;omega) f u x
    refine⟨L,L',g1,g2,by omega,g5,fun M x2 x3 hM hx hy=>?_⟩;obtain⟨M,rfl⟩:∃K,M=K+1:=⟨M-1,by omega⟩;rw[T6,AG7,d,if_pos (by simp;omega),e2,AP5,if_pos nf,lt,if_pos (by simp;omega),if_pos ⟨by omega,by show (x4.n+1)*8<=_/\x4.n+1<=_;omega⟩,C4 (by omega),AP2];exact g4 M x2 x3 (by omega) (by omega) (by omega)
   ·obtain⟨L,L',g1,g2,g3,g5,g4⟩:=ih (i+1) x4 acc sh next (by omega) (by omega) (fun h=>by omega) (by omega) (by omega) f u x
    refine⟨L,L',g1,g2,by omega,g5,fun M x2 x3 hM hx hy=>?_⟩;obtain⟨M,rfl⟩:∃K,M=K+1:=⟨M-1,by omega⟩;rw[T6,AG7,d,if_pos (by simp;omega),e2,AP5,if_pos nf,lt,if_neg (by simp;omega),C4 (by omega)];exact g4 M x2 x3 (by omega) (by omega) (by omega)
  ·have z:=t.1 rfl;have a0:=z.1;rw[Iy hle z];obtain⟨p1,_,p3,p4⟩:=Ge (N:=N) (by omega) ho hv a0;obtain⟨_,p2,_,_⟩:=Ge (N:=N) (l:=l') (i:=i) (by omega) ho' r (by omega);rw[<- MB he b a0,d]at p2;generalize hY:Gx N l w i=Y at p1 p2 p3 p4;have c:SE (((acc.take x4.n).app Y).app (w.drop (i+l.If.n))) ((x4.app Y).app (w'.drop (i+l.If.n))):=((Aq7 o).app (SE.refl _)).app (b.drop _);have q:vW (((acc.take x4.n).app Y).app (w.drop (i+l.If.n))):=Av6 (Av6 (AE5 f (by omega)) p4) (AE4 hv _);generalize hZ:(((acc.take x4.n).app Y).app (w.drop (i+l.If.n)))=Z at c q;have hZn:Z.n=x4.n+Y.n+(w.n-(i+l.If.n)):=by rw[<- hZ]
   obtain⟨L,L',g1,g2,g3,g5,g4⟩:=ih (if l.If.n=0 then i+1 else i+l.If.n) (if l.If.n=0/\i<w.n then (x4.app Y).push (w'.g i)else x4.app Y) Z (sh+l.Out.n-l.If.n) (if l.If.n=0 then i+1 else i+l.If.n:Nat)
    (by split<;>omega) (by split<;>omega)
    (fun h=>by
     by_cases a:l.If.n=0
     ·rw[if_pos a]at h;rw[if_pos a,if_pos ⟨a,by omega⟩];rw[a]at c;exact⟨c.trans (Tm (by omega)),by show ((x4.n+Y.n+1:Nat):Int)=_;omega⟩
     ·rw[if_neg a,if_neg (by omega)];exact⟨c,by show ((x4.n+Y.n:Nat):Int)=_;omega⟩)
    (by omega)
    (by
     by_cases a:l.If.n=0
     ·rw[if_pos a];split
      ·show x4.n+Y.n+1<=_;omega
      ·show x4.n+Y.n<=_;omega
     ·rw[if_neg a,if_neg (by omega)];show x4.n+Y.n<=_;omega)
    q (by omega) (by omega)
   refine⟨((i:Int),Z)::L,((i:Int),(x4.app Y).app (w'.drop (i+l.If.n)))::L', ?_,Vz q g2,by simp;omega,⟨rfl,c,g5⟩,fun M x2 x3 hM hx hy=>?_⟩
   ·show Kk N l w (O6 (DH l w (i+1)) (Kk N l w) fun _=>some []) (i:Int) (acc,next,sh)=_;unfold Kk;have es:wrap .i64 ((i:Int)+sh)=((x4.n:Nat):Int):=by rw[F2 (by omega) (by omega),hnn]
    simp only[es];rw[Da (by omega),if_neg (by simp;omega),if_pos (by omega)];simp only[AP2];rw[p1,AP5,if_pos (by omega),Ae4 (by omega) (by show x4.n<=_;omega) (by omega) (by show w.n-(i+l.If.n)<=_;omega),AP5,hZ];have en:wrap .i64 ((i:Int)+(if (l.If.n:Int)<1 then 1 else (l.If.n:Int)))=((if l.If.n=0 then i+1 else i+l.If.n:Nat):Int):=by
     by_cases a:l.If.n=0
     ·rw[if_pos (by omega),if_pos a,F2 (by omega) (by omega)];omega
     ·rw[if_neg (by omega),if_neg a,F2 (by omega) (by omega)];omega
    have eh:wrap .i64 ((wrap .i64 (sh+(l.Out.n:Int)))-(l.If.n:Int))=sh+l.Out.n-l.If.n:=by rw[F2 (n:=sh+(l.Out.n:Int)) (by omega) (by omega),F2 (by omega) (by omega)]
    rw[en,eh];have sk:=WS (N:=N) (l:=l) (w:=w) (K:=fun _=>some []) (acc:=Z) (next:=((if l.If.n=0 then i+1 else i+l.If.n:Nat):Int)) (sh:=sh+l.Out.n-l.If.n) (if l.If.n=0 then 0 else l.If.n-1) (i+1) (by split<;>omega);rw[show i+1+(if l.If.n=0 then 0 else l.If.n-1)=(if l.If.n=0 then i+1 else i+l.If.n) by split<;>omega]at sk;show AB _ (O6 (DH l w (i+1)) (Kk N l w) (fun _=>some []) (Z,_,_))=_;rw[sk,g1];rfl
   ·obtain⟨M,rfl⟩:∃K,M=K+1:=⟨M-1,by omega⟩;have hdn:((x4.app Y).app (w'.drop (i+l.If.n))).n=x4.n+Y.n+(w'.n-(i+l.If.n)):=rfl;rw[T6,AG7,d,if_pos (by simp;omega),e2,AP5,if_neg (by simp),Da (by omega),if_pos (by omega)];simp only[AP2];rw[p2,AP5,if_pos (by omega),if_pos (by show (x2.n+1)*8<=_/\x2.n+1<=_;omega)];rw[if_pos ⟨⟨by show (0+(x4.n+Y.n))*8<=_/\0+(x4.n+Y.n)<=_;omega,by omega⟩,by simp only[AZ6];omega⟩,Ji];by_cases a1:32<((x4.app Y).app (w'.drop (i+l.If.n))).n
    ·rw[if_pos (by simp only[decide_eq_true_eq,AZ6];omega),if_pos a1]
    rw[if_neg (by simp only[decide_eq_true_eq,AZ6];omega),if_neg a1,AE0 (s:=(Sl.of []:Sl Sound)) rfl,if_pos (by show (x3.n+1)*24<=_/\x3.n+1<=_;omega)];have g4:=g4 M (x2.push (i:Int)) (x3.push ((x4.app Y).app (w'.drop (i+l.If.n)))) (by omega) (by show x2.n+1+m<=_;omega) (by show x3.n+1+m<=_;omega);by_cases a:l.If.n=0
    ·rw[if_pos (by simp[a])];rw[if_pos a]at g4;by_cases y:i<w.n
     ·rw[if_pos ⟨a,y⟩]at g4;rw[if_pos (by simp only[decide_eq_true_eq];omega),if_pos ⟨by omega,by show (x4.n+Y.n+1)*8<=_/\x4.n+Y.n+1<=_;omega⟩,C4 (by omega),show w'.g (i+l.If.n)=w'.g i by rw[a];rfl,show i+l.If.n+1=i+1 by omega];exact g4
     ·rw[if_neg (by omega)]at g4;rw[if_neg (by simp only[decide_eq_true_eq];omega),C4 (by omega),show i+l.If.n+1=i+1 by omega];exact g4
    ·rw[if_neg (by simp[a])];rw[if_neg a,if_neg (by omega)]at g4;exact g4
def trS (r r' : Aq5):Prop:=r.1=r'.1/\r.2.1.n=r'.2.1.n/\(∀i,i<r.2.1.n->SE (r.2.1.g i) (r'.2.1.g i))/\r.2.2=r'.2.2
theorem Av7:∀(L L' : Ti) (x:Sl Int) (y y' : Sl (Sl Sound)),RL L L' -> y.n=y'.n->(∀i,i<y.n->SE (y.g i) (y'.g i))->trS (Ji x y L) (Ji x y' L')
 |[],[],x,y,y',_,h1,h2=>⟨rfl,h1,h2,rfl⟩
 |(p,v)::L,(q,u)::M,x,y,y',⟨h3,h4,h5⟩,h1,h2=>by
  subst h3;unfold Ji;rw[<- h4.1];split
  ·exact⟨rfl,rfl,fun i a=>absurd a (AU0 i),rfl⟩
  ·refine Av7 L M _ _ _ h5 (by show y.n+1=y'.n+1;omega) fun i a=>?_;have a:i<y.n+1:=a;show SE (if i<y.n then y.g i else v) (if i<y'.n then y'.g i else u);rw[<- h1];split
   ·exact h2 i (by assumption)
   ·exact h4
 |[],_::_,_,_,_,h,_,_=>h.elim
 |_::_,[],_,_,_,h,_,_=>h.elim
theorem Ae9:∀(L:Ti) (x:Sl Int) (y:Sl (Sl Sound)),vL L->(∀i,i<y.n->wOk (y.g i))->(Ji x y L).2.2=11 \/ ((Ji x y L).2.2=0/\(Ji x y L).2.1.n<=y.n+L.length/\∀i,i<(Ji x y L).2.1.n->wOk ((Ji x y L).2.1.g i))
 |[],x,y,_,h=>.inr ⟨rfl,AP8 _,h⟩
 |(p,v)::L,x,y,hv,h=>by
  unfold Ji;split
  ·exact .inl rfl
  ·have:=Ae9 L (x.push p) (y.push v) (fun z b=>hv z (AR8 _ b)) fun i d=>by
    show wOk (if i<y.n then y.g i else v);split
    ·exact h i (by assumption)
    ·exact⟨by omega,hv (p,v) (by simp)⟩
   rcases this with h|⟨h1,a,c⟩
   ·exact .inl h
   ·refine .inr ⟨h1,?_,c⟩;have a:_<=y.n+1+L.length:=a;simp only[AS3];omega
theorem Tn:∀(L:Ti) (x:Sl Int) (y:Sl (Sl Sound)),x.n+L.length<=100000->y.n+L.length<=100000 ->
 O6 L (fun (a:Sl Int×Sl (Sl Sound)->Option Aq5) (x1:Int×(Sl Sound)) (z1:(Sl Int)×(Sl (Sl Sound)))=>
  if (decide (32<(x1.2.n:Int))) then
   some ((Sl.nil:Sl Int),(Sl.nil:Sl (Sl Sound)),11)
  else
   if ((z1.1.n+(Sl.of [x1.1]:Sl Int).n)*8<=140737488355328/\z1.1.n+(Sl.of [x1.1]:Sl Int).n<=140737488355328)then
    if ((z1.2.n+(Sl.of [x1.2]:Sl (Sl Sound)).n)*24<=140737488355328/\z1.2.n+(Sl.of [x1.2]:Sl (Sl Sound)).n<=140737488355328)then
     a (z1.1.push x1.1,z1.2.push x1.2)
    else none
   else none
  ) (fun (z1:(Sl Int)×(Sl (Sl Sound)))=>
   some (z1.1,z1.2,0)
  ) (x,y)=some (Ji x y L)
 |[],x,y,_,_=>rfl
 |(p,v)::L,x,y,hx,hy=>by
  simp only[AS3]at hx hy;have ih:=Tn L (x.push p) (y.push v) (by show x.n+1+_<=_;omega) (by show y.n+1+_<=_;omega);rw[O6,Ji];by_cases h:32<v.n
  ·rw[if_pos (by simp;omega),if_pos h]
  ·rw[if_neg (by simp;omega),if_neg h,if_pos (by show (x.n+1)*8<=_/\x.n+1<=_;omega),if_pos (by show (y.n+1)*24<=_/\y.n+1<=_;omega)];exact ih
def trE (N:Nat)(l:Law)(w:Sl Sound)(r:Aq5):Prop:=(r.2.2=17/\¬chkAll N l) \/ (chkAll N l/\Vr w r.2.2/\r.2.2≠0) \/ (chkAll N l/\wOk w/\(r.2.2=11 \/ (r.2.2=0/\r.2.1.n<=1000/\∀i,i<r.2.1.n->wOk (r.2.1.g i))))
theorem Af0 (e:Int):trS ((Sl.nil:Sl Int),(Sl.nil:Sl (Sl Sound)),e) ((Sl.nil:Sl Int),(Sl.nil:Sl (Sl Sound)),e):=⟨rfl,rfl,fun i a=>absurd a (AU0 i),rfl⟩
theorem Af1 {w w' : Sl Sound}(h:SE w w'){e:Int}(hw:Vr w e):Vr w' e:=by
 rcases hw with⟨h1,a⟩ | ⟨h1,⟨i,b,a⟩,c⟩ | ⟨h1,a⟩
 ·exact .inl ⟨by rw[<- h.1];exact h1,a⟩
 ·exact .inr (.inl ⟨by rw[<- h.1];exact h1,⟨i,by rw[<- h.1];exact b,by rw[<- h.2 i b];exact a⟩,c⟩)
 ·exact .inr (.inr ⟨h.wOk h1,a⟩)
theorem AE7 {w w' : Sl Sound}(h:SE w w')(hw:∀i,i<w.n->okS (w.g i)):∀i,i<w'.n->okS (w'.g i):=fun i a=>by rw[<- h.2 i (by rw[h.1];exact a)];exact hw i (by rw[h.1];exact a)
theorem Af2 {N:Nat}(u:3000000<=N){l l' : Law}(hl:Kj l)(hle:LE l l'){w w' : Sl Sound}(a:SE w w')(hw:∀i,i<w.n->okS (w.g i)) :∃r r',CV N l w=some r/\CT N l' w' = some r' /\ trS r r' /\ trE N l w r:=by
 obtain⟨e,e1,_,v⟩:=Eh u hl;obtain⟨e0,_,e2,q⟩:=Eh u (Kv hle hl);obtain rfl:=Tg (AE3 hle v) q;unfold CV CT EN EL;rw[e1,e2,AP5,AP5];rcases v with⟨rfl,hc⟩ | ⟨rfl,hc⟩
 case inr=>rw[if_pos (by decide),if_pos (by decide)];exact⟨_,_,rfl,rfl,Af0 17,.inl ⟨rfl,hc⟩⟩
 rw[if_neg (by decide),if_neg (by decide)];obtain⟨e',e3,c⟩:=Gd (N:=N) (by omega) hw;obtain⟨e'',e4,j⟩:=CA (N:=N) (by omega) (AE7 a hw);obtain rfl:=Ix (Af1 a c) j;rw[e3,e4];simp only[AP5];by_cases d:e' = 0
 case neg=>rw[if_pos (by simpa using d),if_pos (by simpa using d)];exact⟨_,_,rfl,rfl,Af0 e', .inr (.inl ⟨hc,c,d⟩)⟩
 rw[if_neg (by simp[d]),if_neg (by simp[d])];have b:wOk w:=(N2 c).1 d;have o:=hc.f hl;obtain⟨s,_,_,hk,ho,y,z,a0⟩:=id o;have hn:=b.1;have t:=a.1;have key:∃L L',Bz N w l (l.If.n:Int) (l.Out.n:Int)=some L/\vL L/\L.length<=100/\RL L L' /\
  (if (l'.Mode==1) then (FQ N l' w').bind fun y2=>some (y2.1,y2.2.1,y2.2.2)
   else if (l'.Mode==2) then (CS N l' w').bind fun y3=>some (y3.1,y3.2.1,y3.2.2)
   else (Cx N l' w').bind fun y4=>some (y4.1,y4.2.1,y4.2.2))=some (Ji (Sl.nil:Sl Int) (Sl.nil:Sl (Sl Sound)) L'):=by
  unfold Bz;rw[hle.mode];by_cases c1:l.Mode=1
  ·rw[if_pos (show (l.Mode==1)=true by simp[c1]),if_pos (show (l.Mode==1)=true by simp[c1])];obtain⟨L,L',g1,g2,g3,g5,g4⟩:=AE6 (N:=N) (by omega) o hle a hn b.2 (w.n+1) 0 (Sl.nil:Sl Sound) w 0 0 (by omega) (by omega) (fun _=>⟨by rw[AE0 rfl];exact⟨a.1,fun i m=>by rw[a.2 i m];show _=w'.g (0+i);rw[AS4]⟩,rfl⟩) (by omega) (by show 0<=_;omega) b.2 (by omega) (by omega);have hh:=WQ (N:=N) (by omega) s hk (w:=w) (vOk b) 0 (by omega);refine⟨L,L', ?_,g2,by omega,g5,?_⟩
   ·show ((X4 N l w ((0:Nat):Int)).bind fun L1=>O6 L1 (Kk N l w) (fun _=>some []) (w,0,0))=_;rw[hh,AP5];exact g1
   ·have:FQ N l' w' = some _:=g4 N (Sl.nil:Sl Int) (Sl.nil:Sl (Sl Sound)) (by omega) (by show 0+_<=_;omega) (by show 0+_<=_;omega)
    rw[this];rfl
  rw[if_neg (show ¬(l.Mode==1)=true by simp[c1]),if_neg (show ¬(l.Mode==1)=true by simp[c1])];by_cases c2:l.Mode=2
  ·rw[if_pos (show (l.Mode==2)=true by simp[c2]),if_pos (show (l.Mode==2)=true by simp[c2])];obtain⟨L,L',g1,g2,g3,g5,g4⟩:=Ae6 (N:=N) (by omega) o hle (w.n+1) w w' 0 a (by omega) b.2 (by omega) (by omega);refine⟨L,L',g1 N (by omega),g2,by omega,g5,?_⟩
   have:CS N l' w' = some _:=g4 N (Sl.nil:Sl Int) (Sl.nil:Sl (Sl Sound)) (by omega) (by show 0+_<=_;omega) (by show 0+_<=_;omega)
   rw[this];rfl
  ·have c3:l.Mode=3:=by omega
   rw[if_neg (show ¬(l.Mode==2)=true by simp[c2]),if_neg (show ¬(l.Mode==2)=true by simp[c2]),if_pos (show (l.Mode==3)=true by simp[c3])];obtain⟨L,L',g1,g2,g3,g5,g4⟩:=Aq6 (N:=N) (by omega) o hle (w.n+1) w w' ((w.n:Int)-(l.If.n:Int)) a (by omega) b.2 (by omega) (by omega) (by omega);refine⟨L,L', ?_,g2,by omega,g5,?_⟩
   ·rw[F2 (by omega) (by omega)];exact g1 N (by omega)
   ·have g4:=g4 N (Sl.nil:Sl Int) (Sl.nil:Sl (Sl Sound)) (by omega) (by show 0+_<=_;omega) (by show 0+_<=_;omega)
    have:Cx N l' w' = some (Ji (Sl.nil:Sl Int) (Sl.nil:Sl (Sl Sound)) L'):=by unfold Cx;rw[show wrap .i64 ((w'.n:Int)-(l'.If.n:Int))=(w.n:Int)-(l.If.n:Int) by rw[<- t, <- hle.cond.1,F2 (by omega) (by omega)]];exact g4
    rw[this];rfl
 obtain⟨L,L',g1,g2,g3,g5,g4⟩:=key;refine⟨Ji (Sl.nil:Sl Int) (Sl.nil:Sl (Sl Sound)) L,_,?_,g4,Av7 L L' _ _ _ g5 rfl fun i m=>absurd m (AU0 i),.inr (.inr ⟨hc,b,?_⟩)⟩
 ·rw[Ir,AP5];show ((Bz N w l (l.If.n:Int) (l.Out.n:Int)).bind _)=_;rw[g1,AP5];exact Tn L _ _ (by show 0+_<=_;omega) (by show 0+_<=_;omega)
 ·rcases Ae9 L (Sl.nil:Sl Int) (Sl.nil:Sl (Sl Sound)) g2 fun i m=>absurd m (AU0 i)with h|⟨h1,x,h3⟩
  ·exact .inl h
  ·exact .inr ⟨h1,by have x:_<=0+L.length:=x;omega,h3⟩
end Go.AM
namespace Go.AM
open IntKind (wrap)
open Go.Proofs
def apE (N:Nat)(l:Law)(w:Sl Sound)(r:Sl Sound×Int):Prop:=(r.2=17/\¬chkAll N l) \/ (chkAll N l/\Vr w r.2/\r.2≠0) \/ (chkAll N l/\wOk w/\(r.2=11 \/ (r.2=0/\wOk r.1)))
theorem IA {N:Nat}(o:3000000<=N){l l' : Law}(hl:Kj l)(hle:LE l l'){w w' : Sl Sound}(b:SE w w')(hw:∀i,i<w.n->okS (w.g i)) :∃r r',Q4 N l w=some r/\Bx N l' w' = some r' /\ SE r.1 r'.1/\r.2=r'.2/\apE N l w r:=by
 obtain⟨⟨x,y,e⟩,⟨x',y',e'⟩,h1,q,⟨_,hn,hs,m⟩,ht⟩:=Af2 o hl hle b hw;dsimp only at hn hs m;subst m;have t:=b.1;unfold trE at ht;dsimp only at ht;unfold Q4 Bx;rw[h1,q,AP5,AP5];dsimp only;by_cases a:e=0
 case neg=>
  rw[if_pos (show (e != 0)=true by simpa using a),if_pos (show (e != 0)=true by simpa using a)];refine⟨_,_,rfl,rfl,SE.refl _,rfl,?_⟩;rcases ht with h|h|⟨j,c,d⟩
  ·exact .inl h
  ·exact .inr (.inl h)
  ·exact .inr (.inr ⟨j,c,.inl (d.resolve_right fun h=>a h.1)⟩)
 rw[if_neg (show ¬(e != 0)=true by simp[a]),if_neg (show ¬(e != 0)=true by simp[a])];rcases ht with h|h|⟨j,c,d⟩
 ·exact absurd (h.1.symm.trans a) (by decide)
 ·exact absurd a h.2.2
 rcases d with d|⟨_,h6,u⟩
 ·exact absurd (d.symm.trans a) (by decide)
 have v:=c.1;by_cases hy:y.n=0
 ·rw[if_neg (show ¬decide ((0:Int)<(y.n:Int))=true by simp[hy]),if_pos (show ((y'.n:Int)==0)=true by simp[<- hn,hy]),if_pos (by show (0+w'.n)*8<=_/\0+w'.n<=_;omega),AE0 (s:=(Sl.of []:Sl Sound)) rfl];unfold A6;rw[if_pos (by omega)];exact⟨_,_,rfl,rfl,b,rfl,.inr (.inr ⟨j,c,.inr ⟨rfl,c⟩⟩)⟩
 ·have hk:=u (y.n-1) (by omega);have f:=hs (y.n-1) (by omega);have hb:=hk.1;have z:=f.1;have e1:wrap .i64 ((y.n:Int)-1)=((y.n-1:Nat):Int):=wrapP (by omega) (by omega);have e2:wrap .i64 ((y'.n:Int)-1)=((y.n-1:Nat):Int):=by rw[<- hn];exact e1
  rw[e1,e2,AP2,if_pos (show decide ((0:Int)<(y.n:Int))=true by simp;omega),if_pos (by omega),if_neg (show ¬((y'.n:Int)==0)=true by simp;omega),if_pos ⟨by omega,by show (0+(y'.g (y.n-1)).n)*8<=_/\0+(y'.g (y.n-1)).n<=_;omega⟩,AE0 (s:=(Sl.of []:Sl Sound)) rfl];exact⟨_,_,rfl,rfl,f,rfl,.inr (.inr ⟨j,c,.inr ⟨rfl,hk⟩⟩)⟩
theorem To {N:Nat}{s:Sl Law}(m:s.n<N)(hs:s.n<1000000){f:Law->Option Bool}{b:Nat->Bool}(o:∀i,i<s.n->f (s.g i)=some (b i)) :∃r,C7 N s f=some r/\(r=true ↔ ∃i,i<s.n/\b i=true):=by
 unfold C7 E9
 have:∃y,R6 N (fun (a:Int->Option Int) (x1:Int)=>
  if (decide (x1<(s.n:Int))) then
   if ((0:Int)<=x1/\x1<(s.n:Int))then
    (f (s.g x1.toNat)).bind fun y3=>
    if y3 then
     some x1
    else
     a (wrap .i64 (x1+1))
   else none
  else
   some (-1)) 0=some y/\(0<=y ↔ ∃i,i<s.n/\b i=true):=by
  refine Ae (fun i x1=>x1=(i:Int)/\∀j,j<i->b j=false) s.n _ m ⟨rfl,fun j c=>absurd c (by omega)⟩ ?_;rintro l i x1 q ⟨rfl,h⟩ d;by_cases hl:i<s.n
  ·refine ifT (by simp;omega) (ifT (by omega) (B4 (by rw[AP2];exact o i hl) ?_));cases hb:b i
   ·refine ifF (by simp) (d hl _ ⟨C4 (by omega),fun j c=>?_⟩);by_cases e:j=i
    ·subst e;exact hb
    ·exact h j (by omega)
   ·exact ifT rfl ⟨i,rfl,fun _=>⟨i,hl,hb⟩,fun _=>by omega⟩
  ·refine ifF (by simp;omega) ⟨-1,rfl,fun h=>absurd h (by decide),?_⟩;rintro⟨j,c,hb⟩;rw[h j (by omega)]at hb;cases hb
 obtain⟨y,e,hy⟩:=this;exact B4 e ⟨_,rfl,by rw[decide_eq_true_eq];exact hy⟩
def Kl (N:Nat)(laws:Sl Law)(e:Int):Prop:=(64<laws.n/\e=12) \/ (laws.n<=64/\(∃i,i<laws.n/\¬chkAll N (laws.g i))/\e=17) \/ ((laws.n<=64/\∀i,i<laws.n->chkAll N (laws.g i))/\e=0)
theorem Gs {N:Nat}{laws:Sl Law}{e e' : Int}(h:Kl N laws e)(h' : Kl N laws e'):e=e':=by rcases h with⟨h,rfl⟩ | ⟨h,⟨i,b,a⟩,rfl⟩ | ⟨⟨h,a⟩,rfl⟩<;>rcases h' with⟨g,rfl⟩ | ⟨g,⟨j,c,g2⟩,rfl⟩ | ⟨⟨g,g2⟩,rfl⟩<;>first|rfl|(exfalso;omega)|exact absurd (g2 i b) a|exact absurd (a j c) g2
def LS (s t:Sl Law):Prop:=s.n=t.n/\∀i,i<s.n->LE (s.g i) (t.g i)
theorem LS.refl (s:Sl Law):LS s s:=⟨rfl,fun _ _=>LE.refl _⟩
theorem SE.ls {s t:Sl Law}(h:SE s t):LS s t:=⟨h.1,fun i a=>by rw[h.2 i a];exact LE.refl _⟩
theorem Af3 {N:Nat}{laws laws' : Sl Law}(h:LS laws laws'){e:Int}(hw:Kl N laws e):Kl N laws' e:=by
 have hn:=h.1;rcases hw with⟨h1,a⟩ | ⟨h1,⟨i,c,a⟩,b⟩ | ⟨⟨h1,a⟩,b⟩
 ·exact .inl ⟨by omega,a⟩
 ·exact .inr (.inl ⟨by omega,⟨i,by omega,fun g=>a ((CZ (h.2 i c)).2 g)⟩,b⟩)
 ·exact .inr (.inr ⟨⟨by omega,fun i c=>(CZ (h.2 i (by omega))).1 (a i (by omega))⟩,b⟩)
def Ei (laws:Sl Law):Prop:=∀i,i<laws.n->Kj (laws.g i)
theorem QF {laws laws' : Sl Law}(h:LS laws laws')(hl:Ei laws):Ei laws':=fun i a=>by exact Kv (h.2 i (by rw[h.1];exact a)) (hl i (by rw[h.1];exact a))
theorem OW {N:Nat}(o:3000000<=N){laws:Sl Law}(hl:Ei laws):∃e,U4 N laws=some e/\Bv N laws=some e/\Kl N laws e:=by
 have h1:∃e,U4 N laws=some e/\Kl N laws e:=by
  unfold U4;by_cases hn:64<laws.n
  ·exact ifT (by simp;omega) ⟨12,rfl,.inl ⟨hn,rfl⟩⟩
  refine ifF (by simp;omega) ?_;have u:∀i,∃b,i<laws.n->P1 N (laws.g i)=some b/\(b=true ↔ ¬chkAll N (laws.g i)):=by
   intro i;by_cases a:i<laws.n
   ·obtain⟨e,e1,_,d⟩:=Eh o (hl i a);refine⟨e != 0,fun _=>⟨by unfold P1;rw[e1];rfl,?_⟩⟩;rcases d with⟨rfl,h⟩ | ⟨rfl,h⟩
    ·exact⟨fun h=>absurd h (by decide),fun g=>absurd h g⟩
    ·exact⟨fun _=>h,fun _=>by decide⟩
   ·exact⟨false,fun h=>absurd h a⟩
  obtain⟨f,l⟩:=AX3 u;obtain⟨r,e1,h1⟩:=To (N:=N) (s:=laws) (by omega) (by omega) (f:=fun u1=>P1 N u1) (fun i a=>(l i a).1);refine B4 e1 ?_;cases q:r
  ·refine ifF (by simp) ⟨0,rfl,.inr (.inr ⟨⟨by omega,fun i a=>AS9 fun hn=>?_⟩,rfl⟩)⟩
   have:=h1.2 ⟨i,a,(l i a).2.2 hn⟩
   rw[q]at this;cases this
  ·obtain⟨i,a,hb⟩:=h1.1 q;exact ifT rfl ⟨17,rfl,.inr (.inl ⟨by omega,⟨i,a,(l i a).2.1 hb⟩,rfl⟩)⟩
 have v:∃e,Bv N laws=some e/\Kl N laws e:=by
  unfold Bv;by_cases hn:64<laws.n
  ·exact ifT (by simp;omega) ⟨12,rfl,.inl ⟨hn,rfl⟩⟩
  refine ifF (by simp;omega) ?_;refine Ae (fun i x1=>x1=(i:Int)/\∀j,j<i->chkAll N (laws.g j)) laws.n _ (by omega) ⟨rfl,fun j m=>absurd m (by omega)⟩ ?_;rintro t i x1 a ⟨rfl,h⟩ hs;by_cases c:i<laws.n
  ·obtain⟨e,_,e1,d⟩:=Eh o (hl i c);refine ifT (by simp;omega) (ifT (by omega) (B4 (by rw[AP2];exact e1) ?_));rcases d with⟨rfl,hc⟩ | ⟨rfl,hc⟩
   ·refine ifF (by decide) (hs c _ ⟨C4 (by omega),fun j m=>?_⟩);by_cases e:j=i
    ·subst e;exact hc
    ·exact h j (by omega)
   ·exact ifT (by decide) ⟨17,rfl,.inr (.inl ⟨by omega,⟨i,c,hc⟩,rfl⟩)⟩
  ·exact ifF (by simp;omega) ⟨0,rfl,.inr (.inr ⟨⟨by omega,fun j m=>h j (by omega)⟩,rfl⟩)⟩
 obtain⟨e,e1,g1⟩:=h1;obtain⟨e',e2,g2⟩:=v;obtain rfl:=Gs g1 g2;exact⟨_,e1,e2,g1⟩
def Av8 (l:Sl (Sl Sound))(e:Int):Prop:=(e=0/\∀i,i<l.n->wOk (l.g i)) \/ (∃i,i<l.n/\(∀j,j<i->wOk (l.g j))/\Vr (l.g i) e/\e≠0)
theorem YM {N:Nat}(o:3000000<=N){l:Sl (Sl Sound)}(hn:l.n<2000000)(hw:∀i,i<l.n->∀j,j<(l.g i).n->okS ((l.g i).g j)) :∃e,R6 N (fun (a:Int->Option Int) (x1:Int)=>
  if (decide (x1<(l.n:Int))) then
   if ((0:Int)<=x1/\x1<(l.n:Int))then
    (K3 N (l.g x1.toNat)).bind fun y4=>
    if (y4 != 0) then
     some y4
    else
     a (wrap .i64 (x1+1))
   else none
  else
   some 0
  ) 0=some e/\Av8 l e:=by
 refine Ae (fun i x1=>x1=(i:Int)/\∀j,j<i->wOk (l.g j)) l.n _ (by omega) ⟨rfl,fun j d=>absurd d (by omega)⟩ ?_;rintro f i x1 q ⟨rfl,h⟩ hs;by_cases b:i<l.n
 ·obtain⟨e,e1,m⟩:=Gd (N:=N) (by omega) (hw i b);refine ifT (by simp;omega) (ifT (by omega) (B4 (by rw[AP2];exact e1) ?_));by_cases c:e=0
  ·refine ifF (by simp[c]) (hs b _ ⟨C4 (by omega),fun j d=>?_⟩);by_cases e:j=i
   ·subst e;exact (N2 m).1 c
   ·exact h j (by omega)
  ·exact ifT (by simpa using c) ⟨e,rfl,.inr ⟨i,b,h,m,c⟩⟩
 ·exact ifF (by simp;omega) ⟨0,rfl,.inl ⟨rfl,fun j d=>h j (by omega)⟩⟩
theorem AE8 {w:Sl Sound}{e:Int}(h:Av8 (Sl.of [w]:Sl (Sl Sound)) e):Vr w e:=by
 rcases h with⟨rfl,h⟩ | ⟨i,a,_,h,_⟩
 ·exact .inr (.inr ⟨h 0 (by show 0<1;omega),rfl⟩)
 ·match i,a with
  |0,_=>exact h
theorem MC {N:Nat}(b:3000000<=N){laws:Sl Law}(hl:Ei laws){w:Sl Sound}(hw:∀i,i<w.n->okS (w.g i)) :∃e,Av N laws (Sl.of [w]:Sl (Sl Sound))=some e/\((Kl N laws e/\e≠0) \/ (Kl N laws 0/\Vr w e)):=by
 unfold Av;obtain⟨e,e1,_,h1⟩:=OW b hl;refine B4 e1 ?_;by_cases a:e=0
 case neg=>exact ifT (by simpa using a) ⟨e,rfl,.inl ⟨h1,a⟩⟩
 refine ifF (by simp[a]) (ifF (by show ¬decide ((256:Int)<((1:Nat):Int))=true;decide) ?_);obtain⟨e2,e3,c⟩:=YM (N:=N) b (l:=(Sl.of [w]:Sl (Sl Sound))) (by show 1<_;omega) fun i d=>by
  match i,d with
  |0,_=>exact hw
 exact⟨e2,e3,.inr ⟨a ▸ h1,AE8 c⟩⟩
def T1 (N:Nat)(c:Int)(q1:Sl Law)(a:Sl Sound->Int->Option Ti)(x1:Sl Sound)(x2:Int):Option Ti:=
 if (decide (x2<(q1.n:Int))) then
  if ((0:Int)<=x2/\x2<(q1.n:Int))then
   (Q4 N (q1.g x2.toNat) x1).bind fun y4=>
   if (y4.2 != 0) then
    if y4.2=c then some []else none
   else
    AB (wrap .i64 (x2+1),y4.1) (
     a y4.1 (wrap .i64 (x2+1))
     )
  else none
 else
  if c=0 then some []else none
theorem R4 {N:Nat}{c:Int}{laws:Sl Law}{a:Sl Sound->Int->Option Ti}{w:Sl Sound}{i:Nat}(d:i<laws.n)(b:laws.n<=64){y:Sl Sound×Int}(h:Q4 N (laws.g i) w=some y) :T1 N c laws a w (i:Int)=if (y.2 != 0) then (if y.2=c then some []else none)else AB (((i+1:Nat):Int),y.1) (a y.1 ((i+1:Nat):Int)):=by unfold T1;rw[if_pos (show decide ((i:Int)<(laws.n:Int))=true by simp;omega),if_pos (by omega),AP2,h,AP5,C4 (by omega)]
abbrev AN3:=(Sl (Sl Sound))×Int
def Gf (N:Nat)(a:Sl Law)(b:Sl (Sl Sound)->Int->Option AN3)(x2:Sl (Sl Sound))(x3:Int):Option AN3:=
 if (decide (x3<(a.n:Int))) then
  if ((((0:Int)<=x3/\x3<(a.n:Int))/\((0:Int)<=x3/\x3<(x2.n:Int)))/\x3.toNat<x2.n)then
   (Bx N (a.g x3.toNat) (x2.g x3.toNat)).bind fun y7=>
   if (y7.2 != 0) then
    some ((Sl.nil:Sl (Sl Sound)),y7.2)
   else
    if ((x2.n+(Sl.of [y7.1]:Sl (Sl Sound)).n)*24<=140737488355328/\x2.n+(Sl.of [y7.1]:Sl (Sl Sound)).n<=140737488355328)then
     b (x2.push y7.1) (wrap .i64 (x3+1))
    else none
  else none
 else
  some (x2,0)
def IB:Sl Sound->Ti->Sl Sound
 |w,[]=>w
 |_,(_,v)::L=>IB v L
theorem IC:∀(L:Ti) (w:Sl Sound),O6 L (fun (a:Sl Sound->Option (Sl Sound)) (x1:Int×(Sl Sound)) (z1:Sl Sound)=>a x1.2) (fun (z1:Sl Sound)=>some z1) w=some (IB w L)
 |[],w=>rfl
 |(p,v)::L,w=>IC L v
def Dq (N:Nat)(laws:Sl Law):Prop:=laws.n<=64/\∀i,i<laws.n->chkAll N (laws.g i)
theorem Af4 {N:Nat}(x:3000000<=N){laws laws' : Sl Law}(hl:Ei laws)(o:LS laws laws')(q:Dq N laws):∀(m i:Nat) (w w' : Sl Sound),SE w w' -> wOk w->i<=laws.n->laws.n<=i+m ->
 (∃L v',SE (IB w L) v' /\ wOk (IB w L)/\(∀M,m<M->Q2 M (T1 N 0 laws) w i=some L)/\∀M x2,m<M->x2.n=i+1->x2.g i=w' -> ∃y,Q2 M (Gf N laws') x2 i=some (y,0)/\y.n=laws.n+1/\y.g laws.n=v') \/
 ((∃L,∀M,m<M->Q2 M (T1 N 0 laws) w i=none/\Q2 M (T1 N 11 laws) w i=some L)/\∀M x2,m<M->x2.n=i+1->x2.g i=w' -> Q2 M (Gf N laws') x2 i=some ((Sl.nil:Sl (Sl Sound)),11)):=by
 have z:=o.1;have b:=q.1;intro m
 induction m with
 |zero=>
  intro i w w' c hw hi hm;refine .inl ⟨[],w',c,hw,fun M d=>?_,fun M x2 d hx f=>⟨x2,?_,by omega,by rw[<- f];congr 1;omega⟩⟩
  ·obtain⟨M,rfl⟩:∃K,M=K+1:=⟨M-1,by omega⟩;rw[E1,T1,if_neg (by simp;omega),if_pos rfl]
  ·obtain⟨M,rfl⟩:∃K,M=K+1:=⟨M-1,by omega⟩;rw[E1,Gf,if_neg (by simp;omega)]
 |succ m ih=>
  intro i w w' c hw hi hm;by_cases a:i<laws.n
  case neg=>
   refine .inl ⟨[],w',c,hw,fun M d=>?_,fun M x2 d hx f=>⟨x2,?_,by omega,by rw[<- f];congr 1;omega⟩⟩
   ·obtain⟨M,rfl⟩:∃K,M=K+1:=⟨M-1,by omega⟩;rw[E1,T1,if_neg (by simp;omega),if_pos rfl]
   ·obtain⟨M,rfl⟩:∃K,M=K+1:=⟨M-1,by omega⟩;rw[E1,Gf,if_neg (by simp;omega)]
  obtain⟨⟨v,e⟩,⟨v',e'⟩,h1,r,s,t,l⟩:=IA x (hl i a) (o.2 i a) c fun j hj=>(hw.2 j hj).ok;simp only at s t;subst t;rcases l with⟨_,l⟩ | ⟨_,l,h6⟩ | ⟨_,_,l⟩
  ·exact absurd (q.2 i a) l
  ·exact absurd ((N2 l).2 hw) h6
  rcases l with rfl|⟨rfl,hv⟩
  ·refine .inr ⟨⟨[],fun M d=>?_⟩,fun M x2 d hx f=>?_⟩
   ·obtain⟨M,rfl⟩:∃K,M=K+1:=⟨M-1,by omega⟩;rw[E1,E1,R4 a b h1,R4 a b h1];exact⟨rfl,rfl⟩
   ·obtain⟨M,rfl⟩:∃K,M=K+1:=⟨M-1,by omega⟩;rw[E1,Gf,if_pos (by simp;omega),if_pos (by omega),AP2,f,r,AP5,if_pos (by simp)]
  ·rcases ih (i+1) v v' s hv (by omega) (by omega)with⟨L,u,g1,g2,g3,g4⟩ | ⟨⟨L,g1⟩,g2⟩
   ·refine .inl ⟨((i+1:Nat),v)::L,u,g1,g2,fun M d=>?_,fun M x2 d hx f=>?_⟩
    ·obtain⟨M,rfl⟩:∃K,M=K+1:=⟨M-1,by omega⟩;rw[E1,R4 a b h1,if_neg (by simp)];show AB _ (Q2 M (T1 N 0 laws) v _)=_;rw[g3 M (by omega)];rfl
    ·obtain⟨M,rfl⟩:∃K,M=K+1:=⟨M-1,by omega⟩;rw[E1,Gf,if_pos (by simp;omega),if_pos (by omega),AP2,f,r,AP5,if_neg (by simp),if_pos (by show (x2.n+1)*24<=_/\x2.n+1<=_;omega),C4 (by omega)];exact g4 M (x2.push v') (by omega) (by show x2.n+1=_;omega) (by show (if i+1<x2.n then x2.g (i+1)else v')=v';rw[if_neg (by omega)])
   ·refine .inr ⟨⟨((i+1:Nat),v)::L,fun M d=>?_⟩,fun M x2 d hx f=>?_⟩
    ·obtain⟨M,rfl⟩:∃K,M=K+1:=⟨M-1,by omega⟩;obtain⟨a1,a2⟩:=g1 M (by omega);rw[E1,E1,R4 a b h1,R4 a b h1,if_neg (by simp),if_neg (by simp)];refine⟨?_,?_⟩
     ·show AB _ (Q2 M (T1 N 0 laws) v _)=_;rw[a1];rfl
     ·show AB _ (Q2 M (T1 N 11 laws) v _)=_;rw[a2];rfl
    ·obtain⟨M,rfl⟩:∃K,M=K+1:=⟨M-1,by omega⟩;rw[E1,Gf,if_pos (by simp;omega),if_pos (by omega),AP2,f,r,AP5,if_neg (by simp),if_pos (by show (x2.n+1)*24<=_/\x2.n+1<=_;omega),C4 (by omega)];exact g2 M (x2.push v') (by omega) (by show x2.n+1=_;omega) (by show (if i+1<x2.n then x2.g (i+1)else v')=v';rw[if_neg (by omega)])
theorem Aq8 {N:Nat}{w:Sl Sound}(d:w.n<N)(hs:w.n<10000000):∃y,Cr N w=some y/\SE w y:=by
 suffices h:∃y,Cr N w=some y/\y=Bm w.g w.n by obtain⟨y,h,rfl⟩:=h;exact⟨_,h,(Hq _ _).symm,fun i b=>(Vu w.g b).symm⟩
 unfold Cr;refine S8 (fun i x1 x2=>x2=(i:Int)/\x1=Bm w.g i) w.n _ d ⟨rfl,rfl⟩ ?_;rintro c i x1 x2 b ⟨rfl,rfl⟩ a;by_cases hl:i<w.n
 ·have:=Hq w.g i
  refine ifT (by simp;omega) (ifT ⟨by omega,by show ((Bm w.g i).n+1)*8<=_/\(Bm w.g i).n+1<=_;omega⟩ (a hl _ _ ⟨C4 (by omega),by rw[AP2];rfl⟩))
 ·exact ifF (by simp;omega) ⟨_,rfl,by congr 1;omega⟩
def deE (N:Nat)(laws:Sl Law)(w:Sl Sound)(r:Sl Sound×Int):Prop:=(Kl N laws r.2/\r.2≠0) \/ (Kl N laws 0/\Vr w r.2/\r.2≠0) \/ (Dq N laws/\wOk w/\(r.2=11 \/ (r.2=0/\wOk r.1)))
theorem lawsE_zero {N:Nat}{laws:Sl Law}:Kl N laws 0↔Dq N laws:=by
 constructor
 ·rintro (⟨_,h⟩ | ⟨_,_,h⟩ | ⟨h,_⟩)
  ·cases h
  ·cases h
  ·exact h
 ·exact fun h=>.inr (.inr ⟨h,rfl⟩)
theorem YN {N:Nat}(v:3000000<=N){laws laws' : Sl Law}(hl:Ei laws)(j:LS laws laws'){w w' : Sl Sound}(m:SE w w')(hw:∀i,i<w.n->okS (w.g i)) :∃r r',G1 N laws w=some r/\BP N laws' w' = some r' /\ SE r.1 r'.1/\r.2=r'.2/\deE N laws w r:=by
 obtain⟨e,e1,h1⟩:=MC v hl hw;obtain⟨a,_,a1,ha⟩:=OW v (QF j hl);unfold G1 BP EM;rw[e1,a1,AP5,AP5];rcases h1 with⟨h1,u⟩ | ⟨h1,x⟩
 ·obtain rfl:=Gs (Af3 j h1) ha;have d:(e != 0)=true:=by simpa using u
  have o:¬(e==0)=true:=by simpa using u
  rw[if_pos d,lt,if_neg o];dsimp only;rw[if_pos d,AP5];dsimp only;rw[if_pos d];exact⟨_,_,rfl,rfl,SE.refl _,rfl,.inl ⟨h1,u⟩⟩
 obtain rfl:=Gs (Af3 j h1) ha;rw[lt,if_pos (show ((0:Int)==0)=true from rfl)];obtain⟨b,b1,hb⟩:=CA (N:=N) (by omega) (AE7 m hw);obtain rfl:=Ix (Af1 m x) hb;rw[b1,AP5];dsimp only;by_cases u:e=0
 case neg=>
  have d:(e != 0)=true:=by simpa using u
  rw[if_pos d,if_pos d,AP5];dsimp only;rw[if_pos d];exact⟨_,_,rfl,rfl,SE.refl _,rfl,.inr (.inl ⟨h1,x,u⟩)⟩
 have o:¬(e != 0)=true:=by simp[u]
 rw[if_neg o,if_neg o];have q:=lawsE_zero.1 h1;have s:wOk w:=(N2 x).1 u;have a0:=s.1;have a2:=m.1;have a3:=q.1;have a4:=j.1;obtain⟨y4,c1,c2⟩:=Aq8 (N:=N) (w:=w') (by omega) (by omega);have t:A6 N w=some w:=by unfold A6;rw[if_pos (by omega)]
 have l:∀c,C0 N c laws w=(AB (0,w) (Q2 N (T1 N c laws) w 0)).bind fun L1=>O6 L1 (fun (f:Sl Sound->Option (Sl Sound)) (x1:Int×(Sl Sound)) (z1:Sl Sound)=>f x1.2) (fun (z1:Sl Sound)=>some z1) (Sl.nil:Sl Sound):=by intro c;unfold C0 Aw U0;rw[AP5,t,AP5];rfl
 have z:∀(x2:Sl (Sl Sound)),(Q2 N (fun f (x2:Sl (Sl Sound)) (x3:Int)=>Gf N laws' f x2 x3) x2 0)=Q2 N (Gf N laws') x2 ((0:Nat):Int):=fun _=>rfl;rw[c1,AP5];rcases Af4 v hl j q laws.n 0 w y4 (m.trans c2) s (by omega) (by omega)with⟨L,v',g1,g2,g3,g4⟩ | ⟨⟨L,g1⟩,g2⟩
 ·obtain⟨y,d1,d2,d3⟩:=g4 N (Sl.of [y4]:Sl (Sl Sound)) (by omega) rfl rfl
  have:F4 N laws w=some (IB w L,true):=by
   have e0:C0 N 0 laws w=some (IB w L):=by rw[l];have g3:Q2 N (T1 N 0 laws) w 0=some L:=g3 N (by omega);rw[g3];exact IC _ _
   unfold F4;rw[e0]
  rw[this,AP5,if_neg (by simp)];refine⟨_,(v',0),rfl,?_,g1,rfl,.inr (.inr ⟨q,s,.inr ⟨rfl,g2⟩⟩)⟩;show Option.bind (Q2 N (Gf N laws') (Sl.of [y4]:Sl (Sl Sound)) ((0:Nat):Int)) _=_;rw[d1,AP5,if_neg (by simp)];have ew:wrap .i64 ((y.n:Int)-1)=((laws.n:Nat):Int):=by rw[d2,F2 (by omega) (by omega)];omega
  simp only[ew,AP2];rw[if_pos (by omega),d3]
 ·have:F4 N laws w=some ((Sl.nil:Sl Sound),false):=by
   obtain⟨g3,g4⟩:=g1 N (by omega);have g3:Q2 N (T1 N 0 laws) w 0=none:=g3;have g4:Q2 N (T1 N 11 laws) w 0=some L:=g4;have e0:C0 N 0 laws w=none:=by rw[l,g3];rfl
   have e11:C0 N 11 laws w=some (IB w L):=by rw[l,g4];exact IC _ _
   unfold F4;rw[e0,e11];rfl
  rw[this,AP5,if_pos (by simp)];refine⟨_,((Sl.nil:Sl Sound),11),rfl,?_,SE.refl _,rfl,.inr (.inr ⟨q,s,.inl rfl⟩)⟩;show Option.bind (Q2 N (Gf N laws') (Sl.of [y4]:Sl (Sl Sound)) ((0:Nat):Int)) _=_;rw[g2 N (Sl.of [y4]:Sl (Sl Sound)) (by omega) rfl rfl,AP5,if_pos (by decide)]
end Go.AM
namespace Go.AM
open IntKind (wrap)
open Go.Proofs
theorem Af5 {α : Type}(s:Sl α)(a : α):(s.push a).toList=s.toList++[a]:=by
 show (List.range (s.n+1)).map (fun i=>if i<s.n then s.g i else a)=_;rw[AY6,AY7];congr 1
 ·exact AS2 fun i b=>if_pos (AU8.1 b)
 ·simp
theorem tl_eq {α : Type}{s t:Sl α}:s.toList=t.toList↔SE s t:=by
 constructor
 ·intro h;have hn:s.n=t.n:=by rw[<- AP s,h,AP]
  refine⟨hn,fun i a=>?_⟩
  have:=congrArg (fun l=>l[i]?) h
  simpa[Sl.toList,a,hn ▸ a]using this
 ·rintro⟨h1,b⟩;unfold Sl.toList;rw[<- h1];exact AS2 fun i a=>b i (AU8.1 a)
theorem sEq (x y:Sound):((x.Plus==y.Plus)&&(x.Minus==y.Minus))=decide (x=y):=by cases x;cases y;rw[AS5];simp
theorem Af6 {N:Nat}{x y:Sl Sound}(l:x.n<N)(hs:x.n<10000000) :∃b,(if ((x.n:Int) != (y.n:Int)) then
 some false
 else
  R6 N (fun (a:Int->Option Bool) (x1:Int)=>
   if (decide (x1<(x.n:Int))) then
    if (((0:Int)<=x1/\x1<(x.n:Int))/\((0:Int)<=x1/\x1<(y.n:Int)))then
     if ((((x.g x1.toNat).Plus==(y.g x1.toNat).Plus)&&((x.g x1.toNat).Minus==(y.g x1.toNat).Minus)) != true) then
      some false
     else
      a (wrap .i64 (x1+1))
    else none
   else
    some true
   ) 0)=some b/\(b=true↔SE x y):=by
 by_cases hn:x.n=y.n
 case neg=>exact ifT (by simp;omega) ⟨false,rfl,by simp,fun h=>absurd h.1 hn⟩
 refine ifF (by simp[hn]) ?_;refine Ae (fun i x1=>x1=(i:Int)/\∀j,j<i->x.g j=y.g j) x.n _ l ⟨rfl,fun j c=>absurd c (by omega)⟩ ?_;rintro f i x1 m ⟨rfl,h⟩ d;by_cases hl:i<x.n
 ·refine ifT (by simp;omega) (ifT (by omega) ?_);rw[AP2,sEq];by_cases e:x.g i=y.g i
  ·refine ifF (by simp[e]) (d hl _ ⟨C4 (by omega),fun j c=>?_⟩);by_cases e2:j=i
   ·subst e2;exact e
   ·exact h j (by omega)
  ·exact ifT (by simp[e]) ⟨false,rfl,by simp,fun h=>absurd (h.2 i hl) e⟩
 ·exact ifF (by simp;omega) ⟨true,rfl,fun _=>⟨hn,fun j c=>h j (by omega)⟩,fun _=>rfl⟩
theorem AE9 {N:Nat}{x y:Sl Sound}(a:x.n<N)(hs:x.n<10000000):∃b,N7 N x y=some b/\(b=true↔SE x y):=by obtain⟨b,h,hb⟩:=Af6 (N:=N) (x:=x) (y:=y) a hs;exact⟨b,by unfold N7;rw[show E7 N x y=some b from h];rfl,hb⟩
theorem AF0 {N:Nat}{x y:Sl Sound}(a:x.n<N)(hs:x.n<10000000):∃b,T5 N x y=some b/\(b=true↔SE x y):=Af6 a hs
abbrev okA (w:Sl Sound):Prop:=∀i,i<w.n->okS (w.g i)
end Go.AM
namespace Go.AM
open Go.Proofs
def dep:Nat->Pat->Prop
 |0,_=>False
 |d+1,p=>p.L.n<=40/\∀i,i<p.L.n->dep d (p.L.g i)
theorem Av9:∀(d:Nat) (p:Pat),dep d p->∀e,d<=e->dep e p
 |0,_,h,_,_=>h.elim
 |d+1,p,h,0,he=>by omega
 |d+1,p,h,e+1,he=>⟨h.1,fun i a=>Av9 d _ (h.2 i a) e (by omega)⟩
theorem Tp {N:Nat}(o:1000<=N):∀(d:Nat),d<=40->∀(p:Pat) (M:Nat),N+d+2<=M->∃r:Nat,AD M p ((40-d:Nat):Int)=some (r:Int)/\40-d<r/\r<=41/\(r<=40->dep (d+1) p)
 |d,hd,p,0,hM=>by omega
 |d,hd,p,M+1,hM=>by
  have:∃x,AD (M+1) p ((40-d:Nat):Int)=some x/\∃r:Nat,x=(r:Int)/\40-d<r/\r<=41/\(r<=40->dep (d+1) p):=by
   show ∃x,Bb (AD M) M p _=some x/\_;unfold Bb;rw[C4 (by omega)];refine S8 (fun i x1 x2=>x2=(i:Int)/\∃k:Nat,x1=(k:Int)/\40-d+1+i<=k/\k<=41/\i<=p.L.n/\(k<=40->∀j,j<i->dep d (p.L.g j))) 41 _ (by omega) ⟨rfl,40-d+1,rfl,by omega,by omega,by omega,fun _ j b=>absurd b (by omega)⟩ ?_;rintro f i x1 x2 q ⟨rfl,k,rfl,h1,c,s,l⟩ hs;by_cases hc:i<p.L.n/\k<=40
   ·refine ifT (by simp only[AP7,decide_eq_true_eq];omega) (ifT (by omega) ?_);obtain⟨r,m,r1,r2,r3⟩:=Tp o (40-k) (by omega) (p.L.g i) M (by omega);rw[show ((40-(40-k):Nat):Int)=(k:Int) by omega]at m;refine B4 (by rw[AP2];exact m) (hs (by omega) _ _ ⟨C4 (by omega),r,rfl,by omega,r2,by omega,fun a j b=>?_⟩);by_cases e:j=i
    ·subst e;exact Av9 _ _ (r3 a) d (by omega)
    ·exact l hc.2 j (by omega)
   ·refine ifF (by simp only[AP7,decide_eq_true_eq];omega) ⟨_,rfl,k,rfl,by omega,c,fun hk=>⟨by omega,fun j b=>l hk j (by omega)⟩⟩
  obtain⟨x,h1,r,rfl,c⟩:=this;exact⟨r,h1,c⟩
theorem MD:∀(d:Nat) (p:Pat),dep d p->∀M,100+d<=M->∃r,Y9 M p=some r
 |0,p,h,M,_=>h.elim
 |d+1,p,h,0,hM=>by omega
 |d+1,p,h,M+1,hM=>by
  suffices ∃r,Y9 (M+1) p=some r/\True by obtain⟨r,h,_⟩:=this;exact⟨r,h⟩
  show ∃x,W7 (Y9 M) M p=some x/\_;unfold W7;have hn:=h.1;refine S8 (fun i x1 x2=>x2=(i:Int)) p.L.n _ (by omega) rfl ?_;rintro a i x1 x2 c rfl hs;by_cases hl:i<p.L.n
  ·obtain⟨r,b⟩:=MD d (p.L.g i) (h.2 i hl) M (by omega);exact ifT (by simp;omega) (ifT (by omega) (B4 (by rw[AP2];exact b) (hs hl _ _ (C4 (by omega)))))
  ·exact ifF (by simp;omega) ⟨_,rfl,trivial⟩
theorem QG {N:Nat}(b:2000<=N)(p:Pat):∃r:Nat,Bt N p=some (r:Int)/\(r<=40->dep 41 p):=by obtain⟨r,h1,_,_,a⟩:=Tp (N:=1000) (by omega) 40 (by omega) p N (by omega);exact⟨r,by unfold Bt;rw[show AD N p 0=some (r:Int) from h1];rfl,a⟩
theorem Aq9 {N:Nat}(f:2000<=N)(laws:Sl Law):∃r,Cu N laws=some r:=by
 suffices ∃r,Cu N laws=some r/\True by obtain⟨r,h,_⟩:=this;exact⟨r,h⟩
 unfold Cu;refine S8 (fun i x1 x2=>x2=(i:Int)) 301 _ (by omega) rfl ?_;rintro d i x1 x2 s rfl hs;by_cases hc:i<laws.n/\i<=300
 ·refine ifT (by simp only[AP7,decide_eq_true_eq];omega) (ifT (by omega) ?_);refine S8 (fun j x7 x8=>x8=(j:Int)) 2 _ (by omega) rfl ?_;rintro b j x7 x8 t rfl a;by_cases hl:j<2
  ·refine ifT (by show decide ((j:Int)<((2:Nat):Int))=true;simp;omega) (ifT (by show (0:Int)<=(j:Int)/\(j:Int)<((2:Nat):Int);omega) ?_);obtain⟨r,l,m⟩:=QG f ((Sl.of [(laws.g (i:Int).toNat).Left,(laws.g (i:Int).toNat).Right]:Sl Pat).g (j:Int).toNat);refine B4 l ?_;by_cases c:r<=40
   ·obtain⟨q,o⟩:=MD 41 _ (m c) N (by omega);exact ifT (by simp;omega) (B4 o (a hl _ _ (C4 (by omega))))
   ·exact ifF (by simp;omega) (a hl _ _ (C4 (by omega)))
  ·exact ifF (by show ¬decide ((j:Int)<((2:Nat):Int))=true;simp;omega) (hs (by omega) _ _ (C4 (by omega)))
 ·exact ifF (by simp only[AP7,decide_eq_true_eq];omega) ⟨_,rfl,trivial⟩
end Go.AM
namespace Go.AM
open IntKind (wrap)
open Go.Proofs
def Nx (s:Str):Bool:=(decide (1<=s.length)&&decide (s.length<=24))&&s.all fun c=>QD ((c.toNat:Nat):Int)
theorem Tq {N:Nat}{s:Str}(m:s.length<N)(hs:s.length<1000000000){let_:Int->Option Bool}(hl:∀y,let_ y=some (QD y)){fin:Bool}(n:fin=(decide (1<=s.length)&&decide (s.length<=24))) :R6 N (fun (a:Int->Option Bool) (x1:Int)=>
  if (decide (x1<(s.length:Int))) then
   if ((0:Int)<=x1/\x1<(s.length:Int))then
    (let_ (Z6 s x1)).bind fun y3=>
    if (!y3) then
     some false
    else
     a (wrap .i64 (x1+1))
   else none
  else
   some fin
 ) 0=some (Nx s):=by
 suffices h:∃b,R6 N (fun (a:Int->Option Bool) (x1:Int)=>
  if (decide (x1<(s.length:Int))) then
   if ((0:Int)<=x1/\x1<(s.length:Int))then
    (let_ (Z6 s x1)).bind fun y3=>
    if (!y3) then
     some false
    else
     a (wrap .i64 (x1+1))
   else none
  else
   some fin
  ) 0=some b/\b=Nx s by obtain⟨b,h,rfl⟩:=h;exact h
 refine Ae (fun i x1=>x1=(i:Int)/\∀j (h:j<s.length),j<i->QD ((s[j].toNat:Nat):Int)=true) s.length _ m ⟨rfl,fun j _ f=>absurd f (by omega)⟩ ?_;rintro l i x1 q ⟨rfl,h⟩ g;by_cases d:i<s.length
 ·have eb:Z6 s (i:Int)=((s[i].toNat:Nat):Int):=by simp[Z6,d]
  refine ifT (by simp;omega) (ifT (by omega) (B4 (hl _) ?_));rw[eb];cases hb:QD ((s[i].toNat:Nat):Int)
  ·refine ifT rfl ⟨false,rfl,?_⟩;symm;unfold Nx;rw[Bf6]
   right
   rw[List.all_eq_false];exact⟨s[i],Be7 d,by rw[hb];simp⟩
  ·refine ifF (by simp) (g d _ ⟨C4 (by omega),fun j f o=>?_⟩);by_cases e:j=i
   ·subst e;exact hb
   ·exact h j f (by omega)
 ·refine ifF (by simp;omega) ⟨_,rfl,?_⟩;unfold Nx;rw[n]
  have:(s.all fun c=>QD ((c.toNat:Nat):Int))=true:=AR0.2 fun c hc=>by obtain⟨j,f,rfl⟩:=Bc7 hc;exact h j f (by omega)
  rw[this,Bc6]
theorem Af7 {N:Nat}{s:Str}(a:s.length<N)(hs:s.length<1000000000):BU N s=some (Nx s):=by unfold BU;exact Tq a hs (fun y=>rfl) (by rw[AS5];simp;omega)
theorem Ar0 {N:Nat}{s:Str}(a:s.length<N)(hs:s.length<1000000000):Cy N s=some (Nx s):=by unfold Cy;exact Tq a hs (fun y=>rfl) (by rw[AS5];simp;omega)
def AF1 (t:Sl G7)(v:Nat):Prop:=(v=0->(t.g 0).Parent = -1)/\(0<v->0<=(t.g v).Parent/\(t.g v).Parent<v)/\Nx (t.g v).Name=true/\∀u,u<v->(t.g u).Name≠(t.g v).Name
def Bk (t:Sl G7):Prop:=1<=t.n/\t.n<=63/\∀v,v<t.n->AF1 t v
def YO (t:Sl G7)(e:Int):Prop:=(e=0/\Bk t) \/ (e=16/\¬Bk t)
theorem YP {t:Sl G7}{e e' : Int}(h:YO t e)(h' : YO t e'):e=e':=by
 rcases h with⟨rfl,h⟩ | ⟨rfl,h⟩<;>rcases h' with⟨rfl,h'⟩ | ⟨rfl,h'⟩
 ·rfl
 ·exact absurd h h'
 ·exact absurd h' h
 ·rfl
def ME (t:Sl G7):Prop:=∀v,v<t.n->(t.g v).Name.length<1100000
theorem Af8 {N:Nat}(y:3000000<=N){t:Sl G7}(ht:ME t):∃e,AF N t=some e/\YO t e:=by
 unfold AF;by_cases z:t.n<1
 ·exact ifT (fun h=>absurd h (by simp;omega)) (ifT (by simp;omega) ⟨16,rfl,.inr ⟨rfl,fun h=>by have:=h.1;omega⟩⟩)
 refine ifT (fun _ _=>by omega) ?_;by_cases h1:63<t.n
 ·exact ifT (by simp;omega) ⟨16,rfl,.inr ⟨rfl,fun h=>by have:=h.2.1;omega⟩⟩
 by_cases m:(t.g 0).Parent = -1
 case neg=>exact ifT (by simp[m]) ⟨16,rfl,.inr ⟨rfl,fun h=>m ((h.2.2 0 (by omega)).1 rfl)⟩⟩
 refine ifF (by simp[m];omega) ?_;refine Ae (fun i x1=>x1=(i:Int)/\∀j,j<i->AF1 t j) t.n _ (by omega) ⟨rfl,fun j x=>absurd x (by omega)⟩ ?_;rintro f i x1 hi ⟨rfl,h⟩ hs;by_cases a:i<t.n
 case neg=>exact ifF (by simp;omega) ⟨0,rfl,.inl ⟨rfl,by omega,by omega,fun v hv=>h v (by omega)⟩⟩
 refine ifT (by simp;omega) (ltX ?_);have b:=Ar0 (N:=N) (s:=(t.g i).Name) (by have:=ht i a;omega) (by have:=ht i a;omega);have rest:(0<i->0<=(t.g i).Parent/\(t.g i).Parent<i)->∃r,(if (!Nx (t.g i).Name) then some 16 else
  R6 N (fun (d:Int->Option Int) (x7:Int)=>
   if (decide (x7<(i:Int))) then
    if (((0:Int)<=x7/\x7<(t.n:Int))/\((0:Int)<=(i:Int)/\(i:Int)<(t.n:Int)))then
     if (((t.g x7.toNat).Name==(t.g (i:Int).toNat).Name) != false) then
      some 16
     else
      d (wrap .i64 (x7+1))
    else none
   else
    f (wrap .i64 ((i:Int)+1))
   ) 0)=some r/\YO t r:=by
  intro hp;cases hb:Nx (t.g i).Name
  ·exact ifT rfl ⟨16,rfl,.inr ⟨rfl,fun h=>by have:=(h.2.2 i a).2.2.1;rw[hb]at this;cases this⟩⟩
  refine ifF (by simp) ?_;refine Ae (fun k x7=>x7=(k:Int)/\∀u,u<k->(t.g u).Name≠(t.g i).Name) i _ (by omega) ⟨rfl,fun u o=>absurd o (by omega)⟩ ?_;rintro q k x7 hk ⟨rfl,h'⟩ w;by_cases l:k<i
  ·refine ifT (by simp;omega) (ifT (by omega) ?_);rw[AP2,AP2];by_cases e:(t.g k).Name=(t.g i).Name
   ·exact ifT (by simp[e]) ⟨16,rfl,.inr ⟨rfl,fun h=>(h.2.2 i a).2.2.2 k l e⟩⟩
   ·refine ifF (by simp[e]) (w l _ ⟨C4 (by omega),fun u o=>?_⟩);by_cases e2:u=k
    ·subst e2;exact e
    ·exact h' u (by omega)
  ·refine ifF (by simp;omega) (hs a _ ⟨C4 (by omega),fun j x=>?_⟩);by_cases e:j=i
   ·subst e;exact⟨fun e=>by subst e;exact m,hp,hb,fun u o=>h' u (by omega)⟩
   ·exact h j (by omega)
 by_cases c:0<i
 ·refine ifT (by simp;omega) (ifT (by omega) ?_);rw[AP2];by_cases g1:(t.g i).Parent<0
  ·exact ifT (by simpa using g1) (ifT rfl ⟨16,rfl,.inr ⟨rfl,fun h=>by have:=((h.2.2 i a).2.1 c).1;omega⟩⟩)
  refine ifF (by simpa using g1) (ifT (by omega) ?_);by_cases g2:(i:Int)<=(t.g i).Parent
  ·exact ifT (by simpa using g2) (ifT rfl ⟨16,rfl,.inr ⟨rfl,fun h=>by have:=((h.2.2 i a).2.1 c).2;omega⟩⟩)
  exact ifF (by simpa using g2) (ifT (by omega) (B4 b (rest fun _=>⟨by omega,by omega⟩)))
 ·exact ifF (by simp;omega) (ifT (by omega) (B4 (by rw[AP2];exact b) (rest fun h=>absurd h c)))
theorem Jj {ν : Type}{k s:Str}{v : ν}:∀es:List (Str × ν),CJ eqS s (PA eqS k v es)=if s=k then some v else CJ eqS s es
 |[]=>by simp only[PA,CJ];by_cases h:s=k<;>simp[eqS,h]
 |(a,x)::es=>by
  simp only[PA];by_cases h:k=a
  ·subst h;rw[if_pos (by simp[eqS])];simp only[CJ];by_cases b:s=k<;>simp[eqS,b]
  ·rw[if_neg (by simp[eqS,h])];simp only[CJ];rw[Jj es];by_cases b:s=k
   ·subst b;simp[eqS,h]
   ·simp[b]
theorem WT {ν : Type}{k:Str}{v : ν}:∀{es:List (Str × ν)},CJ eqS k es=none->(PA eqS k v es).length=es.length+1
 |[],_=>rfl
 |(a,x)::es,h=>by
  simp only[CJ]at h;simp only[PA];by_cases e:eqS k a=true
  ·rw[if_pos e]at h;cases h
  ·rw[if_neg e]at h;rw[if_neg e,AS3,WT h];rfl
theorem WU {ν : Type}{k:Str}{v x : ν}:∀{es:List (Str × ν)},CJ eqS k es=some x->(PA eqS k v es).length=es.length
 |[],h=>by cases h
 |(a,y)::es,h=>by
  simp only[CJ]at h;simp only[PA];by_cases e:eqS k a=true
  ·rw[if_pos e];rfl
  ·rw[if_neg e]at h;rw[if_neg e,AS3,WU h];rfl
theorem Af9 {N:Nat}(m:3000000<=N){t:Sl G7}(ht:ME t):∃e,X6 N t=some e/\YO t e:=by
 unfold X6;by_cases o:t.n=0 \/ 63<t.n
 ·exact ifT (by simp;omega) ⟨16,rfl,.inr ⟨rfl,fun h=>by have g1:=h.1;have g2:=h.2.1;omega⟩⟩
 refine ifF (by simp;omega) ?_;refine S8 (fun i (x2:List (Str×Bool)) x3=>x3=(i:Int)/\(∀j,j<i->AF1 t j)/\∀s,(CJ eqS s x2=some true/\∃u,u<i/\(t.g u).Name=s) \/ (CJ eqS s x2=none/\∀u,u<i->(t.g u).Name≠s)) t.n _ (by omega) ⟨rfl,fun j f=>absurd f (by omega),fun s=>.inr ⟨rfl,fun u c=>absurd c (by omega)⟩⟩ ?_;rintro l i x2 x3 q ⟨rfl,h,hm⟩ hs;by_cases a:i<t.n
 case neg=>exact ifF (by simp;omega) ⟨0,rfl,.inl ⟨rfl,by omega,by omega,fun v r=>h v (by omega)⟩⟩
 refine ifT (by simp;omega) (ifT (by omega) (ltX ?_));rw[AP2];have b:=Af7 (N:=N) (s:=(t.g i).Name) (by have:=ht i a;omega) (by have:=ht i a;omega);have e1:(if 0<wrap .i64 ((i:Int)-1)then (0:Int)else wrap .i64 ((i:Int)-1))=if i=0 then -1 else 0:=by rw[F2 (by omega) (by omega)];split<;>split<;>omega
 rw[e1];by_cases g1:(i:Int)<=(t.g i).Parent
 ·refine ifT (by simpa using g1) (ifT rfl ⟨16,rfl,.inr ⟨rfl,fun h=>?_⟩⟩);have hk:=h.2.2 i a;by_cases d:i=0
  ·subst d;have:=hk.1 rfl;omega
  ·have:=(hk.2.1 (by omega)).2;omega
 refine ifF (by simpa using g1) ?_;by_cases g2:(t.g i).Parent<if i=0 then -1 else 0
 ·refine ifT (by simpa using g2) (ifT rfl ⟨16,rfl,.inr ⟨rfl,fun h=>?_⟩⟩);have hk:=h.2.2 i a;by_cases d:i=0
  ·subst d;have:=hk.1 rfl;simp at g2;omega
  ·have:=(hk.2.1 (by omega)).1;simp[d]at g2;omega
 refine ifF (by simpa using g2) (B4 b ?_);cases hb:Nx (t.g i).Name
 ·exact ifT rfl (ifT rfl ⟨16,rfl,.inr ⟨rfl,fun h=>by have:=(h.2.2 i a).2.2.1;rw[hb]at this;cases this⟩⟩)
 refine ifF (by simp) ?_;rcases hm (t.g i).Name with⟨e,u,c,hn⟩ | ⟨e,hn⟩
 ·rw[e];exact⟨16,rfl,.inr ⟨rfl,fun h=>(h.2.2 i a).2.2.2 u c hn⟩⟩
 rw[e,RN];refine ifF (show ¬false=true by simp) (hs a _ _ ⟨C4 (by omega),fun j f=>?_,fun s=>?_⟩)
 ·by_cases e:j=i
  ·subst e;refine⟨fun e=>?_,fun hp=>?_,hb,hn⟩
   ·subst e;simp at g2;omega
   ·have:¬j=0:=by omega
    simp[this]at g2;omega
  ·exact h j (by omega)
 ·rw[Jj];by_cases e:s=(t.g i).Name
  ·exact .inl ⟨by rw[if_pos e],i,by omega,e.symm⟩
  ·rw[if_neg e];rcases hm s with⟨g,u,c,hn⟩ | ⟨g,hn⟩
   ·exact .inl ⟨g,u,by omega,hn⟩
   ·refine .inr ⟨g,fun u c=>?_⟩;by_cases e2:u=i
    ·subst e2;exact fun h=>e h.symm
    ·exact hn u (by omega)
theorem QH {N:Nat}(a:3000000<=N){t:Sl G7}(ht:ME t):∃e,X6 N t=some e/\AF N t=some e/\YO t e:=by obtain⟨e,h1,b⟩:=Af9 a ht;obtain⟨e',c,d⟩:=Af8 a ht;obtain rfl:=YP b d;exact⟨_,h1,c,b⟩
end Go.AM
namespace Go.AM
open IntKind (wrap)
open Go.Proofs
structure T2 (h:A8):Prop where
 laws:Ei h.Laws
 tree:ME h.Tree
 on:h.On.n<1100000
 len:∀v,v<h.On.n->(h.On.g v).n<1100000
def U9 (h:A8)(v:Nat):Sl Int:=
 if hp:0<=(h.Tree.g v).Parent/\(h.Tree.g v).Parent<v then (U9 h (h.Tree.g v).Parent.toNat).app (h.On.g v)else (Sl.nil:Sl Int).app (h.On.g v)
termination_by v
decreasing_by omega
theorem BC {h:A8}{v:Nat}(a:(h.Tree.g v).Parent<0):U9 h v=(Sl.nil:Sl Int).app (h.On.g v):=by rw[U9,dif_neg (by omega)]
theorem EX {h:A8}{v p:Nat}(a:(h.Tree.g v).Parent=(p:Int))(hp:p<v):U9 h v=(U9 h p).app (h.On.g v):=by rw[U9,dif_pos (by omega),a,AP2]
theorem S5 {t:Sl G7}(ht:Bk t){v:Nat}(a:v<t.n):(v=0/\(t.g v).Parent = -1) \/ ∃p:Nat,p<v/\(t.g v).Parent=(p:Int):=by
 have hk:=ht.2.2 v a;by_cases b:v=0
 ·subst b;exact .inl ⟨rfl,hk.1 rfl⟩
 ·obtain⟨g1,g2⟩:=hk.2.1 (by omega);exact .inr ⟨(t.g v).Parent.toNat,by omega,by omega⟩
theorem VA {h:A8}(a:T2 h)(ht:Bk h.Tree)(hn:h.On.n=h.Tree.n):∀(m v:Nat),v<=m->v<h.Tree.n->(U9 h v).n<=(v+1)*1100000
 |m,v,hm,hv=>by
  have hl:=a.len v (by omega);rcases S5 ht hv with⟨_,e⟩ | ⟨p,hp,e⟩
  ·rw[BC (by omega)];show 0+(h.On.g v).n<=_;omega
  ·rw[EX e hp]
   match m with
   |0=>omega
   |m+1=>
    have:=VA a ht hn m p (by omega) (by omega)
    show (U9 h p).n+(h.On.g v).n<=_;have b:(p+1)*1100000+1100000<=(v+1)*1100000:=by omega
    omega
theorem MF {h:A8}(a:T2 h)(ht:Bk h.Tree)(hn:h.On.n=h.Tree.n):∀(M v:Nat),v+2<=M->v<h.Tree.n->AN M h (v:Int)=some (U9 h v)
 |0,v,hM,_=>by omega
 |M+1,v,hM,hv=>by
  have b:=ht.2.1;show X5 (AN M) M h (v:Int)=_;unfold X5;rw[if_neg (by simp),if_pos (by omega),AP2];have hl:=a.len v (by omega);rcases S5 ht hv with⟨c,e⟩ | ⟨p,hp,e⟩
  ·rw[e,BC (by omega)]
   have:AN M h (-1)=some (Sl.nil:Sl Int):=by obtain⟨K,rfl⟩:∃K,M=K+1:=⟨M-1,by omega⟩;show X5 (AN K) K h (-1)=_;unfold X5;rw[if_pos (by decide)]
   rw[this,AP5,if_pos ⟨by omega,by show (0+(h.On.g v).n)*8<=_/\0+(h.On.g v).n<=_;omega⟩]
  ·have hb:=VA a ht hn p p (AP8 _) (by omega);rw[e,MF a ht hn M p (by omega) (by omega),AP5,EX e hp,if_pos ⟨by omega,by omega⟩]
def VB (h:A8):Prop:=∃v,v<h.On.n/\64<(U9 h v).n
def AF2 (h:A8)(v:Nat):Prop:=∃k,k<(h.On.g v).n/\((h.On.g v).g k<0 \/ (h.Laws.n:Int)<=(h.On.g v).g k)
def Ag0 (h:A8)(e:Int):Prop:=(VB h/\e=2) \/ (¬VB h/\(∃v,v<h.On.n/\AF2 h v)/\e=3) \/ (¬VB h/\(∀v,v<h.On.n->¬AF2 h v)/\e=0)
theorem Ag1 {N:Nat}(hN:3000000<=N){h:A8}(hi:T2 h)(ht:Bk h.Tree)(hn:h.On.n=h.Tree.n):∃e,X7 N h=some e/\Ag0 h e:=by
 have h63:=ht.2.1;unfold X7;refine ifT (by omega) ?_;refine Ac3 (fun i (x4:Sl Int) (x5:Bool) x6=>x6=(i:Int)/\x4.n=h.On.n/\(∀v,v<i->x4.g v=((U9 h v).n:Int)/\(U9 h v).n<=64)/\(x5=true ↔ ∃v,v<i/\AF2 h v)) h.On.n _ (by omega) ⟨rfl,by show ((h.On.n:Nat):Int).toNat=_;omega,fun v b=>absurd b (by omega),⟨fun g=>(by cases g),fun⟨v,b,_⟩=>absurd b (by omega)⟩⟩ ?_;rintro m i x4 x5 x6 hle ⟨rfl,hx,hp,hb⟩ hs;by_cases o:i<h.On.n
 case neg=>
  refine ifF (by simp;omega) ?_;have hl:¬VB h:=fun⟨v,b,hl⟩=>by have:=(hp v (by omega)).2;omega
  cases x5
  ·exact ifF (by simp) ⟨0,rfl,.inr (.inr ⟨hl,fun v b g=>(by have:=hb.2 ⟨v,by omega,g⟩;cases this),rfl⟩)⟩
  ·obtain⟨v,b,g⟩:=hb.1 rfl;exact ifT rfl ⟨3,rfl,.inr (.inl ⟨hl,⟨v,by omega,g⟩,rfl⟩)⟩
 refine ifT (by simp;omega) (ifT (by rw[AP2];omega) (ifT (by omega) (ltX ?_)));rw[AP2];have hl:=hi.len i (by omega);have hlb:=VA hi ht hn i i (AP8 _) (by omega);have rest:∀z:Sl Int,z.n=h.On.n->(∀v,v<i->z.g v=x4.g v)->z.g i=((U9 h i).n:Int)->∃r,(if (((0:Int)<=(i:Int)/\(i:Int)<(z.n:Int))/\i<z.n)then
  if (decide (64<(z.g i))) then
   some 2
  else
   Q2 N (fun (d:Bool->Int->Option Int) (c:Bool) (a:Int)=>
    if (decide (a<((h.On.g i).n:Int))) then
     if ((0:Int)<=a/\a<((h.On.g i).n:Int))then
      d ((c||(decide (((h.On.g i).g a.toNat)<0)))||(decide ((h.Laws.n:Int)<=((h.On.g i).g a.toNat)))) (wrap .i64 (a+1))
     else none
    else
     m z c (wrap .i64 ((i:Int)+1))
    ) x5 0
  else none)=some r/\Ag0 h r:=by
  intro z hz u q;refine ifT (by omega) ?_;rw[q];by_cases w:64<(U9 h i).n
  ·exact ifT (by simp;omega) ⟨2,rfl,.inl ⟨⟨i,o,w⟩,rfl⟩⟩
  refine ifF (by simp;omega) ?_;refine S8 (fun k (c:Bool) a=>a=(k:Int)/\(c=true↔(∃v,v<i/\AF2 h v) \/ ∃j,j<k/\j<(h.On.g i).n/\((h.On.g i).g j<0 \/ (h.Laws.n:Int)<=(h.On.g i).g j))) (h.On.g i).n _ (by omega) ⟨rfl,hb.trans ⟨fun g=>.inl g,fun g=>g.resolve_right fun⟨j,f,_⟩=>absurd f (by omega)⟩⟩ ?_;rintro x k c a hk ⟨rfl,s⟩ y;by_cases l:k<(h.On.g i).n
  ·refine ifT (by simp;omega) (ifT (by omega) (y l _ _ ⟨C4 (by omega),?_⟩));rw[AP2,AR6,AR6,s,decide_eq_true_eq,decide_eq_true_eq];constructor
   ·rintro (((g|⟨j,f,g⟩)|g)|g)
    ·exact .inl g
    ·exact .inr ⟨j,by omega,g⟩
    ·exact .inr ⟨k,by omega,l,.inl g⟩
    ·exact .inr ⟨k,by omega,l,.inr g⟩
   ·rintro (g|⟨j,f,a0,g⟩)
    ·exact .inl (.inl (.inl g))
    ·by_cases e:j=k
     ·subst e;rcases g with g|g
      ·exact .inl (.inr g)
      ·exact .inr g
     ·exact .inl (.inl (.inr ⟨j,by omega,a0,g⟩))
  ·refine ifF (by simp;omega) (hs o _ _ _ ⟨C4 (by omega),hz,fun v b=>?_,s.trans ?_⟩)
   ·by_cases e:v=i
    ·subst e;exact⟨q,by omega⟩
    ·rw[u v (by omega)];exact hp v (by omega)
   ·constructor
    ·rintro (⟨v,b,g⟩ | ⟨j,_,f,g⟩)
     ·exact⟨v,by omega,g⟩
     ·exact⟨i,by omega,j,f,g⟩
    ·rintro⟨v,b,g⟩;by_cases e:v=i
     ·subst e;obtain⟨j,f,g⟩:=g;exact .inr ⟨j,by omega,f,g⟩
     ·exact .inl ⟨v,by omega,g⟩
 rcases S5 ht (v:=i) (by omega)with⟨_,e⟩ | ⟨p,t,e⟩
 ·rw[e];refine ifF (by decide) (rest _ hx (fun v b=>?_) ?_)
  ·show (if v=i then _ else x4.g v)=_;rw[if_neg (by omega)]
  ·show (if i=i then ((h.On.g i).n:Int)else _)=_;rw[if_pos rfl,BC (by omega)];show _=((0+(h.On.g i).n:Nat):Int);omega
 ·have a1:=hp p t;rw[e];refine ifT (by simp) (ifT ?_ ?_)
  ·show ((((((0:Int)<=(i:Int)/\(i:Int)<(x4.n:Int))/\i<x4.n)/\(0:Int)<=(p:Int)/\(p:Int)<(x4.n:Int))/\(p:Int).toNat<x4.n)/\(0:Int)<=(i:Int)/\(i:Int)<(x4.n:Int))/\i<x4.n;omega
  ·rw[AP2];refine rest _ hx (fun v b=>?_) ?_
   ·show (if v=i then _ else if v=i then _ else x4.g v)=_;rw[if_neg (by omega),if_neg (by omega)]
   ·show (if i=i then wrap .i64 ((if i=i then ((h.On.g i).n:Int)else _)+(if p=i then _ else x4.g p))else _)=_;rw[if_pos rfl,if_pos rfl,if_neg (by omega),a1.1,EX e t,F2 (by omega) (by omega)];show _=(((U9 h p).n+(h.On.g i).n:Nat):Int);omega
end Go.AM
namespace Go.AM
open Go.Proofs
def AG8 (h:A8)(i:Nat):Prop:=∃u v,u<v/\v<i/\(h.Laws.g u).Name=(h.Laws.g v).Name
open Classical in
noncomputable def hres (N:Nat) (h:A8):Int:=
 if ¬Bk h.Tree then 16 else if 64<h.Laws.n then 12 else if ∃i,i<h.Laws.n/\¬chkAll N (h.Laws.g i)then 17 else if AG8 h h.Laws.n then 6 else if h.On.n≠h.Tree.n then 2
 else if VB h then 2 else if ∃v,v<h.On.n/\AF2 h v then 3 else 0
structure BV (N:Nat) (h:A8):Prop where
 tree:Bk h.Tree
 laws:Dq N h.Laws
 dup:¬AG8 h h.Laws.n
 on:h.On.n=h.Tree.n
 long:¬VB h
 bad:∀v,v<h.On.n->¬AF2 h v
theorem hres_zero {N:Nat}{h:A8}:hres N h=0↔BV N h:=by
 unfold hres;constructor
 ·intro g;split at g
  ·cases g
  split at g
  ·cases g
  split at g
  ·cases g
  split at g
  ·cases g
  split at g
  ·cases g
  split at g
  ·cases g
  split at g
  ·cases g
  rename_i h1 n c d f j l;exact⟨Classical.not_not.1 h1,⟨by omega,fun i a=>AS9 fun hn=>c ⟨i,a,hn⟩⟩,d,Classical.not_not.1 f,j,fun v b hb=>l ⟨v,b,hb⟩⟩
 ·intro g;have m:=g.laws.1;rw[if_neg (fun k=>k g.tree),if_neg (by omega),if_neg (fun⟨i,a,hn⟩=>hn (g.laws.2 i a)),if_neg g.dup,if_neg (fun k=>k g.on),if_neg g.long,if_neg (fun⟨v,b,hb⟩=>g.bad v b hb)]
theorem Ej {N:Nat}{h:A8}(h1:Bk h.Tree)(a:Dq N h.Laws)(b:¬AG8 h h.Laws.n)(c:h.On.n=h.Tree.n){e:Int}(d:Ag0 h e):e=hres N h:=by
 have f:=a.1;unfold hres;rw[if_neg (fun k=>k h1),if_neg (by omega),if_neg (fun⟨i,j,hn⟩=>hn (a.2 i j)),if_neg b,if_neg (fun k=>k c)];rcases d with⟨g,rfl⟩ | ⟨g,g2,rfl⟩ | ⟨g,g2,rfl⟩
 ·rw[if_pos g]
 ·rw[if_neg g,if_pos g2]
 ·rw[if_neg g,if_neg (fun⟨v,l,hb⟩=>g2 v l hb)]
theorem S6 {N:Nat}(z:3000000<=N){h:A8}(o:T2 h):E3 N h=some (hres N h):=by
 suffices g:∃r,E3 N h=some r/\r=hres N h by obtain⟨r,g,rfl⟩:=g;exact g
 obtain⟨e,e1,_,he⟩:=QH z o.tree;unfold E3;refine B4 e1 ?_;rcases he with⟨rfl,ht⟩ | ⟨rfl,ht⟩
 case inr=>exact ifT (by decide) ⟨16,rfl,by unfold hres;rw[if_pos ht]⟩
 refine ifF (by decide) ?_;by_cases c:64<h.Laws.n
 ·exact ifT (by simp;omega) ⟨12,rfl,by unfold hres;rw[if_neg (fun k=>k ht),if_pos c]⟩
 refine ifF (by simp;omega) ?_;refine S8 (fun i (x1:List (Str×Int)) x2=>x2=(i:Int)/\(∀j,j<i->chkAll N (h.Laws.g j))/\(∀s,(CJ eqS s x1=none/\∀u,u<i->(h.Laws.g u).Name≠s) \/ (∃v,CJ eqS s x1=some v)/\∃u,u<i/\(h.Laws.g u).Name=s)/\((AG8 h i/\x1.length<i) \/ (¬AG8 h i/\x1.length=i))) h.Laws.n _ (by omega)
  ⟨rfl,fun j hj=>absurd hj (by omega),fun s=>.inl ⟨rfl,fun u q=>absurd q (by omega)⟩,.inr ⟨fun⟨u,v,_,hv,_⟩=>absurd hv (by omega),rfl⟩⟩ ?_
 rintro self i x1 x2 hle ⟨rfl,hc,hm,hl⟩ hs;by_cases d:i<h.Laws.n
 ·obtain⟨y,y1,_,hy⟩:=Eh z (o.laws i d);refine ifT (by simp;omega) (ifT (by omega) (B4 (by rw[AP2];exact y1) ?_));rcases hy with⟨rfl,hy⟩ | ⟨rfl,hy⟩
  case inr=>exact ifT (by decide) ⟨17,rfl,by unfold hres;rw[if_neg (fun k=>k ht),if_neg c,if_pos ⟨i,d,hy⟩]⟩
  refine ifF (by decide) ?_;rw[AP2];have t : ∀j,j<i+1->chkAll N (h.Laws.g j):=fun j hj=>by
   by_cases e:j=i
   ·subst e;exact hy
   ·exact hc j (by omega)
  have look:∀(v:Int) (s:Str),(CJ eqS s (PA eqS (h.Laws.g i).Name v x1)=none/\∀u,u<i+1->(h.Laws.g u).Name≠s) \/ (∃w,CJ eqS s (PA eqS (h.Laws.g i).Name v x1)=some w)/\∃u,u<i+1/\(h.Laws.g u).Name=s:=by
   intro v s;rw[Jj];by_cases e:s=(h.Laws.g i).Name
   ·exact .inr ⟨⟨v,by rw[if_pos e]⟩,i,by omega,e.symm⟩
   ·rw[if_neg e];rcases hm s with⟨g,g2⟩ | ⟨g,u,q,g2⟩
    ·refine .inl ⟨g,fun u q=>?_⟩;by_cases e2:u=i
     ·subst e2;exact fun k=>e k.symm
     ·exact g2 u (by omega)
    ·exact .inr ⟨g,u,by omega,g2⟩
  rcases hm (h.Laws.g i).Name with⟨g,g2⟩ | ⟨⟨v,g⟩,u,q,g2⟩
  ·rw[g,RN];refine hs d _ _ ⟨C4 (by omega),t,look _,?_⟩;rw[WT g];rcases hl with⟨⟨a,b,f,hb,hn⟩,hl⟩ | ⟨m,hl⟩
   ·exact .inl ⟨⟨a,b,f,by omega,hn⟩,by omega⟩
   ·refine .inr ⟨fun⟨a,b,f,hb,hn⟩=>?_,by omega⟩;by_cases e:b=i
    ·subst e;exact g2 a f hn
    ·exact m ⟨a,b,f,by omega,hn⟩
  ·rw[g,ZV];refine hs d _ _ ⟨C4 (by omega),t,look _,?_⟩;rw[WU g];refine .inl ⟨⟨u,i,q,by omega,g2⟩,?_⟩;rcases hl with⟨_,hl⟩ | ⟨_,hl⟩<;>omega
 ·obtain rfl:i=h.Laws.n:=by omega
  have hok:Dq N h.Laws:=⟨by omega,hc⟩;have x:¬ ∃i,i<h.Laws.n/\¬chkAll N (h.Laws.g i):=fun⟨i,o,hn⟩=>hn (hc i o);refine ifF (by simp) ?_;rw[Uf];rcases hl with⟨m,hl⟩ | ⟨m,hl⟩
  ·exact ifT (by simp;omega) ⟨6,rfl,by unfold hres;rw[if_neg (fun k=>k ht),if_neg c,if_neg x,if_pos m]⟩
  refine ifF (by simp;omega) ?_;by_cases l:h.On.n=h.Tree.n
  case neg=>exact ifT (by simp;omega) ⟨2,rfl,by unfold hres;rw[if_neg (fun k=>k ht),if_neg c,if_neg x,if_neg m,if_pos l]⟩
  refine ifF (by simp[l]) ?_;obtain⟨e,e1,he⟩:=Ag1 z o ht l;exact B4 e1 ⟨e,rfl,Ej ht hok m l he⟩
theorem Y0 {N:Nat}(hN:3000000<=N){h:A8}(q:T2 h):Q5 N h=some (hres N h):=by
 suffices g:∃r,Q5 N h=some r/\r=hres N h by obtain⟨r,g,rfl⟩:=g;exact g
 obtain⟨e,_,e1,he⟩:=QH hN q.tree;unfold Q5;refine B4 e1 ?_;rcases he with⟨rfl,ht⟩ | ⟨rfl,ht⟩
 case inr=>exact ifT (by decide) ⟨16,rfl,by unfold hres;rw[if_pos ht]⟩
 refine ifF (by decide) ?_;by_cases f:64<h.Laws.n
 ·exact ifT (by simp;omega) ⟨12,rfl,by unfold hres;rw[if_neg (fun k=>k ht),if_pos f]⟩
 refine ifF (by simp;omega) ?_;refine Ae (fun i x1=>x1=(i:Int)/\∀j,j<i->chkAll N (h.Laws.g j)) h.Laws.n _ (by omega) ⟨rfl,fun j s=>absurd s (by omega)⟩ ?_;rintro self i x1 hle ⟨rfl,hc⟩ hs;by_cases a:i<h.Laws.n
 ·obtain⟨y,_,y1,hy⟩:=Eh hN (q.laws i a);refine ifT (by simp;omega) (ifT (by omega) (B4 (by rw[AP2];exact y1) ?_));rcases hy with⟨rfl,hy⟩ | ⟨rfl,hy⟩
  case inr=>exact ifT (by decide) ⟨17,rfl,by unfold hres;rw[if_neg (fun k=>k ht),if_neg f,if_pos ⟨i,a,hy⟩]⟩
  refine ifF (by decide) (hs a _ ⟨C4 (by omega),fun j s=>?_⟩);by_cases e:j=i
  ·subst e;exact hy
  ·exact hc j (by omega)
 obtain rfl:i=h.Laws.n:=by omega
 have l:Dq N h.Laws:=⟨by omega,hc⟩;have w:¬ ∃i,i<h.Laws.n/\¬chkAll N (h.Laws.g i):=fun⟨i,q,hn⟩=>hn (hc i q);refine ifF (by simp) ?_;refine Ae (fun i x1=>x1=(i:Int)/\¬AG8 h i) h.Laws.n _ (by omega) ⟨rfl,fun⟨u,v,_,d,_⟩=>absurd d (by omega)⟩ ?_;rintro a3 i x1 hle2 ⟨rfl,t⟩ a4;by_cases a:i<h.Laws.n
 ·refine ifT (by simp;omega) ?_;refine Ae (fun k x5=>x5=(k:Int)/\∀u,u<k->(h.Laws.g u).Name≠(h.Laws.g i).Name) i _ (by omega) ⟨rfl,fun u hu=>absurd hu (by omega)⟩ ?_;rintro a5 k x5 hk ⟨rfl,x⟩ a6;by_cases z:k<i
  ·refine ifT (by simp;omega) (ifT (by omega) ?_);rw[AP2,AP2];by_cases e:(h.Laws.g k).Name=(h.Laws.g i).Name
   ·exact ifT (by simp[e]) ⟨6,rfl,by unfold hres;rw[if_neg (fun k=>k ht),if_neg f,if_neg w,if_pos ⟨k,i,z,a,e⟩]⟩
   ·refine ifF (by simp;exact fun g=>e g.symm) (a6 z _ ⟨C4 (by omega),fun u hu=>?_⟩);by_cases e2:u=k
    ·subst e2;exact e
    ·exact x u (by omega)
  ·refine ifF (by simp;omega) (a4 a _ ⟨C4 (by omega),fun⟨u,v,a7,d,hn⟩=>?_⟩);by_cases e:v=i
   ·subst e;exact x u (by omega) hn
   ·exact t ⟨u,v,a7,by omega,hn⟩
 obtain rfl:i=h.Laws.n:=by omega
 refine ifF (by simp) ?_;by_cases b:h.On.n=h.Tree.n
 case neg=>exact ifT (by simp;omega) ⟨2,rfl,by unfold hres;rw[if_neg (fun k=>k ht),if_neg f,if_neg w,if_neg t,if_pos b]⟩
 refine ifF (by simp[b]) ?_;have h63:=ht.2.1;refine Ae (fun i x1=>x1=(i:Int)/\∀v,v<i->¬ 64<(U9 h v).n) h.On.n _ (by omega) ⟨rfl,fun v d=>absurd d (by omega)⟩ ?_;rintro a8 i x1 hle3 ⟨rfl,a0⟩ a9;by_cases a:i<h.On.n
 ·refine ifT (by simp;omega) (B4 (MF q ht b N i (by omega) (by omega)) ?_);by_cases hg:64<(U9 h i).n
  ·exact ifT (by simp;omega) ⟨2,rfl,Ej ht l t b (.inl ⟨⟨i,a,hg⟩,rfl⟩)⟩
  ·refine ifF (by simp;omega) (a9 a _ ⟨C4 (by omega),fun v d=>?_⟩);by_cases e:v=i
   ·subst e;exact hg
   ·exact a0 v (by omega)
 refine ifF (by simp;omega) ?_;have m:¬VB h:=fun⟨v,d,g⟩=>a0 v (by omega) g;refine Ae (fun i x1=>x1=(i:Int)/\∀v,v<i->¬AF2 h v) h.On.n _ (by omega) ⟨rfl,fun v d=>absurd d (by omega)⟩ ?_;rintro b0 i x1 hle4 ⟨rfl,a1⟩ b1;by_cases c:i<h.On.n
 ·have hl:=q.len i c;refine ifT (by simp;omega) ?_;refine Ae (fun k x1=>x1=(k:Int)/\∀j,j<k->¬((h.On.g i).g j<0 \/ (h.Laws.n:Int)<=(h.On.g i).g j)) (h.On.g i).n _ (by omega) ⟨rfl,fun j s=>absurd s (by omega)⟩ ?_;rintro b2 k x1 hk ⟨rfl,a2⟩ b3;refine ifT (by omega) ?_;rw[AP2,AP2];by_cases o:k<(h.On.g i).n
  ·refine ifT (by simp;omega) (ifT (by omega) ?_);by_cases g1:(h.On.g i).g k<0
   ·exact ifT (by simpa using g1) ⟨3,rfl,Ej ht l t b (.inr (.inl ⟨m,⟨i,c,k,o,.inl g1⟩,rfl⟩))⟩
   refine ifF (by simpa using g1) (ifT (by omega) ?_);by_cases g2:(h.Laws.n:Int)<=(h.On.g i).g k
   ·exact ifT (by simpa using g2) ⟨3,rfl,Ej ht l t b (.inr (.inl ⟨m,⟨i,c,k,o,.inr g2⟩,rfl⟩))⟩
   refine ifF (by simpa using g2) (b3 o _ ⟨C4 (by omega),fun j s=>?_⟩);by_cases e:j=k
   ·subst e;exact fun g=>g.elim g1 g2
   ·exact a2 j (by omega)
  ·refine ifF (by simp;omega) (b1 c _ ⟨C4 (by omega),fun v d=>?_⟩);by_cases e:v=i
   ·subst e;exact fun⟨j,s,g⟩=>a2 j (by omega) g
   ·exact a1 v (by omega)
 ·exact ifF (by simp;omega) ⟨0,rfl,Ej ht l t b (.inr (.inr ⟨m,fun v d=>a1 v (by omega),rfl⟩))⟩
end Go.AM
namespace Go.AM
open IntKind (wrap)
open Go.Proofs
def Tr (t:Sl G7)(v:Nat):List Nat:=
 if hp:0<=(t.g v).Parent/\(t.g v).Parent<v then Tr t (t.g v).Parent.toNat++[v]else [v]
termination_by v
decreasing_by omega
theorem Ek {t:Sl G7}{v:Nat}(a:(t.g v).Parent<0):Tr t v=[v]:=by rw[Tr,dif_neg (by omega)]
theorem Jk {t:Sl G7}{v p:Nat}(a:(t.g v).Parent=(p:Int))(hp:p<v):Tr t v=Tr t p++[v]:=by rw[Tr,dif_pos (by omega),a,AP2]
theorem MG {t:Sl G7}(ht:Bk t):∀(m v:Nat),v<=m->v<t.n->∀x∈Tr t v,x<=v
 |m,v,hm,hv,x,hx=>by
  rcases S5 ht hv with⟨_,e⟩ | ⟨p,hp,e⟩
  ·rw[Ek (by omega)]at hx;simp at hx;omega
  ·rw[Jk e hp]at hx;rcases List.mem_append.1 hx with hx|hx
   ·match m with
    |0=>omega
    |m+1=>have:=MG ht m p (by omega) (by omega) x hx;omega
   ·simp at hx;omega
theorem Ar1 {α : Type}{x:Sl α}{m:Nat}(h:x.n=m+1):x.toList.reverse=x.g m::(x.take m).toList.reverse:=by unfold Sl.toList;rw[h,AY6,AY7,AX5];rfl
theorem WV {x2:Sl Int}(hx:x2.n<100000):∀(k M:Nat),k<=x2.n->k<M->R6 M (fun (a:Int->Option (List Int)) (x3:Int)=>
 if (decide (0<=x3)) then
  if (((0:Int)<=x3/\x3<(x2.n:Int))/\x3.toNat<x2.n)then
   AB (x2.g x3.toNat) (
    a (wrap .i64 (x3-1))
    )
  else none
 else
  some []
 ) ((k:Int)-1)=some (x2.take k).toList.reverse
 |0,M,hk,hM=>by obtain⟨M,rfl⟩:∃K,M=K+1:=⟨M-1,by omega⟩;rw[AY,if_neg (by simp)];rfl
 |k+1,M,hk,hM=>by obtain⟨M,rfl⟩:∃K,M=K+1:=⟨M-1,by omega⟩;rw[show ((k+1:Nat):Int)-1=(k:Int) by omega,AY,if_pos (by simp),if_pos ⟨by omega,by omega⟩,F2 (by omega) (by omega),WV hx k M (by omega) (by omega),AP2,Ar1 (x:=x2.take (k+1)) (m:=k) rfl];rfl
theorem QI {N:Nat}(j:3000000<=N){t:Sl G7}(ht:Bk t){v:Nat}(f:v<t.n):H7 N (v:Int) t=some ((Tr t v).map fun (x:Nat)=>(x:Int)):=by
 have i:=ht.2.1;have key:∀(m c:Nat) (x2:Sl Int) (M:Nat),c<m->c<t.n->m+1<M->x2.n+c<=1000->∃y:Sl Int,y.n<=1001/\y.toList.reverse=((Tr t c).map fun (x:Nat)=>(x:Int))++x2.toList.reverse /\
  Q2 M (fun (a:Int->Sl Int->Option (List Int)) (x1:Int) (x2:Sl Int)=>
  if (decide (0<=x1)) then
   if (((x2.n+(Sl.of [x1]:Sl Int).n)*8<=140737488355328/\x2.n+(Sl.of [x1]:Sl Int).n<=140737488355328)/\((0:Int)<=x1/\x1<(t.n:Int)))then
    a (t.g x1.toNat).Parent (x2.push x1)
   else none
  else
   R6 N (fun b (x3:Int)=>
    if (decide (0<=x3)) then
     if (((0:Int)<=x3/\x3<(x2.n:Int))/\x3.toNat<x2.n)then
      AB (x2.g x3.toNat) (
       b (wrap .i64 (x3-1))
       )
     else none
    else
     some []
    ) (wrap .i64 ((x2.n:Int)-1))
  ) (c:Int) x2=some y.toList.reverse:=by
  intro m
  induction m with
  |zero=>exact fun c _ _ h=>absurd h (by omega)
  |succ m ih=>
   intro c x2 M hc d l hx;obtain⟨M,rfl⟩:∃K,M=K+1:=⟨M-1,by omega⟩;rw[E1,if_pos (by simp),if_pos ⟨by show (x2.n+1)*8<=_/\x2.n+1<=_;omega,by omega⟩,AP2];rcases S5 ht d with⟨_,e⟩ | ⟨p,hp,e⟩
   ·obtain⟨M,rfl⟩:∃K,M=K+1:=⟨M-1,by omega⟩;refine⟨x2.push (c:Int),by show x2.n+1<=_;omega,by rw[Af5,AX5,Ek (by omega)];rfl,?_⟩;rw[e,E1,if_neg (by decide)];have hb:=WV (x2:=x2.push (c:Int)) (by show x2.n+1<_;omega) (x2.n+1) N (AP8 _) (by omega);rw[F2 (by show _<=((x2.n+1:Nat):Int)-1;omega) (by show ((x2.n+1:Nat):Int)-1<=_;omega)];exact hb
   ·obtain⟨y,y1,y2,y3⟩:=ih p (x2.push (c:Int)) M (by omega) (by omega) (by omega) (by show x2.n+1+p<=_;omega);refine⟨y,y1,?_,by rw[e];exact y3⟩;rw[y2,Af5,AX5,Jk e hp,AY7,Bb7];rfl
 obtain⟨y,_,y2,y3⟩:=key (v+1) v (Sl.nil:Sl Int) N (by omega) f (by omega) (by show 0+v<=_;omega);unfold H7;rw[y3,y2];show some (_++[])=_;rw[AY4]
def AF3 (h:A8)(L:List Nat)(z:Sl Int):Sl Int:=L.foldl (fun z x=>z.app (h.On.g x)) z
theorem Ts {h:A8}(ht:Bk h.Tree):∀(m v:Nat),v<=m->v<h.Tree.n->AF3 h (Tr h.Tree v) (Sl.nil:Sl Int)=U9 h v
 |m,v,hm,hv=>by
  rcases S5 ht hv with⟨_,e⟩ | ⟨p,hp,e⟩
  ·rw[Ek (by omega),BC (by omega)];rfl
  ·rw[Jk e hp,EX e hp]
   match m with
   |0=>omega
   |m+1=>
    have:=Ts ht m p (by omega) (by omega)
    unfold AF3 at this⊢;rw[List.foldl_append,this];rfl
theorem MH {h:A8}(c:T2 h):∀(L:List Nat) (z:Sl Int),(∀x∈L,x<h.On.n)->z.n+L.length*1100000<=10000000000 ->
 O6 (L.map fun (x:Nat)=>(x:Int)) (fun (a:Sl Int->Option ((Sl Int)×Int)) (x1:Int) (z1:Sl Int)=>
  if (((0:Int)<=x1/\x1<(h.On.n:Int))/\((z1.n+(h.On.g x1.toNat).n)*8<=140737488355328/\z1.n+(h.On.g x1.toNat).n<=140737488355328))then
   a (z1.app (h.On.g x1.toNat))
  else none
  ) (fun (z1:Sl Int)=>
   some (z1,0)
  ) z=some (AF3 h L z,0)
 |[],z,_,_=>rfl
 |x::L,z,hx,hz=>by have b:=hx x (by simp);have hl:=c.len x b;simp only[AS3,Ba7]at hz;rw[AS0,O6,AP2,if_pos ⟨by omega,by omega⟩];exact MH c L _ (fun y hy=>hx y (by simp[hy])) (by show z.n+(h.On.g x).n+_<=_;omega)
theorem QJ {t:Sl G7}(ht:Bk t):∀(m v:Nat),v<=m->v<t.n->(Tr t v).length<=v+1
 |m,v,hm,hv=>by
  rcases S5 ht hv with⟨_,e⟩ | ⟨p,hp,e⟩
  ·rw[Ek (by omega)];simp
  ·rw[Jk e hp]
   match m with
   |0=>omega
   |m+1=>have:=QJ ht m p (by omega) (by omega);simp;omega
theorem WW {N:Nat}(g:3000000<=N){h:A8}(d:T2 h)(v:Int) :∃s e,Q6 N h v=some (s,e)/\Ee N h v=some (s,e)/\((e=0/\BV N h/\0<=v/\v<h.Tree.n/\s=U9 h v.toNat) \/ (e≠0/\s=(Sl.nil:Sl Int))):=by
 unfold Q6 Ee;rw[S6 g d,Y0 g d,AP5,AP5];by_cases f:hres N h=0
 case neg=>
  have b:(hres N h != 0)=true:=by simpa using f
  rw[if_pos b,if_pos b];exact⟨_,_,rfl,rfl,.inr ⟨f,rfl⟩⟩
 have a:=hres_zero.1 f;have c:¬(hres N h != 0)=true:=by simp[f]
 rw[if_neg c,if_neg c,J8,BA,AP5,AP5];by_cases m:0<=v/\v<(h.Tree.n:Int)
 case neg=>
  have hb:(!((decide (0<=v))&&(decide (v<(h.Tree.n:Int)))))=true:=by simp;omega
  rw[if_pos hb,if_pos hb];exact⟨_,_,rfl,rfl,.inr ⟨by decide,rfl⟩⟩
 have hb:¬(!((decide (0<=v))&&(decide (v<(h.Tree.n:Int)))))=true:=by simp;omega
 rw[if_neg hb,if_neg hb,P9,AP5];obtain⟨u,rfl⟩:∃u:Nat,v=(u:Int):=⟨v.toNat,by omega⟩;have l:=a.tree.2.1;have hw:=QI g a.tree (v:=u) (by omega);have j:=QJ a.tree u u (AP8 _) (by omega);have i:=MH d (Tr h.Tree u) (Sl.nil:Sl Int) (fun x hx=>by have:=MG a.tree u u (AP8 _) (by omega) x hx;have:=a.on;omega) (by show 0+_<=_;omega);rw[MF d a.tree a.on N u (by omega) (by omega),AP5];refine⟨U9 h u,0,?_,rfl,.inl ⟨rfl,a,by omega,by omega,by rw[AP2]⟩⟩;show (H7 N (u:Int) h.Tree).bind _=_;rw[hw,AP5,i,Ts a.tree u u (AP8 _) (by omega)]
theorem VC {N:Nat}{h:A8}(a:BV N h):∀(m v:Nat),v<=m->v<h.Tree.n->∀i,i<(U9 h v).n->0<=(U9 h v).g i/\(U9 h v).g i<h.Laws.n
 |m,v,hm,hv,i,b=>by
  have AF7:∀j,j<(h.On.g v).n->0<=(h.On.g v).g j/\(h.On.g v).g j<h.Laws.n:=fun j c=>by
   have:=a.bad v (by have:=a.on;omega)
   constructor
   ·exact Int.not_lt.1 fun g=>this ⟨j,c,.inl g⟩
   ·exact Int.not_le.1 fun g=>this ⟨j,c,.inr g⟩
  rcases S5 a.tree hv with⟨_,e⟩ | ⟨p,hp,e⟩
  ·rw[BC (by omega)]at b⊢;have b:i<0+(h.On.g v).n:=b
   have:((Sl.nil:Sl Int).app (h.On.g v)).g i=(h.On.g v).g i:=by show (if i<0 then (default:Int)else (h.On.g v).g (i-0))=_;rw[if_neg (by omega)];rfl
   rw[this];exact AF7 i (by omega)
  ·rw[EX e hp]at b⊢;have b:i<(U9 h p).n+(h.On.g v).n:=b;show 0<=(if i<(U9 h p).n then (U9 h p).g i else (h.On.g v).g (i-(U9 h p).n))/\(if i<(U9 h p).n then (U9 h p).g i else (h.On.g v).g (i-(U9 h p).n))<_;split
   ·match m with
    |0=>omega
    |m+1=>exact VC a m p (by omega) (by omega) i (by assumption)
   ·exact AF7 _ (by omega)
theorem Hs:∀(d:Nat) (p:Pat),okP d p->∀M,100+d<=M->∃q,N9 M p=some q/\PE p q
 |0,p,h,M,_=>h.elim
 |d+1,p,h,0,hM=>by omega
 |d+1,p,h,M+1,hM=>by
  show ∃q,O4 (N9 M) M p=some q/\_;unfold O4;have hn:=h.1;refine S8 (fun i (x1:Sl Pat) x2=>x2=(i:Int)/\x1.n=i/\∀j,j<i->PE (p.L.g j) (x1.g j)) p.L.n _ (by omega) ⟨rfl,rfl,fun j a=>absurd a (by omega)⟩ ?_;rintro c i x1 x2 f ⟨rfl,hx,a⟩ hs;by_cases hl:i<p.L.n
  ·obtain⟨q,q1,q2⟩:=Hs d (p.L.g i) (h.2.2 i hl) M (by omega);refine ifT (by simp;omega) (ifT (by omega) (B4 (by rw[AP2];exact q1) (ifT (by show (x1.n+1)*64<=_/\x1.n+1<=_;omega) (hs hl _ _ ⟨C4 (by omega),by show x1.n+1=_;omega,fun j b=>?_⟩))));show PE _ (if j<x1.n then x1.g j else q);by_cases e:j=i
   ·subst e;rw[if_neg (by omega)];exact q2
   ·rw[if_pos (by omega)];exact a j (by omega)
  ·exact ifF (by simp;omega) ⟨_,rfl,PE_of.2 ⟨rfl,rfl,rfl,rfl,rfl,by show x1.n=_;omega,fun j b=>a j (by omega)⟩⟩
theorem YQ {N:Nat}(d:3000000<=N){l:Law}(hl:Kj l)(hc:chkAll N l):∃l',P2 N l=some l' /\ LE l l':=by have a:=hc.f hl;obtain⟨_,h1,b,g,c,_⟩:=a;have i:=c.1;obtain⟨q1,e1,g1⟩:=Hs 40 l.Left (Mx 40 _ (by omega) h1 _ (by simp)) N (by omega);obtain⟨q2,e2,g2⟩:=Hs 40 l.Right (Mx 40 _ (by omega) b _ (by simp)) N (by omega);unfold P2 A6 F6;rw[e1,e2,AP5,AP5,if_pos (by omega),AP5,if_pos (by omega)];exact⟨_,rfl,rfl,g1,g2,SE.refl _,SE.refl _,rfl⟩
theorem QK {N:Nat}(m:3000000<=N){h:A8}(o:T2 h)(c:BV N h){l:Sl Int}(hn:l.n<1000000)(hl:∀i,i<l.n->0<=l.g i/\l.g i<h.Laws.n) :∃s,H8 N h l=some s/\s.n=l.n/\∀i,i<l.n->LE (h.Laws.g (l.g i).toNat) (s.g i):=by
 unfold H8;refine S8 (fun i (x1:Sl Law) x2=>x2=(i:Int)/\x1.n=i/\∀j,j<i->LE (h.Laws.g (l.g j).toNat) (x1.g j)) l.n _ (by omega) ⟨rfl,rfl,fun j b=>absurd b (by omega)⟩ ?_;rintro f i x1 x2 hle ⟨rfl,hx,b⟩ hs;by_cases a:i<l.n
 ·have r:=hl i a;obtain⟨q,q1,q2⟩:=YQ m (o.laws (l.g i).toNat (by omega)) (c.laws.2 (l.g i).toNat (by omega));refine ifT (by simp;omega) ?_;rw[AP2];refine ifT ⟨by omega,r⟩ (B4 q1 (ifT (by show (x1.n+1)*200<=_/\x1.n+1<=_;omega) (hs a _ _ ⟨C4 (by omega),by show x1.n+1=_;omega,fun j d=>?_⟩)));show LE _ (if j<x1.n then x1.g j else q);by_cases e:j=i
  ·subst e;rw[if_neg (by omega)];exact q2
  ·rw[if_pos (by omega)];exact b j (by omega)
 ·exact ifF (by simp;omega) ⟨_,rfl,by omega,fun j d=>b j (by omega)⟩
def ID (h:A8)(l:Sl Int):Sl Law:=⟨l.n,fun i=>h.Laws.g (l.g i).toNat⟩
theorem Ar2 {N:Nat}(q:3000000<=N){h:A8}(b:T2 h)(v:Int) :∃s s' e,DB N h v=some (s,e)/\Ef N h v=some (s',e)/\LS s' s/\((e=0/\BV N h/\0<=v/\v<h.Tree.n/\SE s' (ID h (U9 h v.toNat))) \/ (e≠0/\s.n=0)):=by
 obtain⟨l,e,h1,w,t⟩:=WW q b v;unfold DB Ef;rw[h1,w,AP5,AP5];have hl:l.n<1000000/\(∀i,i<l.n->0<=l.g i/\l.g i<h.Laws.n)/\∃s,H8 N h l=some s/\s.n=l.n/\∀i,i<l.n->LE (h.Laws.g (l.g i).toNat) (s.g i):=by
  rcases t with⟨_,a,g1,g2,rfl⟩ | ⟨_,rfl⟩
  ·have x:(U9 h v.toNat).n<=64:=Ba6 fun g=>a.long ⟨v.toNat,by have:=a.on;omega,g⟩;have f:=VC a v.toNat v.toNat (AP8 _) (by omega);exact⟨by omega,f,QK q b a (by omega) f⟩
  ·refine⟨by show 0<_;omega,fun i b=>absurd b (AU0 i),(Sl.nil:Sl Law),?_,rfl,fun i b=>absurd b (AU0 i)⟩;unfold H8;obtain⟨M,rfl⟩:∃K,N=K+1:=⟨N-1,by omega⟩;rw[E1,if_neg (by show ¬decide ((0:Int)<((0:Nat):Int))=true;decide)]
 obtain⟨hn,y,s,s1,s2,s3⟩:=hl;have z:∃r,(Q2 N (fun (c:Sl Law->Int->Option ((Sl Law)×Int)) (x1:Sl Law) (x2:Int)=>
  if (decide (x2<(l.n:Int))) then
   if ((((0:Int)<=x2/\x2<(l.n:Int))/\x2.toNat<l.n)/\((0:Int)<=(l.g x2.toNat)/\(l.g x2.toNat)<(h.Laws.n:Int)))then
    if ((x1.n+(Sl.of [h.Laws.g (l.g x2.toNat).toNat]:Sl Law).n)*200<=140737488355328/\x1.n+(Sl.of [h.Laws.g (l.g x2.toNat).toNat]:Sl Law).n<=140737488355328)then
     c (x1.push (h.Laws.g (l.g x2.toNat).toNat)) (wrap .i64 (x2+1))
    else none
   else none
  else
   some (x1,e)
  ) (Sl.nil:Sl Law) 0)=some r/\r.2=e/\r.1.n=l.n/\∀i,i<l.n->r.1.g i=h.Laws.g (l.g i).toNat:=by
  refine S8 (fun i (x1:Sl Law) x2=>x2=(i:Int)/\x1.n=i/\∀j,j<i->x1.g j=h.Laws.g (l.g j).toNat) l.n _ (by omega) ⟨rfl,rfl,fun j m=>absurd m (by omega)⟩ ?_;rintro u i x1 x2 hle ⟨rfl,hx,m⟩ hs;by_cases d:i<l.n
  ·refine ifT (by simp;omega) ?_;rw[AP2];refine ifT ⟨⟨by omega,d⟩,y i d⟩ (ifT (by show (x1.n+1)*200<=_/\x1.n+1<=_;omega) (hs d _ _ ⟨C4 (by omega),by show x1.n+1=_;omega,fun j o=>?_⟩));show (if j<x1.n then x1.g j else _)=_;by_cases e:j=i
   ·subst e;rw[if_neg (by omega)]
   ·rw[if_pos (by omega)];exact m j (by omega)
  ·exact ifF (by simp;omega) ⟨_,rfl,rfl,by show x1.n=_;omega,fun j o=>m j (by omega)⟩
 obtain⟨⟨s',e'⟩,d1,d2,d3,d4⟩:=z;dsimp only at d2 d3 d4;subst d2;rw[s1,AP5];refine⟨s,s',_,rfl,d1,⟨by omega,fun i b=>by rw[d4 i (by omega)];exact s3 i (by omega)⟩,?_⟩;rcases t with⟨g0,a,g1,g2,rfl⟩ | ⟨g0,rfl⟩
 ·exact .inl ⟨g0,a,g1,g2,d3,fun i b=>d4 i (by omega)⟩
 ·exact .inr ⟨g0,s2⟩
end Go.AM
namespace Go.AM
open Go.Proofs
def Ny (N:Nat)(l:Law)(w:Sl Sound):Option (Sl Sound):=(Q4 N l w).bind fun y=>if y.2=0 then some y.1 else none
def BD (N:Nat):List Law->Sl Sound->Option (Sl Sound)
 |[],w=>some w
 |l::L,w=>(Ny N l w).bind (BD N L)
theorem MI {N:Nat}:∀(A B:List Law) (w:Sl Sound),BD N (A++B) w=(BD N A w).bind (BD N B)
 |[],B,w=>rfl
 |l::A,B,w=>by
  show (Ny N l w).bind (BD N (A++B))=((Ny N l w).bind (BD N A)).bind (BD N B);cases Ny N l w with
  |none=>rfl
  |some v=>exact MI A B v
def YR (N:Nat)(l:Law):Prop:=Kj l/\chkAll N l
theorem Ar3 {N:Nat}{l l' : Law}(h:LE l l')(g:YR N l):YR N l':=⟨Kv h g.1,(CZ h).1 g.2⟩
def OR (o o' : Option (Sl Sound)):Prop:=(o=none/\o' = none) \/ ∃v v',o=some v/\o' = some v' /\ SE v v' /\ wOk v
theorem VD {N:Nat}(a:3000000<=N){l:Law}(hl:YR N l){w:Sl Sound}(hw:wOk w):(∃v,Q4 N l w=some (v,0)/\Ny N l w=some v/\wOk v) \/ (∃v,Q4 N l w=some (v,11)/\Ny N l w=none):=by
 obtain⟨⟨v,e⟩,_,h1,_,_,_,b⟩:=IA a hl.1 (LE.refl l) (SE.refl w) fun i c=>(hw.2 i c).ok;rcases b with⟨_,h⟩ | ⟨_,h,h'⟩ | ⟨_,_,h|⟨h,h'⟩⟩
 ·exact absurd hl.2 h
 ·exact absurd ((N2 h).2 hw) h'
 ·dsimp only at h;subst h;exact .inr ⟨v,h1,by unfold Ny;rw[h1];rfl⟩
 ·dsimp only at h h';subst h;exact .inl ⟨v,h1,by unfold Ny;rw[h1];rfl,h'⟩
theorem AN4 {N:Nat}(c:3000000<=N){l l' : Law}(hl:YR N l)(hle:LE l l'){w w' : Sl Sound}(hw:wOk w)(a:SE w w'):OR (Ny N l w) (Ny N l' w'):=by
 have b:=a.wOk hw;obtain⟨r,r',h1,g,j,f,_⟩:=IA c hl.1 hle a fun i d=>(hw.2 i d).ok;obtain⟨q,q',k1,k2,k3,k4,_⟩:=IA c (Kv hle hl.1) (LE.refl l') (SE.refl w') fun i d=>(b.2 i d).ok;obtain rfl:=AQ6 (g.symm.trans k2);rcases VD c hl hw with⟨v,g1,g2,g3⟩ | ⟨v,g1,g2⟩<;>rcases VD c (Ar3 hle hl) b with⟨u,p1,p2,p3⟩ | ⟨u,p1,p2⟩
 ·obtain rfl:=AQ6 (g1.symm.trans h1);obtain rfl:=AQ6 (p1.symm.trans k1);exact .inr ⟨v,u,g2,p2,j.trans k3.symm,g3⟩
 ·obtain rfl:=AQ6 (g1.symm.trans h1);obtain rfl:=AQ6 (p1.symm.trans k1);exact absurd (f.trans k4.symm) (by show ¬((0:Int)=11);decide)
 ·obtain rfl:=AQ6 (g1.symm.trans h1);obtain rfl:=AQ6 (p1.symm.trans k1);exact absurd (f.trans k4.symm) (by show ¬((11:Int)=0);decide)
 ·exact .inl ⟨g2,p2⟩
def LEs:List Law->List Law->Prop
 |[],[]=>True
 |p::l,q::m=>LE p q/\LEs l m
 |_,_=>False
theorem Ag2 {N:Nat}(a:3000000<=N):∀(L L' : List Law) (w w' : Sl Sound),(∀l∈L,YR N l)->LEs L L' -> wOk w->SE w w' -> OR (BD N L w) (BD N L' w')
 |[],[],w,w',_,_,hw,hse=>.inr ⟨w,w',rfl,rfl,hse,hw⟩
 |l::L,l' :: L',w,w',hg,⟨h1,h2⟩,hw,hse=>by
  unfold BD;rcases AN4 a (hg l (by simp)) h1 hw hse with⟨e1,e2⟩ | ⟨v,v',e1,e2,e3,e4⟩
  ·rw[e1,e2];exact .inl ⟨rfl,rfl⟩
  ·rw[e1,e2];exact Ag2 a L L' v v' (fun x hx=>hg x (by simp[hx])) h2 e4 e3
 |[],_::_,_,_,_,h,_,_=>h.elim
 |_::_,[],_,_,_,h,_,_=>h.elim
theorem Tt {f g:Nat->Law}:∀(l:List Nat),(∀i∈l,LE (f i) (g i))->LEs (l.map f) (l.map g)
 |[],_=>trivial
 |i::l,h=>⟨h i (by simp),Tt l fun j a=>h j (by simp[a])⟩
theorem LS.s {s t:Sl Law}(h:LS s t):LEs s.toList t.toList:=by unfold Sl.toList;rw[<- h.1];exact Tt _ fun i a=>h.2 i (AU8.1 a)
theorem Ag3 {N:Nat}{laws:Sl Law}(hl:Ei laws)(b:Dq N laws):∀l∈laws.toList,YR N l:=by intro l h;obtain⟨i,a,rfl⟩:=AW8.1 h;have a:=AU8.1 a;exact⟨hl i a,b.2 i a⟩
theorem VE {N:Nat}(f:3000000<=N){laws:Sl Law}(hl:Ei laws)(c:Dq N laws):∀(m i:Nat) (w:Sl Sound),wOk w->i<=laws.n->laws.n<=i+m ->
 (∃L,(∀M,m<M->Q2 M (T1 N 0 laws) w i=some L)/\BD N (laws.toList.drop i) w=some (IB w L)/\wOk (IB w L)) \/
 ((∃L,∀M,m<M->Q2 M (T1 N 0 laws) w i=none/\Q2 M (T1 N 11 laws) w i=some L)/\BD N (laws.toList.drop i) w=none):=by
 have b:=c.1;have fin:∀(m i:Nat) (w:Sl Sound),wOk w->i=laws.n->∃L,(∀M,m<M->Q2 M (T1 N 0 laws) w i=some L)/\BD N (laws.toList.drop i) w=some (IB w L)/\wOk (IB w L):=by rintro m i w hw rfl;refine⟨[],fun M d=>?_,by rw[CY];rfl,hw⟩;obtain⟨M,rfl⟩:∃K,M=K+1:=⟨M-1,by omega⟩;rw[E1,T1,if_neg (by simp),if_pos rfl]
 intro m
 induction m with
 |zero=>exact fun i w hw g hm=>.inl (fin 0 i w hw (by omega))
 |succ m ih=>
  intro i w hw g hm;by_cases a:i<laws.n
  case neg=>exact .inl (fin _ i w hw (by omega))
  rw[EU _ a];rcases VD f ⟨hl i a,c.2 i a⟩ hw with⟨v,g1,g2,g3⟩ | ⟨v,g1,g2⟩
  ·rcases ih (i+1) v g3 (by omega) (by omega)with⟨L,a1,a2,a3⟩ | ⟨⟨L,a1⟩,a2⟩
   ·refine .inl ⟨((i+1:Nat),v)::L,fun M d=>?_,by unfold BD;rw[g2];exact a2,a3⟩;obtain⟨M,rfl⟩:∃K,M=K+1:=⟨M-1,by omega⟩;rw[E1,R4 a b g1,if_neg (by simp)];show AB _ (Q2 M (T1 N 0 laws) v _)=_;rw[a1 M (by omega)];rfl
   ·refine .inr ⟨⟨((i+1:Nat),v)::L,fun M d=>?_⟩,by unfold BD;rw[g2];exact a2⟩;obtain⟨M,rfl⟩:∃K,M=K+1:=⟨M-1,by omega⟩;obtain⟨b1,b2⟩:=a1 M (by omega);rw[E1,E1,R4 a b g1,R4 a b g1,if_neg (by simp),if_neg (by simp)];refine⟨?_,?_⟩
    ·show AB _ (Q2 M (T1 N 0 laws) v _)=_;rw[b1];rfl
    ·show AB _ (Q2 M (T1 N 11 laws) v _)=_;rw[b2];rfl
  ·refine .inr ⟨⟨[],fun M d=>?_⟩,by unfold BD;rw[g2];rfl⟩;obtain⟨M,rfl⟩:∃K,M=K+1:=⟨M-1,by omega⟩;rw[E1,E1,R4 a b g1,R4 a b g1];exact⟨rfl,rfl⟩
theorem Ht {N:Nat}(g:3000000<=N){laws:Sl Law}(hl:Ei laws)(d:Dq N laws){w:Sl Sound}(hw:wOk w) :(∃v,BD N laws.toList w=some v/\G1 N laws w=some (v,0)/\wOk v) \/ (BD N laws.toList w=none/\G1 N laws w=some ((Sl.nil:Sl Sound),11)):=by
 have j:=d.1;have l:=hw.1;obtain⟨e,e1,m⟩:=MC g hl (w:=w) fun i o=>(hw.2 i o).ok
 have:e=0:=by
  rcases m with⟨h,h'⟩ | ⟨_,h⟩
  ·exact Gs h (lawsE_zero.2 d)
  ·exact (N2 h).2 hw
 subst this;have b:A6 N w=some w:=by unfold A6;rw[if_pos (by omega)]
 have a:∀c,C0 N c laws w=(AB (0,w) (Q2 N (T1 N c laws) w 0)).bind fun L1=>O6 L1 (fun (f:Sl Sound->Option (Sl Sound)) (x1:Int×(Sl Sound)) (z1:Sl Sound)=>f x1.2) (fun (z1:Sl Sound)=>some z1) (Sl.nil:Sl Sound):=by intro c;unfold C0 Aw U0;rw[AP5,b,AP5];rfl
 unfold G1;rw[e1,AP5,if_neg (by decide)];rcases VE g hl d laws.n 0 w hw (by omega) (by omega)with⟨L,g1,g2,g3⟩ | ⟨⟨L,g1⟩,g2⟩
 ·have g1:Q2 N (T1 N 0 laws) w 0=some L:=g1 N (by omega)
  have:F4 N laws w=some (IB w L,true):=by
   have e0:C0 N 0 laws w=some (IB w L):=by rw[a,g1];exact IC _ _
   unfold F4;rw[e0]
  rw[this];exact .inl ⟨_,g2,rfl,g3⟩
 ·obtain⟨g3,g4⟩:=g1 N (by omega);have g3:Q2 N (T1 N 0 laws) w 0=none:=g3;have g4:Q2 N (T1 N 11 laws) w 0=some L:=g4
  have:F4 N laws w=some ((Sl.nil:Sl Sound),false):=by
   have e0:C0 N 0 laws w=none:=by rw[a,g3];rfl
   have e11:C0 N 11 laws w=some (IB w L):=by rw[a,g4];exact IC _ _
   unfold F4;rw[e0,e11];rfl
  rw[this];exact .inr ⟨g2,rfl⟩
theorem AN5 {α : Type}(s t:Sl α):(s.app t).toList=s.toList++t.toList:=by
 show (List.range (s.n+t.n)).map (fun i=>if i<s.n then s.g i else t.g (i-s.n))=_;rw[List.range_add,AY7,AW7];congr 1
 ·exact AS2 fun i a=>if_pos (AU8.1 a)
 ·refine AS2 fun i a=>?_;show (if s.n+i<s.n then _ else t.g (s.n+i-s.n))=_;rw[if_neg (by omega)];congr 1;omega
theorem QL (h:A8)(l:Sl Int):(ID h l).toList=l.toList.map fun (i:Int)=>h.Laws.g i.toNat:=by unfold ID Sl.toList;rw[AW7];rfl
def Nz (h:A8)(L:List Nat):List Law:=L.flatMap fun x=>(ID h (h.On.g x)).toList
theorem Tu {h:A8}(ht:Bk h.Tree):∀(m v:Nat),v<=m->v<h.Tree.n->Nz h (Tr h.Tree v)=(ID h (U9 h v)).toList
 |m,v,hm,hv=>by
  rcases S5 ht hv with⟨_,e⟩ | ⟨p,hp,e⟩
  ·rw[Ek (by omega),BC (by omega),AE0 rfl];simp[Nz]
  ·rw[Jk e hp,EX e hp,QL,AN5,AY7,<- QL,<- QL]
   match m with
   |0=>omega
   |m+1=>rw[<- Tu ht m p (by omega) (by omega)];simp[Nz]
theorem QM {h:A8}(b:T2 h){l:Sl Int}(hl:∀i,i<l.n->0<=l.g i/\l.g i<h.Laws.n):Ei (ID h l):=fun i a=>b.laws _ (by have:=hl i a;omega)
theorem QN {N:Nat}{h:A8}(a:BV N h){l:Sl Int}(hn:l.n<=64)(hl:∀i,i<l.n->0<=l.g i/\l.g i<h.Laws.n):Dq N (ID h l):=⟨hn,fun i b=>a.laws.2 _ (by have:=hl i b;omega)⟩
theorem AN6 {N:Nat}{h:A8}(a:BV N h){x:Nat}(hx:x<h.Tree.n):(h.On.g x).n<=64/\∀i,i<(h.On.g x).n->0<=(h.On.g x).g i/\(h.On.g x).g i<h.Laws.n:=by
 have c:=a.on;refine⟨?_,fun j b=>?_⟩
 ·have hl:(U9 h x).n<=64:=Ba6 fun g=>a.long ⟨x,by omega,g⟩;rcases S5 a.tree hx with⟨_,e⟩ | ⟨p,hp,e⟩
  ·rw[BC (by omega)]at hl;have hl:0+(h.On.g x).n<=64:=hl;omega
  ·rw[EX e hp]at hl;have hl:(U9 h p).n+(h.On.g x).n<=64:=hl;omega
 ·have:=a.bad x (by omega)
  constructor
  ·exact Int.not_lt.1 fun g=>this ⟨j,b,.inl g⟩
  ·exact Int.not_le.1 fun g=>this ⟨j,b,.inr g⟩
theorem VF {N:Nat}(t:3000000<=N){h:A8}(c:T2 h)(a:BV N h):∀(L:List Nat) (z z' : Sl Sound),(∀x∈L,x<h.Tree.n)->wOk z->SE z z' ->
 ∃r,O6 (L.map fun (x:Nat)=>(x:Int)) (fun (d:Sl Sound->Option ((Sl Sound)×Int)) (x1:Int) (z1:Sl Sound)=>
  if ((0:Int)<=x1/\x1<(h.On.n:Int))then
   (H8 N h (h.On.g x1.toNat)).bind fun y8=>
   (G1 N y8 z1).bind fun y9=>
   if (y9.2 != 0) then
    some ((Sl.nil:Sl Sound),y9.2)
   else
    d y9.1
  else none
  ) (fun (z1:Sl Sound)=>
   some (z1,0)
  ) z=some r/\((∃v,BD N (Nz h L) z' = some v/\r.2=0/\SE r.1 v/\wOk r.1) \/ (BD N (Nz h L) z' = none/\r=((Sl.nil:Sl Sound),11)))
 |[],z,z',_,hz,hse=>⟨(z,0),rfl,.inl ⟨z',rfl,rfl,hse,hz⟩⟩
 |x::L,z,z',hx,hz,hse=>by
  have w:=hx x (by simp);have hon:=a.on;obtain⟨o1,o2⟩:=AN6 a w;obtain⟨s,s1,s2,s3⟩:=QK t c a (l:=h.On.g x) (by omega) o2;have b:LS (ID h (h.On.g x)) s:=⟨s2.symm,fun i c=>s3 i c⟩;have j:=QM c o2;have m:=QN a o1 o2;have o:=QF b j;have q : Dq N s:=⟨by omega,fun i c=>(CZ (b.2 i (by rw[b.1];exact c))).1 (m.2 i (by rw[b.1];exact c))⟩;have hf:=Ag2 t _ _ z' z (Ag3 j m) b.s (hse.wOk hz) hse.symm;have f:BD N (Nz h (x::L)) z' = (BD N (ID h (h.On.g x)).toList z').bind (BD N (Nz h L)):=by rw[<- MI];rfl
  rw[f,AS0,O6,if_pos (by omega),AP2,s1,AP5];rcases Ht t o q hz with⟨v,d1,d2,d3⟩ | ⟨d1,d2⟩
  ·rw[d2,AP5,if_neg (by simp)];rcases hf with⟨_,f2⟩ | ⟨u,u',f1,f2,f3,f4⟩
   ·rw[d1]at f2;cases f2
   ·rw[d1]at f2;obtain rfl:=AQ6 f2;rw[f1,AP5];exact VF t c a L v u (fun y hy=>hx y (by simp[hy])) d3 f3.symm
  ·rw[d2,AP5,if_pos (by simp)];rcases hf with⟨f1,_⟩ | ⟨u,u',_,f2,_⟩
   ·rw[f1];exact⟨_,rfl,.inr ⟨rfl,rfl⟩⟩
   ·rw[d1]at f2;cases f2
theorem AN7 {N:Nat}(f:3000000<=N){h:A8}(c:T2 h){w w' : Sl Sound}(l:SE w w')(hw:okA w)(v:Int) :∃r r',T0 N h w v=some r/\Qv N h w' v=some r' /\ SE r.1 r'.1/\r.2=r'.2/\(r.2=0->wOk r.1)/\(r.2=0->BV N h):=by
 unfold T0 Qv S4 Jd;rw[S6 f c,Y0 f c,AP5,AP5];by_cases o:hres N h=0
 case neg=>
  have b:(hres N h != 0)=true:=by simpa using o
  rw[if_pos b,if_pos b,AP5,AP5,if_pos b,if_pos b];exact⟨_,_,rfl,rfl,SE.refl _,rfl,fun e=>absurd e o,fun e=>absurd e o⟩
 have a:=hres_zero.1 o;have d:¬(hres N h != 0)=true:=by simp[o]
 rw[if_neg d,if_neg d];obtain⟨e',e3,t⟩:=Gd (N:=N) (by omega) hw;obtain⟨e'',e4,z⟩:=CA (N:=N) (by omega) (AE7 l hw);obtain rfl:=Ix (Af1 l t) z;rw[e3,e4];simp only[AP5];by_cases hz:e' = 0
 case neg=>
  have b:(e' != 0)=true:=by simpa using hz
  rw[if_pos b,if_pos b];exact⟨_,_,rfl,rfl,SE.refl _,rfl,fun e=>absurd e hz,fun e=>absurd e hz⟩
 have d:¬(e' != 0)=true:=by simp[hz]
 have hwk:wOk w:=(N2 t).1 hz;rw[if_neg d,if_neg d,J8,BA,AP5,AP5];by_cases hv:0<=v/\v<(h.Tree.n:Int)
 case neg=>
  have hb:(!((decide (0<=v))&&(decide (v<(h.Tree.n:Int)))))=true:=by simp;omega
  rw[if_pos hb,if_pos hb];exact⟨_,_,rfl,rfl,SE.refl _,rfl,fun e=>absurd e (by decide),fun _=>a⟩
 have hb:¬(!((decide (0<=v))&&(decide (v<(h.Tree.n:Int)))))=true:=by simp;omega
 rw[if_neg hb,if_neg hb,P9,AP5];obtain⟨u,rfl⟩:∃u:Nat,v=(u:Int):=⟨v.toNat,by omega⟩;have m:u<h.Tree.n:=by omega
 obtain⟨s,s',e,l1,l2,l3,l4⟩:=Ar2 f c (u:Int);rcases l4 with⟨rfl,_,_,_,l5⟩ | ⟨l5,_⟩
 case inr=>
  exfalso;obtain⟨s0,e0,k1,k2,k3⟩:=WW f c (u:Int);unfold DB at l1;rw[k1,AP5]at l1;rcases k3 with⟨rfl,_⟩ | ⟨k3,_⟩
  ·obtain⟨y,_,hy⟩:=AW2.1 l1;exact l5 (congrArg Prod.snd (AQ6 hy)).symm
  ·unfold Q6 at k1;rw[S6 f c,AP5,if_neg (show ¬(hres N h != 0)=true by simp[o]),J8,AP5,if_neg hb,P9,AP5]at k1;have hw2:=QI f a.tree m;have h63:=a.tree.2.1;have hlen:=QJ a.tree u u (AP8 _) m;have hit:=MH c (Tr h.Tree u) (Sl.nil:Sl Int) (fun x hx=>by have:=MG a.tree u u (AP8 _) m x hx;have:=a.on;omega) (by show 0+_<=_;omega);have k1:(H7 N (u:Int) h.Tree).bind _=_:=k1;rw[hw2,AP5,hit]at k1;exact k3 (congrArg Prod.snd (AQ6 k1)).symm
 rw[AP2]at l5;have hln:(U9 h u).n<=64:=Ba6 fun g=>a.long ⟨u,by have:=a.on;omega,g⟩;have hlo:=VC a u u (AP8 _) m;have hin:=QM c hlo;have hlk:=QN a hln hlo;have hls:LS s' (ID h (U9 h u)):=l5.ls;have j : Ei s':=fun i c=>by rw[l5.2 i c];exact hin i (by rw[<- l5.1];exact c)
 have hlk' : Dq N s':=⟨by rw[l5.1];exact hln,fun i c=>by rw[l5.2 i c];exact hlk.2 i (by rw[<- l5.1];exact c)⟩;obtain⟨r,r',d1,d2,d3,d4,_⟩:=YN f j (LS.refl s') l hw;have hdoc:Dn N h w' (u:Int)=some (r'.1,r'.2):=by unfold Dn;rw[l2,AP5,d2];rfl
 rw[hdoc,AP5];obtain⟨q,q1,q2⟩:=VF f c a (Tr h.Tree u) w w (fun x hx=>by have:=MG a.tree u u (AP8 _) m x hx;omega) hwk (SE.refl w);have hway:=QI f a.tree m;refine⟨q,_,?_,rfl,?_⟩
 ·show (H7 N (u:Int) h.Tree).bind _=_;rw[hway];exact q1
 ·rw[Tu a.tree u u (AP8 _) m,<- tl_eq.2 l5]at q2;rcases Ht f j hlk' hwk with⟨x,x1,x2,x3⟩ | ⟨x1,x2⟩
  ·obtain rfl:=AQ6 (d1.symm.trans x2);rcases q2 with⟨y,y1,y2,y3,y4⟩ | ⟨y1,_⟩
   ·obtain rfl:=AQ6 (x1.symm.trans y1);exact⟨y3.trans d3,y2.trans d4,fun _=>y4,fun _=>a⟩
   ·rw[x1]at y1;cases y1
  ·obtain rfl:=AQ6 (d1.symm.trans x2);rcases q2 with⟨y,y1,_⟩ | ⟨y1,rfl⟩
   ·rw[x1]at y1;cases y1
   ·exact⟨d3,d4,fun e=>absurd e (by show ¬((11:Int)=0);decide),fun _=>a⟩
end Go.AM
namespace Go.AM
open IntKind (wrap)
open Go.Proofs
theorem eqR {R:Type}{x:Option R}{y:R}(h:∃r,x=some r/\r=y):x=some y:=by obtain⟨r,h,rfl⟩:=h;exact h
def QO (t:Sl G7)(v:Nat):Prop:=∀u,0<u->u<t.n->(t.g u).Parent≠(v:Int)
open Classical in
noncomputable def O7 (t:Sl G7):Nat->Sl Int
 |0=>(Sl.nil:Sl Int)
 |i+1=>if QO t i then (O7 t i).push (i:Int)else O7 t i
theorem MJ {t:Sl G7}{i:Nat}(h:QO t i):O7 t (i+1)=(O7 t i).push (i:Int):=if_pos h
theorem QP {t:Sl G7}{i:Nat}(h:¬QO t i):O7 t (i+1)=O7 t i:=if_neg h
theorem QR (t:Sl G7):∀i,(O7 t i).n<=i
 |0=>AP8 0
 |i+1=>by
  have:=QR t i
  by_cases h:QO t i
  ·rw[MJ h];show (O7 t i).n+1<=i+1;omega
  ·rw[QP h];omega
theorem VG (t:Sl G7):∀i k,k<(O7 t i).n->∃v:Nat,v<i/\(O7 t i).g k=(v:Int)
 |0,k,hk=>absurd hk (AU0 k)
 |i+1,k,hk=>by
  by_cases h:QO t i
  ·rw[MJ h]at hk⊢;have hk:k<(O7 t i).n+1:=hk;show ∃v:Nat,v<i+1/\(if k<(O7 t i).n then (O7 t i).g k else (i:Int))=(v:Int);by_cases a:k<(O7 t i).n
   ·rw[if_pos a];obtain⟨v,h1,b⟩:=VG t i k a;exact⟨v,by omega,b⟩
   ·rw[if_neg a];exact⟨i,by omega,rfl⟩
  ·rw[QP h]at hk⊢;obtain⟨v,h1,b⟩:=VG t i k hk;exact⟨v,by omega,b⟩
theorem Ar4 {N:Nat}(s:3000000<=N){t:Sl G7}(ht:Bk t):∃X,X8 N t=some X/\(X.n=t.n/\∀v,v<t.n->((X.g v).n=0↔QO t v)):=by
 have o:=ht.2.1;unfold X8;refine ifT (by omega) (S8 (fun i x (X:Sl (Sl Int))=>x=(i:Int)/\X.n=t.n/\∀v,v<t.n->(((X.g v).n=0 ↔ ∀u,0<u->u<i->(t.g u).Parent≠(v:Int))/\(X.g v).n<=i)) t.n _ (by omega)
  ⟨rfl,rfl,fun v b=>⟨⟨fun _ u h1 a=>absurd a (AU0 u),fun _=>rfl⟩,AP8 0⟩⟩ ?_)
 rintro l i x X hle ⟨rfl,c,f⟩ hs;by_cases hl:i<t.n
 case neg=>
  obtain rfl:i=t.n:=by omega
  exact ifF (by simp) ⟨X,rfl,c,fun v b=>(f v b).1⟩
 refine ifT (by simpa using hl) (ifT (by omega) ?_);rw[AP2,C4 (by omega)];rcases S5 ht hl with⟨q,h1⟩ | ⟨p,hp,e⟩
 ·subst q;rw[h1];refine ifT (by show Int.toNat (-1)<X.n;rw[c];exact hl) (ltX (ifF (by simp) (hs hl _ _ ⟨rfl,c,fun v b=>?_⟩)));have e:(X.upd (Int.toNat (-1)) (X.g (Int.toNat (-1)))).g v=X.g v:=by
   show (if v=_ then X.g (Int.toNat (-1))else X.g v)=X.g v;split
   ·rename_i e;rw[e]
   ·rfl
  rw[e];obtain⟨g1,g2⟩:=f v b;exact⟨g1.trans ⟨fun _ u h1 a=>absurd a (by omega),fun _ u h1 a=>absurd a (by omega)⟩,by omega⟩
 ·rw[e,AP2];have j:p<t.n:=by omega
  have m:=(f p j).2;refine ifT (by omega) (ltX (ifT (by simp;omega) (ifT ⟨⟨by omega,by rw[c];omega⟩,by omega,by omega⟩ (hs hl _ _ ⟨rfl,c,fun v b=>?_⟩))));show ((if v=p then (X.g p).push (i:Int)else X.g v).n=0↔_)/\(if v=p then (X.g p).push (i:Int)else X.g v).n<=i+1;by_cases d:v=p
  ·subst d;rw[if_pos rfl];refine⟨⟨fun h=>absurd h (Nat.succ_ne_zero _),fun h=>absurd e (h i (by omega) (by omega))⟩,?_⟩;show (X.g v).n+1<=i+1;omega
  ·rw[if_neg d];obtain⟨g1,g2⟩:=f v b;refine⟨g1.trans ⟨fun h u h1 a=>?_,fun h u h1 a=>h u h1 (by omega)⟩,by omega⟩;by_cases r:u=i
   ·subst r;rw[e];omega
   ·exact h u h1 (by omega)
theorem AN8 {R:Type}{Q:R->Prop}{a:Sl Int->Int->Option R}{t:Sl G7}{i:Nat}(c:i<1000){b:Bool}(hb:b=true↔QO t i)(h:∃r,a (O7 t (i+1)) ((i+1:Nat):Int)=some r/\Q r) :∃r,(if b then
  if (((O7 t i).n+(Sl.of [(i:Int)]:Sl Int).n)*8<=140737488355328/\(O7 t i).n+(Sl.of [(i:Int)]:Sl Int).n<=140737488355328)then
   a ((O7 t i).push (i:Int)) (wrap .i64 ((i:Int)+1))
  else none
  else a (O7 t i) (wrap .i64 ((i:Int)+1)))=some r/\Q r:=by
 have hn:=QR t i;rw[C4 (by omega)];by_cases hk:QO t i
 ·rw[MJ hk]at h;exact ifT (hb.2 hk) (ifT ⟨by show ((O7 t i).n+1)*8<=_;omega,by show (O7 t i).n+1<=_;omega⟩ h)
 ·rw[QP hk]at h;exact ifF (fun g=>hk (hb.1 g)) h
theorem VH {N:Nat}(c:3000000<=N){t:Sl G7}(ht:Bk t):∃r,Bi N t=some r/\r=O7 t t.n:=by
 have d:=ht.2.1;unfold Bi;obtain⟨X,e,a,hk⟩:=Ar4 c ht;refine B4 e (S8 (fun i x1 x2=>x2=(i:Int)/\x1=O7 t i) t.n _ (by omega) ⟨rfl,rfl⟩ ?_);rintro b i x1 x2 hle ⟨rfl,rfl⟩ hs;by_cases hl:i<t.n
 ·refine ifT (by rw[a];simpa using hl) (ifT (by omega) ?_);rw[AP2];exact AN8 (by omega) (by rw[<- hk i hl];simp) (hs hl _ _ ⟨rfl,rfl⟩)
 ·obtain rfl:i=t.n:=by omega
  exact ifF (by rw[a];simp) ⟨_,rfl,rfl⟩
theorem Ar5 {N:Nat}(l:3000000<=N){t:Sl G7}(ht:Bk t){v:Nat}(m:v<t.n):∃r,Ax N t (v:Int)=some r/\(r.n=0↔QO t v):=by
 have f:=ht.2.1;unfold Ax;refine S8 (fun i (x1:Sl Int) x2=>x2=(i:Int)/\x1.n<=i/\(x1.n=0 ↔ ∀u,0<u->u<i->(t.g u).Parent≠(v:Int))) t.n _ (by omega) ⟨rfl,AP8 0,fun _ u h1 a=>absurd a (AU0 u),fun _=>rfl⟩ ?_;rintro b i x1 x2 hle ⟨rfl,hn,c⟩ hs;by_cases hl:i<t.n
 ·refine ifT (by simpa using hl) (ifT (by omega) ?_);rw[AP2,C4 (by omega)];by_cases hp:(t.g i).Parent=(v:Int)
  ·have d:0<i:=by
    rcases S5 ht hl with⟨d,h1⟩ | ⟨p,hp,e⟩
    ·rw[h1]at hp;omega
    ·omega
   refine ifT (by simpa using hp) (ifT ⟨by show (x1.n+1)*8<=_;omega,by show x1.n+1<=_;omega⟩ (hs hl _ _ ⟨rfl,by show x1.n+1<=i+1;omega,fun h=>absurd h (Nat.succ_ne_zero _),fun h=>absurd hp (h i d (by omega))⟩))
  ·refine ifF (by simpa using hp) (hs hl _ _ ⟨rfl,by omega,c.trans ⟨fun h u h1 a=>?_,fun h u h1 a=>h u h1 (by omega)⟩⟩);by_cases j:u=i
   ·subst j;exact hp
   ·exact h u h1 (by omega)
 ·obtain rfl:i=t.n:=by omega
  exact ifF (by simp) ⟨_,rfl,c⟩
theorem Gt {N:Nat}(a:3000000<=N){t:Sl G7}(c:ME t):∃s e,G4 N t=some (s,e)/\AO N t=some (s,e)/\((Bk t/\e=0/\s=O7 t t.n) \/ (¬Bk t/\e=16/\s=(Sl.nil:Sl Int))):=by
 obtain⟨e,e1,e2,d⟩:=QH a c;unfold G4 AO;rw[e1,e2,AP5,AP5];rcases d with⟨rfl,ht⟩ | ⟨rfl,ht⟩
 ·have f:=ht.2.1;rw[if_neg (by decide),if_neg (by decide)];obtain⟨r,g1,rfl⟩:=VH a ht;refine⟨_,0,by rw[g1];rfl,eqR (S8 (fun i x1 x2=>x2=(i:Int)/\x1=O7 t i) t.n _ (by omega) ⟨rfl,rfl⟩ ?_),.inl ⟨ht,rfl,rfl⟩⟩;rintro b i x1 x2 hle ⟨rfl,rfl⟩ hs;by_cases hl:i<t.n
  ·refine ifT (by simpa using hl) ?_;obtain⟨r,k1,k2⟩:=Ar5 a ht hl;exact B4 k1 (AN8 (by omega) (by rw[<- k2];simp) (hs hl _ _ ⟨rfl,rfl⟩))
  ·obtain rfl:i=t.n:=by omega
   exact ifF (by simp) ⟨_,rfl,rfl⟩
 ·exact⟨_,16,if_pos (by decide),if_pos (by decide),.inr ⟨ht,rfl,rfl⟩⟩
end Go.AM
namespace Go.AM
open IntKind (wrap)
open Go.Proofs
def outR (o:Option (Sl Sound))(y:Sl Sound)(e:Int):Prop:=(∃x,o=some x/\e=0/\SE y x/\wOk y) \/ (o=none/\e=11/\y.n=0)
theorem Ag4 {N:Nat}(q:3000000<=N){h:A8}(c:T2 h)(b:BV N h){x:Nat}(r:x<h.Tree.n){z z' : Sl Sound}(t:wOk z)(d:SE z z') :∃s y,H8 N h (h.On.g x)=some s/\G1 N s z=some y/\outR (BD N (ID h (h.On.g x)).toList z') y.1 y.2:=by
 have a0:=b.on;obtain⟨o1,o2⟩:=AN6 b r;obtain⟨s,s1,s2,s3⟩:=QK q c b (l:=h.On.g x) (by omega) o2;have a:LS (ID h (h.On.g x)) s:=⟨s2.symm,fun i c=>s3 i c⟩;have f:=QM c o2;have j:=QN b o1 o2;have m:=QF a f;have o : Dq N s:=⟨by omega,fun i c=>(CZ (a.2 i (by rw[a.1];exact c))).1 (j.2 i (by rw[a.1];exact c))⟩;have w:=Ag2 q _ _ z' z (Ag3 f j) a.s (d.wOk t) d.symm;rcases Ht q m o t with⟨v,d1,d2,d3⟩ | ⟨d1,d2⟩
 ·rcases w with⟨_,f2⟩ | ⟨u,u',f1,f2,f3,f4⟩
  ·rw[d1]at f2;cases f2
  ·rw[d1]at f2;obtain rfl:=AQ6 f2;exact⟨s,_,s1,d2,.inl ⟨u,f1,rfl,f3.symm,d3⟩⟩
 ·rcases w with⟨f1,_⟩ | ⟨u,u',_,f2,_⟩
  ·exact⟨s,_,s1,d2,.inr ⟨f1,rfl,rfl⟩⟩
  ·rw[d1]at f2;cases f2
def DV (N:Nat)(h:A8)(w:Sl Sound)(v:Nat):Option (Sl Sound):=BD N (Nz h (Tr h.Tree v)) w
theorem AF4 {N:Nat}{h:A8}{w:Sl Sound}{v:Nat}(a:(h.Tree.g v).Parent<0):DV N h w v=BD N (ID h (h.On.g v)).toList w:=by unfold DV Nz;rw[Ek a];simp
theorem AN9 {N:Nat}{h:A8}{w:Sl Sound}{v p:Nat}(a:(h.Tree.g v).Parent=(p:Int))(hp:p<v):DV N h w v=(DV N h w p).bind (BD N (ID h (h.On.g v)).toList):=by unfold DV;rw[Jk a hp,<- MI];congr 1;unfold Nz;simp
theorem WX {N:Nat}(m:3000000<=N){h:A8}(q:T2 h)(a:BV N h){w w' : Sl Sound}(hw:wOk w)(d:SE w w') :∃X,G5 N h w=some X/\(X.n=h.Tree.n/\∀v,v<h.Tree.n->outR (DV N h w' v) (X.g v).w (X.g v).e):=by
 have t:=a.tree.2.1;have u:=a.on;unfold G5;refine ifT (by omega) ?_;refine S8 (fun i (x1:Sl S0) x2=>x2=(i:Int)/\x1.n=h.Tree.n/\∀v,v<i->outR (DV N h w' v) (x1.g v).w (x1.g v).e) h.Tree.n _ (by omega) ⟨rfl,by show (h.Tree.n:Int).toNat=_;omega,fun j b=>absurd b (by omega)⟩ ?_;rintro c i x1 x2 hle ⟨rfl,hx,b⟩ hs;by_cases hl:i<h.Tree.n
 case neg=>exact ifF (by simp;omega) ⟨_,rfl,hx,fun v z=>b v (by omega)⟩
 refine ifT (by simp;omega) (ifT (by omega) ?_);have put:∀o:S0,outR (DV N h w' i) o.w o.e->∃r,c (x1.upd i o) (wrap .i64 ((i:Int)+1))=some r/\(r.n=h.Tree.n/\∀v,v<h.Tree.n->outR (DV N h w' v) (r.g v).w (r.g v).e):=fun o ho=>
  hs hl _ _ ⟨C4 (by omega),hx,fun v z=>by
   show outR _ (if v=i then o else x1.g v).w (if v=i then o else x1.g v).e;by_cases e:v=i
   ·rw[if_pos e,e];exact ho
   ·rw[if_neg e];exact b v (by omega)⟩
 rw[AP2];rcases S5 a.tree hl with⟨e0,e⟩ | ⟨p,hp,e⟩
 ·have f:decide (0<=(h.Tree.g i).Parent)=false:=by rw[e];rfl
  rw[f];refine ifT (fun h=>by cases h) (ifT (by simp) (ifT (by omega) ?_));obtain⟨s,y,y1,y2,y3⟩:=Ag4 m q a hl hw d;refine B4 y1 (B4 y2 (ifT (by omega) (put ⟨y.1,y.2⟩ ?_)));rw[AF4 (by omega)];exact y3
 ·have f:decide (0<=(h.Tree.g i).Parent)=true:=by rw[e];simp
  rw[f];simp only[if_true];have l:(h.Tree.g i).Parent.toNat=p:=by omega
  rw[l];refine ifT (fun _=>by omega) ?_;rcases b p hp with⟨x,g1,g2,g3,g4⟩ | ⟨g1,g2,g3⟩
  ·refine ifT (by rw[g2];rfl) (ifT (by omega) ?_);obtain⟨s,y,y1,y2,y3⟩:=Ag4 m q a hl g4 g3;refine B4 y1 (B4 y2 (ifT (by omega) (put ⟨y.1,y.2⟩ ?_)));rw[AN9 e hp,g1];exact y3
  ·refine ifF (by rw[g2];decide) (ifT (by omega) (put ⟨(x1.g p).w,(x1.g p).e⟩ ?_));rw[AN9 e hp,g1];exact .inr ⟨rfl,g2,g3⟩
theorem AF5 {N:Nat}(b:3000000<=N){h:A8}(f:T2 h)(a:BV N h){w:Sl Sound}(hw:wOk w)(c:okA w){u:Nat}(g:u<h.Tree.n) :∃q,T0 N h w (u:Int)=some q/\outR (DV N h w u) q.1 q.2/\q.1.n<=32:=by
 unfold T0 S4;rw[S6 b f,hres_zero.2 a];obtain⟨e',e3,d⟩:=Gd (N:=N) (by omega) c;obtain rfl:=(N2 d).2 hw;simp only[AP5,e3];have hb:¬(!((decide (0<=(u:Int)))&&(decide ((u:Int)<(h.Tree.n:Int)))))=true:=by simp;omega
 rw[ite_self,AP5,if_neg (by simp),J8,AP5,if_neg hb,P9,AP5];obtain⟨q,q1,q2⟩:=VF b f a (Tr h.Tree u) w w (fun x hx=>by have:=MG a.tree u u (AP8 _) g x hx;omega) hw (SE.refl w);refine⟨q,?_,?_⟩
 ·show (H7 N (u:Int) h.Tree).bind _=_;rw[QI b a.tree g];exact q1
 ·rcases q2 with⟨y,y1,y2,y3,y4⟩ | ⟨y1,rfl⟩
  ·exact⟨.inl ⟨y,y1,y2,y3,y4⟩,y4.1⟩
  ·exact⟨.inr ⟨y1,rfl,rfl⟩,AX9 _⟩
theorem Ag5 {N:Nat}(c:3000000<=N){h:A8}(d:T2 h)(b:BV N h){w:Sl Sound}(hw:wOk w)(a:okA w){u:Nat}(g:u<h.Tree.n) :∃q,Dn N h w (u:Int)=some q/\outR (DV N h w u) q.1 q.2:=by
 obtain⟨q,q1,q2,_⟩:=AF5 c d b hw a g;obtain⟨r,r',a1,a2,a3,a4,_⟩:=AN7 c d (SE.refl w) a (u:Int);obtain rfl:=AQ6 (q1.symm.trans a1);unfold Qv Jd at a2;obtain⟨e',e3,f⟩:=CA (N:=N) (by omega) a;obtain rfl:=(N2 f).2 hw;have hb:¬(!((decide (0<=(u:Int)))&&(decide ((u:Int)<(h.Tree.n:Int)))))=true:=by simp;omega
 rw[Y0 c d,hres_zero.2 b]at a2;simp only[AP5,e3]at a2;rw[ite_self,AP5,if_neg (by simp),BA,AP5,if_neg hb]at a2;obtain⟨y,y1,y2⟩:=AW2.1 a2;obtain rfl:=AQ6 y2;refine⟨y,y1,?_⟩;rcases q2 with⟨x,g1,g2,g3,g4⟩ | ⟨g1,g2,g3⟩
 ·exact .inl ⟨x,g1,a4.symm.trans g2,a3.symm.trans g3,a3.wOk g4⟩
 ·exact .inr ⟨g1,a4.symm.trans g2,by rw[<- a3.1];exact g3⟩
end Go.AM
namespace Go.AM
open Go.Proofs
end Go.AM
namespace Go.AM
open Go.Proofs
theorem Tv {N:Nat}(t:3000000<=N)(h:A8):∃b,BB N h=some b/\True:=by
 unfold BB;by_cases hb:(((decide (70<(h.Tree.n:Int)))||(decide (70<(h.Laws.n:Int))))||(decide (70<(h.On.n:Int))))=true
 ·exact ifT hb ⟨_,rfl,trivial⟩
 refine ifF hb ?_;have o : h.Laws.n<=70/\h.On.n<=70:=by simp at hb;omega
 refine Ae (fun i x=>x=(i:Int)) h.On.n _ (by omega) rfl ?_;rintro l i x q rfl hs;by_cases d:i<h.On.n
 ·refine ifT (by simp;omega) (ifT (by omega) ?_);by_cases m:(decide (70<((h.On.g (i:Int).toNat).n:Int)))=true
  ·exact ifT m ⟨_,rfl,trivial⟩
  ·exact ifF m (hs d _ (C4 (by omega)))
 ·refine ifF (by simp;omega) ?_;refine Ae (fun i x=>x=(i:Int)) h.Laws.n _ (by omega) rfl ?_;rintro f i x q rfl j;by_cases d:i<h.Laws.n
  ·rw[C4 (by omega)];refine ifT (by simp;omega) (ifT (by omega) ?_);obtain⟨r,s⟩:=Aq9 (N:=N) (by omega) (h.Laws.sub (i:Int).toNat ((i+1:Nat):Int).toNat);refine B4 s ?_;have last:∀z3:Bool,∃r,(if z3 then some false else f ((i+1:Nat):Int))=some r/\True:=fun z=>by
    cases z
    ·exact ifF (by simp) (j d _ rfl)
    ·exact ifT rfl ⟨_,rfl,trivial⟩
   refine ltX ?_;by_cases g1:(decide (4<r))=true
   ·exact ifT g1 (last _)
   refine ifF g1 ?_;by_cases g2:(decide (20<((h.Laws.g (i:Int).toNat).If.n:Int)))=true
   ·exact ifT g2 (last _)
   refine ifF g2 ?_;by_cases g3:(decide (20<((h.Laws.g (i:Int).toNat).Out.n:Int)))=true
   ·exact ifT g3 (last _)
   refine ifF g3 ?_;obtain⟨a,ha,_⟩:=QG (N:=N) (by omega) (h.Laws.g (i:Int).toNat).Left;refine B4 ha ?_;by_cases g4:(decide (41<(a:Int)))=true
   ·exact ifT g4 (last _)
   refine ifF g4 ?_;obtain⟨c,hc,_⟩:=QG (N:=N) (by omega) (h.Laws.g (i:Int).toNat).Right;exact B4 hc (last _)
  ·exact ifF (by simp;omega) ⟨_,rfl,trivial⟩
end Go.AM
namespace Go.AM
open IntKind (wrap)
open Go.Proofs
def Ar6 (o o' : Option (Sl Sound)):Prop:=(o=none/\o' = none) \/ ∃x x',o=some x/\o' = some x' /\ SE x x'
theorem QS {o o' : Option (Sl Sound)}{y y' : Sl Sound}{e e' : Int}(h:outR o y e)(h' : outR o' y' e'):(e=e' /\ SE y y')↔Ar6 o o':=by
 rcases h with⟨x,h1,j,g,m⟩ | ⟨h1,j,g⟩<;>rcases h' with⟨x',d,f,c,l⟩ | ⟨d,f,c⟩<;>subst h1<;>subst d<;>subst j<;>subst f
 ·refine⟨fun h=>.inr ⟨x,x',rfl,rfl,g.symm.trans (h.2.trans c)⟩,?_⟩;rintro (⟨h,_⟩ | ⟨a,b,ha,hb,hs⟩)
  ·cases h
  ·cases ha;cases hb;exact⟨rfl,g.trans (hs.trans c.symm)⟩
 ·refine⟨fun h=>absurd h.1 (by decide),?_⟩;rintro (⟨h,_⟩ | ⟨a,b,ha,hb,hs⟩)
  ·cases h
  ·cases hb
 ·refine⟨fun h=>absurd h.1 (by decide),?_⟩;rintro (⟨_,h⟩ | ⟨a,b,ha,hb,hs⟩)
  ·cases h
  ·cases ha
 ·exact⟨fun _=>.inl ⟨rfl,rfl⟩,fun _=>⟨rfl,by rw[g,c],fun i n=>by omega⟩⟩
theorem outR.le {o:Option (Sl Sound)}{y:Sl Sound}{e:Int}(h:outR o y e):y.n<=32:=by
 rcases h with⟨_,_,_,_,h⟩ | ⟨_,_,h⟩
 ·exact h.1
 ·omega
theorem Ag6 {N:Nat}(d:3000000<=N){R:Type}{Q:R->Prop}{eq:Nat->Sl Sound->Sl Sound->Option Bool}(c:∀x y:Sl Sound,x.n<=32->∃b,eq N x y=some b/\(b=true↔SE x y))
 {o o' : Option (Sl Sound)}{y y' : Sl Sound}{e e' : Int}(h:outR o y e) (h' : outR o' y' e') {k:Bool->Option R}(hy:Ar6 o o' -> ∃r,k false=some r/\Q r) (hn:¬Ar6 o o' -> ∃r,k true=some r/\Q r) :
 ∃r,(if (e != e') then k true else (eq N y y').bind fun z=>k (!z))=some r/\Q r:=by
 by_cases a:e=e'
 ·refine ifF (by simp[a]) ?_;obtain⟨b,b1,b2⟩:=c y y' h.le;refine B4 b1 ?_;cases b
  ·exact hn fun g=>by have:=b2.2 ((QS h h').2 g).2;cases this
  ·exact hy ((QS h h').1 ⟨a,b2.1 rfl⟩)
 ·exact ifT (by simp[a]) (hn fun g=>a ((QS h h').2 g).1)
def Ah5 (N:Nat)(g h:A8)(l:Sl (Sl Sound))(i k:Nat):Prop:=¬Ar6 (DV N g (l.g i) ((O7 g.Tree g.Tree.n).g k).toNat) (DV N h (l.g i) ((O7 h.Tree h.Tree.n).g k).toNat)
def Ar7 (N:Nat)(g h:A8)(l:Sl (Sl Sound))(r:Bool×Int):Prop:=
 (∃i,i<l.n/\(∀j,j<i->wOk (l.g j))/\Vr (l.g i) r.2/\r.2≠0/\r.1=false) \/
 ((∀j,j<l.n->wOk (l.g j)) /\
  (((O7 g.Tree g.Tree.n).n≠(O7 h.Tree h.Tree.n).n/\r=(false,2)) \/
   ((O7 g.Tree g.Tree.n).n=(O7 h.Tree h.Tree.n).n/\(((∃i k,i<l.n/\k<(O7 g.Tree g.Tree.n).n/\Ah5 N g h l i k)/\r=(false,0)) \/
    ((∀i k,i<l.n->k<(O7 g.Tree g.Tree.n).n->¬Ah5 N g h l i k)/\r=(true,0))))))
theorem YS {N:Nat}{g h:A8}{l:Sl (Sl Sound)}{r r' : Bool×Int}(a:Ar7 N g h l r)(b:Ar7 N g h l r'):r=r':=by
 rcases a with⟨i,a1,a2,a3,a4,a5⟩ | ⟨a0,a⟩<;>rcases b with⟨i',b1,b2,b3,b4,b5⟩ | ⟨b0,b⟩
 ·have:i=i':=by
   rcases Nat.lt_trichotomy i i' with h|h|h
   ·exact absurd ((N2 a3).2 (b2 i h)) a4
   ·exact h
   ·exact absurd ((N2 b3).2 (a2 i' h)) b4
  subst this
  have:=Ix a3 b3
  cases r;cases r';simp_all
 ·exact absurd ((N2 a3).2 (b0 i a1)) a4
 ·exact absurd ((N2 b3).2 (a0 i' b1)) b4
 ·rcases a with⟨a1,rfl⟩ | ⟨a1,a⟩<;>rcases b with⟨b1,rfl⟩ | ⟨b1,b⟩
  ·rfl
  ·exact absurd b1 a1
  ·exact absurd a1 b1
  ·rcases a with⟨⟨i,k,h1,j,m⟩,rfl⟩ | ⟨a,rfl⟩<;>rcases b with⟨⟨i',k',c,d,f⟩,rfl⟩ | ⟨b,rfl⟩
   ·rfl
   ·exact absurd m (b i k h1 j)
   ·exact absurd f (a i' k' c d)
   ·rfl
theorem QT (t:Sl G7){k:Nat}(hk:k<(O7 t t.n).n):∃u:Nat,u<t.n/\(O7 t t.n).g k=(u:Int):=VG t t.n k hk
theorem wEq32 {N:Nat}(a:3000000<=N)(x y:Sl Sound)(hx:x.n<=32):∃b,N7 N x y=some b/\(b=true↔SE x y):=AE9 (by omega) (by omega)
theorem rEq32 {N:Nat}(a:3000000<=N)(x y:Sl Sound)(hx:x.n<=32):∃b,T5 N x y=some b/\(b=true↔SE x y):=AF0 (by omega) (by omega)
theorem Ag7 {N:Nat}(o:3000000<=N){g h:A8}(hg:T2 g)(hh:T2 h)(a:BV N g)(b:BV N h){l:Sl (Sl Sound)}(hl:∀i,i<l.n->okA (l.g i))(hn:l.n<=256) :∃r,H9 N g h l=some r/\Ar7 N g h l r:=by
 have g63:=a.tree.2.1;have h63:=b.tree.2.1;unfold H9;rw[S6 o hg,S6 o hh,hres_zero.2 a,hres_zero.2 b];refine B4 rfl (ifF (by decide) (B4 rfl (ifF (by decide) (ifF (by simp;omega) ?_))));refine Ae (fun i x=>x=(i:Int)/\∀j,j<i->wOk (l.g j)) l.n _ (by omega) ⟨rfl,fun j t=>absurd t (by omega)⟩ ?_;rintro self i x hi ⟨rfl,t⟩ hs;by_cases w:i<l.n
 ·refine ifT (by simp;omega) (ifT (by omega) ?_);rw[AP2];obtain⟨e,e1,e2⟩:=Gd (N:=N) (by omega) (hl i w);refine B4 e1 ?_;by_cases h0:e=0
  ·refine ifF (by simp[h0]) (hs w _ ⟨C4 (by omega),fun j y=>?_⟩);by_cases e3:j=i
   ·subst e3;exact (N2 e2).1 h0
   ·exact t j (by omega)
  ·exact ifT (by simpa using h0) ⟨_,rfl,.inl ⟨i,w,t,e2,h0,rfl⟩⟩
 have hw:∀j,j<l.n->wOk (l.g j):=fun j y=>t j (by omega);refine ifF (by simp;omega) ?_;obtain⟨s,e,l1,_,l3⟩:=Gt o hg.tree;rcases l3 with⟨_,rfl,rfl⟩ | ⟨l3,_⟩
 case inr=>exact absurd a.tree l3
 obtain⟨s',e',l1',_,l3'⟩:=Gt o hh.tree;rcases l3' with⟨_,rfl,rfl⟩ | ⟨l3',_⟩
 case inr=>exact absurd b.tree l3'
 have hsn:=QR g.Tree g.Tree.n;refine B4 l1 (B4 l1' ?_);by_cases m:(O7 g.Tree g.Tree.n).n=(O7 h.Tree h.Tree.n).n
 case neg=>exact ifT (by simp;omega) ⟨_,rfl,.inr ⟨hw,.inl ⟨m,rfl⟩⟩⟩
 refine ifF (by simp[m]) ?_;refine Ae (fun i x=>x=(i:Int)/\∀j k,j<i->k<(O7 g.Tree g.Tree.n).n->¬Ah5 N g h l j k) l.n _ (by omega) ⟨rfl,fun j k t=>absurd t (by omega)⟩ ?_;rintro self2 i2 x hi2 ⟨rfl,a0⟩ hs2;by_cases c:i2<l.n
 case neg=>exact ifF (by simp;omega) ⟨_,rfl,.inr ⟨hw,.inr ⟨m,.inr ⟨fun j k y hk=>a0 j k (by omega) hk,rfl⟩⟩⟩⟩
 refine ifT (by simp;omega) (ifT (by omega) ?_);rw[AP2];obtain⟨X,x1,x2,x3⟩:=WX o hg a (hw i2 c) (SE.refl _);obtain⟨Y,y1,y2,y3⟩:=WX o hh b (hw i2 c) (SE.refl _);refine B4 x1 (B4 y1 ?_);refine Ae (fun k x=>x=(k:Int)/\∀q,q<k->¬Ah5 N g h l i2 q) (O7 g.Tree g.Tree.n).n _ (by omega) ⟨rfl,fun q hq=>absurd hq (by omega)⟩ ?_;rintro z k x hk3 ⟨rfl,a1⟩ hs3;by_cases d:k<(O7 g.Tree g.Tree.n).n
 ·obtain⟨u,u1,u2⟩:=QT g.Tree d;obtain⟨v,v1,v2⟩:=QT h.Tree (k:=k) (by omega);refine ifT (by simp;omega) ?_;rw[AP2,u2,v2,AP2,AP2];refine ifT (by dsimp only;omega) (ltX (Ag6 o (k:=fun z9=>if z9 then some (false,0)else z (wrap .i64 ((k:Int)+1))) (eq:=N7) (wEq32 o) (x3 u u1) (y3 v v1) (fun ha=>?_) fun ha=>?_))
  ·refine ifF (by simp) (hs3 d _ ⟨C4 (by omega),fun q hq=>?_⟩);by_cases e3:q=k
   ·subst e3;unfold Ah5;rw[u2,v2,AP2,AP2];exact fun f=>f ha
   ·exact a1 q (by omega)
  ·exact ifT rfl ⟨_,rfl,.inr ⟨hw,.inr ⟨m,.inl ⟨⟨i2,k,c,d,by unfold Ah5;rw[u2,v2,AP2,AP2];exact ha⟩,rfl⟩⟩⟩⟩
 ·refine ifF (by simp;omega) (hs2 c _ ⟨C4 (by omega),fun j q y hq=>?_⟩);by_cases e3:j=i2
  ·subst e3;exact a1 q (by omega)
  ·exact a0 j q (by omega) hq
theorem Ag8 {N:Nat}(w:3000000<=N){g h:A8}(hg:T2 g)(hh:T2 h)(d:BV N g)(m:BV N h){l:Sl (Sl Sound)}(hl:∀i,i<l.n->okA (l.g i))(hn:l.n<=256) :∃r,U5 N g h l=some r/\Ar7 N g h l r:=by
 have g63:=d.tree.2.1;have h63:=m.tree.2.1;unfold U5;rw[Y0 w hg,Y0 w hh,hres_zero.2 d,hres_zero.2 m];refine B4 rfl (ifF (by decide) (B4 rfl (ifF (by decide) (ifF (by simp;omega) ?_))));refine Ae (fun i x=>x=(i:Int)/\∀j,j<i->wOk (l.g j)) l.n _ (by omega) ⟨rfl,fun j y=>absurd y (by omega)⟩ ?_;rintro self i x hi ⟨rfl,y⟩ hs;by_cases z:i<l.n
 ·refine ifT (by simp;omega) (ifT (by omega) ?_);rw[AP2];obtain⟨e,e1,e2⟩:=CA (N:=N) (by omega) (hl i z);refine B4 e1 ?_;by_cases h0:e=0
  ·refine ifF (by simp[h0]) (hs z _ ⟨C4 (by omega),fun j a0=>?_⟩);by_cases e3:j=i
   ·subst e3;exact (N2 e2).1 h0
   ·exact y j (by omega)
  ·exact ifT (by simpa using h0) ⟨_,rfl,.inl ⟨i,z,y,e2,h0,rfl⟩⟩
 have hw:∀j,j<l.n->wOk (l.g j):=fun j a0=>y j (by omega);refine ifF (by simp;omega) ?_;obtain⟨s,e,_,l1,l3⟩:=Gt w hg.tree;rcases l3 with⟨_,rfl,rfl⟩ | ⟨l3,_⟩
 case inr=>exact absurd d.tree l3
 obtain⟨s',e',_,l1',l3'⟩:=Gt w hh.tree;rcases l3' with⟨_,rfl,rfl⟩ | ⟨l3',_⟩
 case inr=>exact absurd m.tree l3'
 have hsn:=QR g.Tree g.Tree.n;refine B4 l1 (B4 l1' ?_);by_cases t:(O7 g.Tree g.Tree.n).n=(O7 h.Tree h.Tree.n).n
 case neg=>exact ifT (by simp;omega) ⟨_,rfl,.inr ⟨hw,.inl ⟨t,rfl⟩⟩⟩
 refine ifF (by simp[t]) ?_;refine Ae (fun i x=>x=(i:Int)/\∀j k,j<i->k<(O7 g.Tree g.Tree.n).n->¬Ah5 N g h l j k) l.n _ (by omega) ⟨rfl,fun j k y=>absurd y (by omega)⟩ ?_;rintro self2 i2 x hi2 ⟨rfl,a4⟩ hs2;by_cases c:i2<l.n
 case neg=>exact ifF (by simp;omega) ⟨_,rfl,.inr ⟨hw,.inr ⟨t,.inr ⟨fun j k a0 hk=>a4 j k (by omega) hk,rfl⟩⟩⟩⟩
 refine ifT (by simp;omega) ?_;rw[AP2];refine Ae (fun k x=>x=(k:Int)/\∀q,q<k->¬Ah5 N g h l i2 q) (O7 g.Tree g.Tree.n).n _ (by omega) ⟨rfl,fun q hq=>absurd hq (by omega)⟩ ?_;rintro a3 k x hk3 ⟨rfl,a5⟩ hs3;by_cases o:k<(O7 g.Tree g.Tree.n).n
 ·obtain⟨u,u1,u2⟩:=QT g.Tree o;obtain⟨v,v1,v2⟩:=QT h.Tree (k:=k) (by omega);obtain⟨a,a1,a2⟩:=Ag5 w hg d (hw i2 c) (hl i2 c) u1;obtain⟨b,b1,b2⟩:=Ag5 w hh m (hw i2 c) (hl i2 c) v1;refine ifT (by simp;omega) ?_;rw[AP2,u2,v2];refine ifT (by dsimp only;omega) (B4 a1 (ifT (by dsimp only;omega) (B4 b1 (ltX (Ag6 w (k:=fun z9=>if z9 then some (false,0)else a3 (wrap .i64 ((k:Int)+1))) (eq:=T5) (rEq32 w) a2 b2 (fun ha=>?_) fun ha=>?_)))))
  ·refine ifF (by simp) (hs3 o _ ⟨C4 (by omega),fun q hq=>?_⟩);by_cases e3:q=k
   ·subst e3;unfold Ah5;rw[u2,v2,AP2,AP2];exact fun f=>f ha
   ·exact a5 q (by omega)
  ·exact ifT rfl ⟨_,rfl,.inr ⟨hw,.inr ⟨t,.inl ⟨⟨i2,k,c,o,by unfold Ah5;rw[u2,v2,AP2,AP2];exact ha⟩,rfl⟩⟩⟩⟩
 ·refine ifF (by simp;omega) (hs2 c _ ⟨C4 (by omega),fun j q a0 hq=>?_⟩);by_cases e3:j=i2
  ·subst e3;exact a5 q (by omega)
  ·exact a4 j q (by omega) hq
theorem Ar8 {N:Nat}(b:3000000<=N){g h:A8}(d:T2 g)(j:T2 h){l:Sl (Sl Sound)}(hl:∀i,i<l.n->okA (l.g i)):∃r,H9 N g h l=some r/\U5 N g h l=some r:=by
 by_cases m:hres N g=0
 case neg=>
  have a:(hres N g != 0)=true:=by simpa using m
  refine⟨(false,hres N g),?_,?_⟩
  ·unfold H9;rw[S6 b d,AP5,if_pos a]
  ·unfold U5;rw[Y0 b d,AP5,if_pos a]
 have c:¬(hres N g != 0)=true:=by simp[m]
 by_cases h1:hres N h=0
 case neg=>
  have a:(hres N h != 0)=true:=by simpa using h1
  refine⟨(false,hres N h),?_,?_⟩
  ·unfold H9;rw[S6 b d,AP5,if_neg c,S6 b j,AP5,if_pos a]
  ·unfold U5;rw[Y0 b d,AP5,if_neg c,Y0 b j,AP5,if_pos a]
 have f:¬(hres N h != 0)=true:=by simp[h1]
 by_cases o:l.n<=256
 case neg=>
  have a:(decide (256<(l.n:Int)))=true:=by simp;omega
  refine⟨(false,12),?_,?_⟩
  ·unfold H9;rw[S6 b d,AP5,if_neg c,S6 b j,AP5,if_neg f,if_pos a]
  ·unfold U5;rw[Y0 b d,AP5,if_neg c,Y0 b j,AP5,if_neg f,if_pos a]
 obtain⟨r,r1,r2⟩:=Ag7 b d j (hres_zero.1 m) (hres_zero.1 h1) hl o;obtain⟨r',r1',r2'⟩:=Ag8 b d j (hres_zero.1 m) (hres_zero.1 h1) hl o;obtain rfl:=YS r2 r2';exact⟨r,r1,r1'⟩
end Go.AM
namespace Go.AM
open IntKind (wrap)
open Go.Proofs
theorem WY {N:Nat}(f:3000000<=N){h:A8}(c:T2 h)(k:Int):∃b,Cz N h k=some b/\True:=by
 have g:=c.on;unfold Cz;refine S8 (fun i x1 x2=>x2=(i:Int)) h.On.n _ (by omega) rfl ?_;rintro d i x1 x2 hle rfl hs;by_cases a:i<h.On.n
 ·exact ifT (by simp;omega) (ifT (by omega) (hs a _ _ (C4 (by omega))))
 ·refine ifF (by simp;omega) (ltX ?_);by_cases g1:(decide (k<=256))=true
  ·refine ifT g1 ?_;by_cases g2:(decide (5000<(wrap .i64 ((wrap .i64 (k*(h.Tree.n:Int)))*x1))))=true
   ·exact ifT g2 (B4 (Y0 f c) ⟨_,rfl,trivial⟩)
   ·exact ifF g2 ⟨_,rfl,trivial⟩
  ·exact ifF g1 ⟨_,rfl,trivial⟩
theorem Kw {N:Nat}(c:3000000<=N)(hw:Q9 N=some true){g h:A8}(q:T2 g)(s:T2 h){l:Sl (Sl Sound)}(hl:∀i,i<l.n->okA (l.g i)):Z4 N g h l=some true:=by
 refine eqR ?_;unfold Z4;obtain⟨b1,e1,_⟩:=Tv c g;obtain⟨b2,e2,_⟩:=Tv c h;obtain⟨b3,e3,_⟩:=WY c q (l.n:Int);obtain⟨b4,e4,_⟩:=WY c s (l.n:Int);refine B4 e1 (ltX ?_);have a:∀z:Bool,(z=false->l.n<=300)->∃r,(if z then
  (Q9 N ).bind fun y8=>
  some y8
  else
   R6 N (fun (b:Int->Option Bool) (x2:Int)=>
    if (decide (x2<(l.n:Int))) then
     if ((0:Int)<=x2/\x2<(l.n:Int))then
      if (decide (50<((l.g x2.toNat).n:Int))) then
       (Q9 N ).bind fun j=>
       some j
      else
       b (wrap .i64 (x2+1))
     else none
    else
     (H9 N g h l).bind fun d=>
     (U5 N g h l).bind fun f=>
     lt (fun (z2:Bool)=>
      some z2
      ) fun k2=>
      if ((d.1==f.1) != false) then
       if (d.2==f.2) then
        (Q9 N ).bind fun m=>
        k2 m
       else
        k2 false
      else
       k2 false
    ) 0)=some r/\r=true:=by
  intro z v;cases z
  case true=>exact ifT rfl (B4 hw ⟨_,rfl,rfl⟩)
  refine ifF (by simp) ?_;have hn:=v rfl;refine Ae (fun i x=>x=(i:Int)) l.n _ (by omega) rfl ?_;rintro t i x w rfl hs;by_cases o:i<l.n
  ·refine ifT (by simp;omega) (ifT (by omega) ?_);by_cases u:(decide (50<((l.g (i:Int).toNat).n:Int)))=true
   ·exact ifT u (B4 hw ⟨_,rfl,rfl⟩)
   ·exact ifF u (hs o _ (C4 (by omega)))
  ·obtain⟨r,r1,r2⟩:=Ar8 c q s hl;exact ifF (by simp;omega) (B4 r1 (B4 r2 (ltX (ifT (by simp) (ifT (by simp) (B4 hw ⟨_,rfl,rfl⟩))))))
 by_cases g1:(!b1)=true
 ·exact ifT g1 (a true (fun h=>by cases h))
 refine ifF g1 (B4 e2 ?_);by_cases g2:(!b2)=true
 ·exact ifT g2 (a true (fun h=>by cases h))
 refine ifF g2 (B4 e3 ?_);by_cases g3:b3=true
 ·exact ifT g3 (a true (fun h=>by cases h))
 refine ifF g3 (B4 e4 ?_);by_cases g4:b4=true
 ·exact ifT g4 (a true (fun h=>by cases h))
 refine ifF g4 ?_;by_cases g5:(decide (6<(l.n:Int)))=true
 ·refine ifT g5 ?_;by_cases g6:(decide ((l.n:Int)<=256))=true
  ·exact ifT g6 (a true (fun h=>by cases h))
  ·exact ifF g6 (a _ (fun h=>by simp at h;omega))
 ·exact ifF g5 (a _ (fun h=>by simp at h;omega))
end Go.AM
namespace Go.AM
open Go.Proofs
end Go.AM
namespace Go.AM
open Go.Proofs
end Go.AM
namespace Go.AM
open Go.Proofs
end Go.AM
namespace Go.AM
open Go.Proofs
end Go.AM
