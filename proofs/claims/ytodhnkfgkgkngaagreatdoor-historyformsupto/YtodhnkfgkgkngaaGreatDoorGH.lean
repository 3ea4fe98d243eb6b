/- What a law's walk and its plain proof need, part 8: no condition of its own. -/
import Derived.Test.YtodhnkfgkgkngaaGreatDoorGG
import Derived.Test.YtodhnkfgkgkngaaGreatDoorGF
set_option linter.defProp false
set_option linter.unusedSimpArgs false
set_option linter.unusedVariables false
set_option linter.unusedSectionVars false
namespace Go.AM
open IntKind (wrap)
def Bd2:=@List.mem_reverse
def Be9:=@Classical.not_not
open Go.Proofs
def okO (x:Bn):Prop:=okS x.Set/\(∃c:BitVec 32,x.Clear=(c.toNat:Int))/\∃t:BitVec 32,x.Take=(t.toNat:Int)
theorem Aw0 {p m a b s:BitVec 32}(h1:vB p m=true)(d:vB a b=true):vB (QY p a s) (QY m b s)=true:=by rw[Fo]at *;intro i c;have g1:=h1 i c;have g2:=d i c;simp only[QY,AR6,AR7,AV0];revert g1 g2;cases s.getLsbD i<;>cases p.getLsbD i<;>cases m.getLsbD i<;>cases a.getLsbD i<;>cases b.getLsbD i<;>simp[c]
theorem vS0:vS (⟨0,0⟩:Sound):=⟨0#32,0#32,rfl,by decide +kernel⟩
theorem Vy {N:Nat}(f:1000<=N){s t:Sound}{c:Int}(hs:okS s)(hc:∃b:BitVec 32,c=(b.toNat:Int))(ht:okS t):∃y,N7 N s c t=some y/\P7 N s c t=some y/\vS y.1:=by
 obtain⟨p,m,rfl⟩:=hs;obtain⟨a,b,rfl⟩:=ht;obtain⟨d,rfl⟩:=hc;refine⟨_,YK p m d a b,YL p m d a b f,?_⟩;unfold Aq0;split
 ·rename_i h;split
  ·exact⟨_,_,rfl,Aw0 h.1 h.2⟩
  ·exact vS0
 ·exact vS0
theorem Ae9 {N:Nat}(f:1000<=N){s t:Sound}{c:Int}(hs:okS s)(hc:∃b:BitVec 32,c=(b.toNat:Int))(ht:okS t):∃y,S7 N s t c=some y/\Y2 N s t c=some y/\vS y.1:=by
 obtain⟨p,m,rfl⟩:=hs;obtain⟨a,b,rfl⟩:=ht;obtain⟨d,rfl⟩:=hc;refine⟨_,Aq2 p m a b d,Aq3 p m a b d f,?_⟩;unfold Aq1;split
 ·rename_i h;split
  ·exact⟨_,_,rfl,Aw0 h.1 h.2⟩
  ·exact vS0
 ·exact vS0
def AH4 (l:Law):Prop:=l.Out.n<=6/\∀i,i<l.Out.n->okO (l.Out.g i)/\(l.Out.g i).From<l.If.n/\((l.Out.g i).Take≠0->0<=(l.Out.g i).Of/\(l.Out.g i).Of<l.If.n)
theorem eqX {R:Type}{Q:R->Prop}{o o' : Option R}(h:o=o')(a:∃r,o' = some r/\Q r):∃r,o=some r/\Q r:=by rw[h];exact a
def Bm (f:Nat->Sound):Nat->Sl Sound
 |0=>Sl.nil
 |m+1=>(Bm f m).push (f m)
theorem Ht (f:Nat->Sound):∀m,(Bm f m).n=m
 |0=>rfl
 |m+1=>by show (Bm f m).n+1=_;rw[Ht f m]
theorem Vz (f:Nat->Sound):∀{m i:Nat},i<m->(Bm f m).g i=f i
 |0,i,h=>by omega
 |m+1,i,h=>by
  show (if i<(Bm f m).n then (Bm f m).g i else f m)=f i;rw[Ht];by_cases e:i<m
  ·rw[if_pos e,Vz f e]
  ·rw[if_neg e,show i=m by omega]
abbrev srcS (l:Law)(cut:Sl Sound)(i:Nat):Sound:=⟨(if (decide (0<=(l.Out.g i).From)) then (cut.g (l.Out.g i).From.toNat).Plus else 0),(if (decide (0<=(l.Out.g i).From)) then (cut.g (l.Out.g i).From.toNat).Minus else 0)⟩
theorem AE7 {N:Nat}(t:1000<=N){l:Law}(u:AH4 l){cut:Sl Sound}(hn:cut.n=l.If.n)(hc:∀i,i<cut.n->okS (cut.g i)) :∃s,N3 N l cut=some s/\Bd N l cut=some s/\s.n=l.Out.n/\∀i,i<s.n->vS (s.g i):=by
 have one:∀i,∃y:Sound,i<l.Out.n->vS y/\∀(R:Type) (k:Sound->Option R),
  (∀(Ch:Nat->Sound->Int->Sound->Option (Sound×Int)) (Ta:Nat->Sound->Sound->Int->Option (Sound×Int)),(Ch=N7/\Ta=S7) \/ (Ch=P7/\Ta=Y2) ->
  (if ((decide (0<=(l.Out.g i).From))=true->((0:Int)<=(l.Out.g i).From/\(l.Out.g i).From<(cut.n:Int)))then
   (Ch N (⟨(if (decide (0<=(l.Out.g i).From)) then (cut.g (l.Out.g i).From.toNat).Plus else 0),(if (decide (0<=(l.Out.g i).From)) then (cut.g (l.Out.g i).From.toNat).Minus else 0)⟩:Sound) (l.Out.g i).Clear (l.Out.g i).Set).bind fun y5=>
   if ((l.Out.g i).Take != 0) then
    if ((0:Int)<=(l.Out.g i).Of/\(l.Out.g i).Of<(cut.n:Int))then
     (Ta N y5.1 (cut.g (l.Out.g i).Of.toNat) (l.Out.g i).Take).bind fun y6=>k y6.1
    else none
   else k y5.1
   else none)=k y):=by
  intro i;by_cases d:i<l.Out.n
  case neg=>exact⟨default,fun h=>absurd h d⟩
  obtain⟨⟨j,m,o⟩,w,q⟩:=u.2 i d;have hs:okS (⟨(if (decide (0<=(l.Out.g i).From)) then (cut.g (l.Out.g i).From.toNat).Plus else 0),(if (decide (0<=(l.Out.g i).From)) then (cut.g (l.Out.g i).From.toNat).Minus else 0)⟩:Sound):=by
   by_cases v:0<=(l.Out.g i).From
   ·simp only[v,decide_true,if_true];exact hc _ (by omega)
   ·simp only[v,decide_false,AQ8,if_false];exact⟨0#32,0#32,rfl⟩
  obtain⟨y,e1,e2,hy⟩:=Vy t hs m j;by_cases ht:(l.Out.g i).Take=0
  ·refine⟨y.1,fun _=>⟨hy,fun R k Ch Ta h=>?_⟩⟩;rw[if_pos (fun h=>by have:=of_decide_eq_true h;omega)]
   have:Ch N (srcS l cut i) (l.Out.g i).Clear (l.Out.g i).Set=some y:=by
    rcases h with⟨rfl,rfl⟩ | ⟨rfl,rfl⟩
    ·exact e1
    ·exact e2
   rw[this,AQ3,if_neg (by simp[ht])]
  ·obtain⟨g1,g2⟩:=q ht;obtain⟨z,e3,e4,x⟩:=Ae9 t hy.ok o (hc (l.Out.g i).Of.toNat (by omega));refine⟨z.1,fun _=>⟨x,fun R k Ch Ta h=>?_⟩⟩;rw[if_pos (fun h=>by have:=of_decide_eq_true h;omega)]
   have:Ch N (srcS l cut i) (l.Out.g i).Clear (l.Out.g i).Set=some y:=by
    rcases h with⟨rfl,rfl⟩ | ⟨rfl,rfl⟩
    ·exact e1
    ·exact e2
   rw[this,AQ3,if_pos (by simp[ht]),if_pos (by omega)]
   have:Ta N y.1 (cut.g (l.Out.g i).Of.toNat) (l.Out.g i).Take=some z:=by
    rcases h with⟨rfl,rfl⟩ | ⟨rfl,rfl⟩
    ·exact e3
    ·exact e4
   rw[this,AQ3]
 obtain⟨out,f⟩:=AY2 one;have a0:=u.1;have b:∀(Ch:Nat->Sound->Int->Sound->Option (Sound×Int)) (Ta:Nat->Sound->Sound->Int->Option (Sound×Int)),(Ch=N7/\Ta=S7) \/ (Ch=P7/\Ta=Y2) ->
  ∀(a:Sl Sound->Int->Option (Sl Sound)) (i:Nat),i<l.Out.n->(∃r,a ((Bm out i).push (out i)) (wrap .i64 ((i:Int)+1))=some r/\r=Bm out l.Out.n) ->
  ∃r,(if ((decide (0<=(l.Out.g i).From))=true->((0:Int)<=(l.Out.g i).From/\(l.Out.g i).From<(cut.n:Int)))then
   (Ch N (srcS l cut i) (l.Out.g i).Clear (l.Out.g i).Set).bind fun y5=>
   if ((l.Out.g i).Take != 0) then
    if ((0:Int)<=(l.Out.g i).Of/\(l.Out.g i).Of<(cut.n:Int))then
     (Ta N y5.1 (cut.g (l.Out.g i).Of.toNat) (l.Out.g i).Take).bind fun y6=>
     if (((Bm out i).n+(Sl.of [y6.1]:Sl Sound).n)*8<=140737488355328/\(Bm out i).n+(Sl.of [y6.1]:Sl Sound).n<=140737488355328)then
      a ((Bm out i).push y6.1) (wrap .i64 ((i:Int)+1))
     else none
    else none
   else
    if (((Bm out i).n+(Sl.of [y5.1]:Sl Sound).n)*8<=140737488355328/\(Bm out i).n+(Sl.of [y5.1]:Sl Sound).n<=140737488355328)then
     a ((Bm out i).push y5.1) (wrap .i64 ((i:Int)+1))
    else none
   else none)=some r/\r=Bm out l.Out.n:=by
  intro Ch Ta h a i d hr;have e:=(f i d).2 (Sl Sound) (fun y=>if (((Bm out i).n+(Sl.of [y]:Sl Sound).n)*8<=140737488355328/\(Bm out i).n+(Sl.of [y]:Sl Sound).n<=140737488355328)then a ((Bm out i).push y) (wrap .i64 ((i:Int)+1))else none) Ch Ta h;refine eqX e (ifT ?_ hr)
  have:=Ht out i
  show ((Bm out i).n+1)*8<=_/\(Bm out i).n+1<=_;omega
 have h1:∃r,N3 N l cut=some r/\r=Bm out l.Out.n:=by
  unfold N3;refine Q7 (fun i x1 x2=>x2=(i:Int)/\x1=Bm out i) l.Out.n _ (by omega) ⟨rfl,rfl⟩ ?_;rintro a i x1 x2 d ⟨rfl,rfl⟩ hs;by_cases c:i<l.Out.n
  ·refine ifT (by simp;omega) (ifT (by omega) ?_);rw[AQ1];exact b _ _ (.inl ⟨rfl,rfl⟩) a i c (hs c _ _ ⟨C5 (by omega),rfl⟩)
  ·exact ifF (by simp;omega) ⟨_,rfl,by congr 1;omega⟩
 have h2:∃r,Bd N l cut=some r/\r=Bm out l.Out.n:=by
  unfold Bd;refine Q7 (fun i x1 x2=>x2=(i:Int)/\x1=Bm out i) l.Out.n _ (by omega) ⟨rfl,rfl⟩ ?_;rintro a i x1 x2 d ⟨rfl,rfl⟩ hs;by_cases c:i<l.Out.n
  ·refine ifT (by simp;omega) (ifT (by omega) ?_);rw[AQ1];exact b _ _ (.inr ⟨rfl,rfl⟩) a i c (hs c _ _ ⟨C5 (by omega),rfl⟩)
  ·exact ifF (by simp;omega) ⟨_,rfl,by congr 1;omega⟩
 obtain⟨r,e1,rfl⟩:=h1;obtain⟨r,e2,rfl⟩:=h2;exact⟨_,e1,e2,Ht out _,fun i d=>by rw[Ht]at d;rw[Vz out d];exact (f i d).1⟩
end Go.AM
namespace Go.AM
open Go.Proofs
theorem ne0 (x:BitVec 32):((x.toNat:Int) != 0)=decide (x≠0#32):=by rw[bne,eq0];simp
theorem or0 (x y:BitVec 32):x ||| y=0#32↔x=0#32/\y=0#32:=by
 constructor
 ·intro h;have h:=(z32 _).1 h;exact⟨(z32 _).2 fun i a=>by have:=h i a;rw[AR6,AZ1]at this;exact this.1,(z32 _).2 fun i a=>by have:=h i a;rw[AR6,AZ1]at this;exact this.2⟩
 ·rintro⟨rfl,rfl⟩;rfl
theorem AO1 (x y z:BitVec 32):x &&& (y ||| z)=(x &&& y) ||| (x &&& z):=by apply AV4;intro i a;simp only[AR7,AR6];cases x.getLsbD i<;>simp
theorem AO2 (x y z:BitVec 32):(x ||| y) &&& z=(x &&& z) ||| (y &&& z):=by apply AV4;intro i a;simp only[AR7,AR6];cases z.getLsbD i<;>simp
theorem Xa {N:Nat}(j:1000<=N){x:Bn}(hx:okO x)(k:Int):∃b,T7 N x k=some b/\Ee N x k=some b:=by
 obtain⟨⟨a,b,d⟩,⟨c,hc⟩,t,ht⟩:=hx;have f:(16777215:Int)=((16777215#32).toNat:Int):=rfl;unfold T7 Ee;simp only[lt,d,hc,ht,Bj,Y9 a b j,AQ3];rw[f];simp only[Ev,JC,DY,ne0];by_cases h1:x.From < -1
 ·simp[h1]
 by_cases g:k<=x.From
 ·simp[h1,g]
 by_cases i:vB a b=true
 case neg=>simp[h1,g,i]
 simp only[h1,g,i,decide_false,AQ8,if_false,Bb9];rw[AO2,AO1 t];generalize ~~~16777215#32=M;by_cases g1:c &&& M=0#32
 case neg=>simp[g1,or0]
 by_cases g2:t &&& M=0#32
 case neg=>simp[g1,g2,or0]
 by_cases g3:c &&& (a ||| b)=0#32
 case neg=>simp[g1,g2,g3,or0]
 by_cases g4:t &&& (a ||| b)=0#32
 case neg=>simp[g1,g2,g3,g4,or0]
 by_cases g5:t &&& c=0#32
 case neg=>simp[g1,g2,g3,g4,g5,or0]
 simp[g1,g2,g3,g4,g5,or0];by_cases g6:t.toNat=0
 ·simp only[g6,if_true];cases x.Of==0<;>simp
 ·simp only[g6,if_false];cases (decide (0<=x.Of)&&decide (x.Of<k))<;>simp
end Go.AM
namespace Go.AM
open Go.Proofs
abbrev nameC:Str:=[97,98,99,100,101,102,103,104,105,106,107,108,109,110,111,112,113,114,115,116,117,118,119,120,121,122,65,66,67,68,69,70,71,72,73,74,75,76,77,78,79,80,81,82,83,84,85,86,87,88,89,90,48,49,50,51,52,53,54,55,56,57,45]
theorem Af0 {p:UInt8->Bool}:∀{l:Str},l.dropWhile p=[] ↔ ∀x∈l,p x=true
 |[]=>by simp
 |a::l=>by
  rw[List.dropWhile_cons];by_cases h:p a=true
  ·rw[if_pos h,Af0];simp[h]
  ·rw[if_neg h];simp[h]
theorem Ar2 (l cs:Str):Lib.trimS l cs=[] ↔ ∀b∈l,cs.contains b=true:=by
 unfold Lib.trimS Lib.trimLeftS Lib.trimRightS;rw[Af0];constructor
 ·intro h;have h:∀x∈l.reverse.dropWhile (cs.contains ·),cs.contains x=true:=fun x hx=>h x (Bd2.2 hx);have a:l.reverse.dropWhile (cs.contains ·)=[]:=by
   rcases e:l.reverse.dropWhile (cs.contains ·)with _|⟨y,r⟩
   ·rfl
   ·have c:=h y (by rw[e];simp);have d:¬cs.contains y=true:=by
     have:=List.head_dropWhile_not (cs.contains ·) (l:=l.reverse) (by rw[e];simp)
     simp only[e,List.head_cons]at this;rw[this];exact Bool.false_ne_true
    exact absurd c d
  rw[Af0]at a;exact fun b hb=>a b (Bd2.2 hb)
 ·intro h x hx;have hx:=Bd2.1 hx;exact h x (Bd2.1 ((List.dropWhile_sublist _).mem hx))
abbrev QJ (y:Int):Bool:=((((decide (97<=y))&&(decide (y<=122)))||((decide (65<=y))&&(decide (y<=90))))||((decide (48<=y))&&(decide (y<=57))))||(y==45)
theorem Af1:∀k:Fin 256,nameC.contains (UInt8.ofNat k.val)=QJ ((k.val:Nat):Int):=by decide +kernel
theorem Af2 (b:UInt8):nameC.contains b=QJ ((b.toNat:Nat):Int):=by
 have:=Af1 ⟨b.toNat,b.toNat_lt⟩
 rw[show UInt8.ofNat b.toNat=b by simp]at this;exact this
theorem Th {N:Nat}{s:Str}(n:s.length<N)(hs:s.length<1000000000):∃b,Bx N s=some b/\Bt N s=some b:=by
 have o:∃b,Bt N s=some b/\(b=true↔(∀c∈s,nameC.contains c=true)/\1<=s.length/\s.length<=24):=by
  unfold Bt;refine BB (fun i x1=>x1=(i:Int)/\∀j (h:j<s.length),j<i->nameC.contains s[j]=true) s.length _ n ⟨rfl,fun j _ a=>absurd a (by omega)⟩ ?_;rintro l i x1 v ⟨rfl,h⟩ f;by_cases hl:i<s.length
  ·refine ifT (by simp;omega) (ifT (by omega) ?_);have eb:Z0 s (i:Int)=((s[i].toNat:Nat):Int):=by simp[Z0,hl]
   by_cases hb:nameC.contains s[i]=true
   ·refine ifF (by rw[eb];show ¬(!(QJ ((s[i].toNat:Nat):Int)))=true;rw[<- Af2,hb];simp) (f hl _ ⟨C5 (by omega),fun j a q=>?_⟩);by_cases e:j=i
    ·subst e;exact hb
    ·exact h j a (by omega)
   ·refine ifT ?_ ⟨false,rfl,by simp,fun t=>absurd (t.1 s[i] (Bf5 hl)) hb⟩;rw[eb];show (!(QJ ((s[i].toNat:Nat):Int)))=true;rw[<- Af2];simpa using hb
  ·refine ifF (by simp;omega) ⟨_,rfl,?_⟩;simp only[AQ5,decide_eq_true_eq];constructor
   ·rintro⟨g1,g2⟩;refine⟨fun c hc=>?_,by omega,by omega⟩;obtain⟨j,a,rfl⟩:=Bd6 hc;exact h j a (by omega)
   ·rintro⟨_,g1,g2⟩;exact⟨by omega,by omega⟩
 obtain⟨b,e,hb⟩:=o;refine⟨b,?_,e⟩
 suffices h:∃r,Bx N s=some r/\(r=true↔(∀c∈s,nameC.contains c=true)/\1<=s.length/\s.length<=24) by obtain⟨r,u,g⟩:=h;rw[u,show r=b by rw[AT3,g,hb]]
 unfold Bx;refine ltX ?_;by_cases d:s=[]
 ·exact ifF (by simp[d]) ⟨false,rfl,by simp[d]⟩
 refine ifT (by simp[d]) ?_;have m:0<s.length:=List.length_pos_iff.2 d;by_cases h1:s.length<=24
 ·refine ifT (by simp;omega) (B4 (x:=Lib.trimS s nameC) ?_ ⟨_,rfl,?_⟩)
  ·unfold Dy;rw[if_pos ⟨by omega,by decide,by decide⟩]
  ·rw[<- Ar2];constructor
   ·intro h;exact⟨by simpa using h,by omega,h1⟩
   ·rintro⟨h,_⟩;simp[h]
 ·exact ifF (by simp;omega) ⟨false,rfl,by simp;intro _ _;omega⟩
end Go.AM
namespace Go.AM
open IntKind (wrap)
open Go.Proofs
theorem Ti {N:Nat}{s:Sl Bn}(m:s.n<N)(hs:s.n<1000000){f:Bn->Option Bool}{b:Nat->Bool}(o:∀i,i<s.n->f (s.g i)=some (b i)) :∃r,C6 N s f=some r/\(r=true ↔ ∃i,i<s.n/\b i=true):=by
 unfold C6 E7
 have:∃y,S6 N (fun (a:Int->Option Int) (x1:Int)=>
  if (decide (x1<(s.n:Int))) then
   if ((0:Int)<=x1/\x1<(s.n:Int))then
    (f (s.g x1.toNat)).bind fun y3=>
    if y3 then
     some x1
    else
     a (wrap .i64 (x1+1))
   else none
  else
   some (-1)) 0=some y/\(0<=y ↔ ∃i,i<s.n/\b i=true):=by
  refine BB (fun i x1=>x1=(i:Int)/\∀j,j<i->b j=false) s.n _ m ⟨rfl,fun j c=>absurd c (by omega)⟩ ?_;rintro l i x1 q ⟨rfl,h⟩ d;by_cases hl:i<s.n
  ·refine ifT (by simp;omega) (ifT (by omega) (B4 (by rw[AQ1];exact o i hl) ?_));cases hb:b i
   ·refine ifF (by simp) (d hl _ ⟨C5 (by omega),fun j c=>?_⟩);by_cases e:j=i
    ·subst e;exact hb
    ·exact h j (by omega)
   ·exact ifT rfl ⟨i,rfl,fun _=>⟨i,hl,hb⟩,fun _=>by omega⟩
  ·refine ifF (by simp;omega) ⟨-1,rfl,fun h=>absurd h (by decide),?_⟩;rintro⟨j,c,hb⟩;rw[h j (by omega)]at hb;cases hb
 obtain⟨y,e,hy⟩:=this;exact B4 e ⟨_,rfl,by rw[decide_eq_true_eq];exact hy⟩
def Km (l:Law):Prop:=okL l/\l.Name.length<1100000/\l.If.n<1100000/\l.Out.n<1100000/\∀i,i<l.Out.n->okO (l.Out.g i)
theorem YP {N:Nat}{s:Sound}(hs:okS s):∃b,G3 N s=some b/\(b=true↔vS s):=by obtain⟨p,m,e⟩:=hs;exact⟨vB p m,by rw[e];exact Bj p m,(Vt e).symm⟩
theorem YQ {N:Nat}(a:1000<=N){s:Sound}(hs:okS s):∃b,I2 N s=some b/\(b=true↔vS s):=by obtain⟨p,m,e⟩:=hs;exact⟨vB p m,by rw[e];exact Y9 p m a,(Vt e).symm⟩
theorem Ar3 {N:Nat}{x:Bn}(hx:okO x){k:Int}(h:T7 N x k=some true):x.From<k/\(x.Take≠0->0<=x.Of/\x.Of<k):=by
 obtain⟨⟨a,b,c⟩,_,_⟩:=hx;unfold T7 at h;simp only[lt,c,Bj,AQ3]at h;by_cases h1:x.From < -1
 ·simp[h1]at h
 by_cases d:k<=x.From
 ·simp[h1,d]at h
 refine⟨by omega,fun ht=>?_⟩;simp only[h1,d,decide_false,AQ8,if_false]at h;by_cases f:(!vB a b)=true
 ·rw[if_pos f]at h;cases h
 rw[if_neg f]at h;split at h
 ·cases h
 ·rw[if_neg (by simp[ht])]at h;simpa using h
def chkAll (N:Nat)(l:Law):Prop:=Bt N l.Name=some true/\chk 40 [l.Left]/\chk 40 [l.Right]/\l.If.n<=4/\l.Out.n<=6/\l.If.n+l.Out.n≠0/\1<=l.Mode/\l.Mode<=3/\(∀i,i<l.If.n->vS (l.If.g i))/\∀i,i<l.Out.n->T7 N (l.Out.g i) l.If.n=some true
def AE8 (N:Nat)(l:Law)(e:Int):Prop:=(e=0/\chkAll N l) \/ (e=17/\¬chkAll N l)
def AH5 (l:Law):Prop:=okL l/\chk 40 [l.Left]/\chk 40 [l.Right]/\l.If.n<=4/\AH4 l/\l.If.n+l.Out.n≠0/\1<=l.Mode/\l.Mode<=3
theorem chkAll.f {N:Nat}{l:Law}(hl:Km l)(h:chkAll N l):AH5 l:=by obtain⟨_,h1,b,c,d,g,j,m,o,n⟩:=h;exact⟨hl.1,h1,b,c,⟨d,fun i a=>⟨hl.2.2.2.2 i a,Ar3 (hl.2.2.2.2 i a) (n i a)⟩⟩,g,j,m⟩
theorem YR {N:Nat}(hN:3000000<=N){l:Law}(hl:Km l):∃e,W8 N l=some e/\AE8 N l e:=by
 have u:=hl.2.1;have v:=hl.2.2.1;have x:=hl.2.2.2.1;unfold W8;obtain⟨b0,e0,e0'⟩:=Th (N:=N) (s:=l.Name) (by omega) (by omega);refine B4 e0 ?_;cases b0
 ·exact ifT rfl ⟨17,rfl,.inr ⟨rfl,fun h=>by have:=h.1;rw[e0']at this;cases this⟩⟩
 refine ifF (by simp) ?_;obtain⟨y2,e2,o⟩:=QH (N:=N) (by omega) hl.1.1;refine B4 e2 ?_;by_cases c2:y2=0
 case neg=>exact ifT (by simpa using c2) ⟨17,rfl,.inr ⟨rfl,fun h=>c2 (o.2 h.2.1)⟩⟩
 refine ifF (by simp[c2]) ?_;obtain⟨y3,e3,q⟩:=QH (N:=N) (by omega) hl.1.2.1;refine B4 e3 ?_;by_cases c3:y3=0
 case neg=>exact ifT (by simpa using c3) ⟨17,rfl,.inr ⟨rfl,fun h=>c3 (q.2 h.2.2.1)⟩⟩
 refine ifF (by simp[c3]) ?_;by_cases c4:4<l.If.n
 ·exact ifT (by simp;omega) ⟨17,rfl,.inr ⟨rfl,fun h=>by have:=h.2.2.2.1;omega⟩⟩
 refine ifF (by simp;omega) ?_;by_cases c5:6<l.Out.n
 ·exact ifT (by simp;omega) ⟨17,rfl,.inr ⟨rfl,fun h=>by have:=h.2.2.2.2.1;omega⟩⟩
 refine ifF (by simp;omega) ?_;rw[Db (by omega)];by_cases c6:l.If.n+l.Out.n=0
 ·exact ifT (by rw[c6];rfl) ⟨17,rfl,.inr ⟨rfl,fun h=>h.2.2.2.2.2.1 c6⟩⟩
 refine ifF (by simp;omega) ?_;by_cases c7:l.Mode<1 \/ 3<l.Mode
 ·exact ifT (by simp;omega) ⟨17,rfl,.inr ⟨rfl,fun h=>by have g1:=h.2.2.2.2.2.2.1;have g2:=h.2.2.2.2.2.2.2.1;omega⟩⟩
 refine ifF (by simp;omega) ?_;have y:∀i,∃b,i<l.If.n->Y8 N (l.If.g i)=some b/\(b=true ↔ ¬vS (l.If.g i)):=by
  intro i;by_cases a:i<l.If.n
  ·obtain⟨b,eb,hb⟩:=YP (N:=N) (hl.1.2.2 i a);refine⟨!b,fun _=>⟨by unfold Y8;rw[eb];rfl,?_⟩⟩;rw[<- hb];simp
  ·exact⟨false,fun h=>absurd h a⟩
 obtain⟨f,j⟩:=AY2 y;obtain⟨y4,e4,r⟩:=JX (N:=N) (w:=l.If) (by omega) (by omega) (f:=fun u1=>Y8 N u1) (fun i a=>(j i a).1);refine B4 e4 ?_;cases c:y4
 case true=>obtain⟨i,a,hb⟩:=r.1 c;exact ifT rfl ⟨17,rfl,.inr ⟨rfl,fun h=>(j i a).2.1 hb (h.2.2.2.2.2.2.2.2.1 i a)⟩⟩
 refine ifF (by simp) ?_;have z:∀i,∃b,i<l.Out.n->Y7 N (l.Out.g i) (l.If.n:Int)=some b/\(b=true ↔ ¬T7 N (l.Out.g i) l.If.n=some true):=by
  intro i;by_cases a:i<l.Out.n
  ·obtain⟨b,eb,_⟩:=Xa (N:=N) (by omega) (hl.2.2.2.2 i a) (l.If.n:Int);refine⟨!b,fun _=>⟨by unfold Y7;rw[eb];rfl,?_⟩⟩;rw[eb];simp
  ·exact⟨false,fun h=>absurd h a⟩
 obtain⟨g,m⟩:=AY2 z;obtain⟨y5,e5,t⟩:=Ti (N:=N) (s:=l.Out) (by omega) (by omega) (f:=fun u2=>Y7 N u2 (l.If.n:Int)) (fun i a=>(m i a).1);refine B4 e5 ?_;cases d:y5
 case true=>obtain⟨i,a,hb⟩:=t.1 d;exact ifT rfl ⟨17,rfl,.inr ⟨rfl,fun h=>(m i a).2.1 hb (h.2.2.2.2.2.2.2.2.2 i a)⟩⟩
 refine ifF (by simp) ⟨0,rfl,.inl ⟨rfl,e0',o.1 c2,q.1 c3,by omega,by omega,c6,by omega,by omega,fun i a=>?_,fun i a=>?_⟩⟩
 ·refine AT8 fun hn=>?_
  have:=r.2 ⟨i,a,(j i a).2.2 hn⟩
  rw[c]at this;cases this
 ·refine AT8 fun hn=>?_
  have:=t.2 ⟨i,a,(m i a).2.2 hn⟩
  rw[d]at this;cases this
theorem YS {N:Nat}(y:3000000<=N){l:Law}(hl:Km l):∃e,W4 N l=some e/\AE8 N l e:=by
 have u:=hl.2.1;have v:=hl.2.2.1;have w:=hl.2.2.2.1;unfold W4;obtain⟨b0,e0,e0'⟩:=Th (N:=N) (s:=l.Name) (by omega) (by omega);refine B4 e0' (ltX ?_);cases b0
 ·exact ifT rfl (ifT rfl ⟨17,rfl,.inr ⟨rfl,fun h=>by have:=h.1;rw[e0']at this;cases this⟩⟩)
 refine ifF (by simp) ?_;obtain⟨y2,e2,q⟩:=MC (N:=N) (by omega) hl.1.1;refine B4 e2 ?_;by_cases c2:y2=0
 case neg=>exact ifT (by simpa using c2) (ifT rfl ⟨17,rfl,.inr ⟨rfl,fun h=>c2 (q.2 h.2.1)⟩⟩)
 refine ifF (by simp[c2]) ?_;obtain⟨y3,e3,r⟩:=MC (N:=N) (by omega) hl.1.2.1;refine B4 e3 ?_;by_cases c3:y3=0
 case neg=>exact ifT (by simpa using c3) ⟨17,rfl,.inr ⟨rfl,fun h=>c3 (r.2 h.2.2.1)⟩⟩
 refine ifF (by simp[c3]) ?_;rw[Db (by omega)];by_cases a:l.If.n<=4/\l.Out.n<=6/\l.If.n+l.Out.n≠0/\1<=l.Mode/\l.Mode<=3
 case neg=>refine ifT ?_ ⟨17,rfl,.inr ⟨rfl,fun h=>a ⟨h.2.2.2.1,h.2.2.2.2.1,h.2.2.2.2.2.1,h.2.2.2.2.2.2.1,h.2.2.2.2.2.2.2.1⟩⟩⟩;simp only[AS2,decide_eq_true_eq,beq_iff_eq];omega
 refine ifF (by simp only[AS2,decide_eq_true_eq,beq_iff_eq];omega) ?_;obtain⟨c4,c5,c6,c7,c8⟩:=a;refine BB (fun i x1=>x1=(i:Int)/\∀j,j<i->vS (l.If.g j)) l.If.n _ (by omega) ⟨rfl,fun j c=>absurd c (by omega)⟩ ?_;rintro t i x1 z ⟨rfl,h⟩ hs;by_cases d:i<l.If.n
 ·obtain⟨b,eb,hb⟩:=YQ (N:=N) (by omega) (hl.1.2.2 i d);refine ifT (by simp;omega) (ifT (by omega) (B4 (by rw[AQ1];exact eb) ?_));cases b
  ·exact ifT rfl ⟨17,rfl,.inr ⟨rfl,fun h=>by have:=hb.2 (h.2.2.2.2.2.2.2.2.1 i d);cases this⟩⟩
  ·refine ifF (by simp) (hs d _ ⟨C5 (by omega),fun j c=>?_⟩);by_cases e:j=i
   ·subst e;exact hb.1 rfl
   ·exact h j (by omega)
 refine ifF (by simp;omega) ?_;have x:∀j,j<l.If.n->vS (l.If.g j):=fun j c=>h j (by omega);refine BB (fun i x1=>x1=(i:Int)/\∀j,j<i->T7 N (l.Out.g j) l.If.n=some true) l.Out.n _ (by omega) ⟨rfl,fun j c=>absurd c (by omega)⟩ ?_;rintro m k x2 hk ⟨rfl,h'⟩ o;by_cases f:k<l.Out.n
 ·obtain⟨b,eb,eb'⟩:=Xa (N:=N) (by omega) (hl.2.2.2.2 k f) (l.If.n:Int);refine ifT (by simp;omega) (ifT (by omega) (B4 (by rw[AQ1];exact eb') ?_));cases b
  ·exact ifT rfl ⟨17,rfl,.inr ⟨rfl,fun h=>by have:=h.2.2.2.2.2.2.2.2.2 k f;rw[eb]at this;cases this⟩⟩
  ·refine ifF (by simp) (o f _ ⟨C5 (by omega),fun j c=>?_⟩);by_cases e:j=k
   ·subst e;exact eb
   ·exact h' j (by omega)
 ·exact ifF (by simp;omega) ⟨0,rfl,.inl ⟨rfl,e0',q.1 c2,r.1 c3,c4,c5,c6,c7,c8,x,fun j c=>h' j (by omega)⟩⟩
theorem Tj {N:Nat}{l:Law}{e e' : Int}(h:AE8 N l e)(h' : AE8 N l e'):e=e':=by
 rcases h with⟨rfl,h⟩ | ⟨rfl,h⟩<;>rcases h' with⟨rfl,h'⟩ | ⟨rfl,h'⟩
 ·rfl
 ·exact absurd h h'
 ·exact absurd h' h
 ·rfl
theorem Ej {N:Nat}(a:3000000<=N){l:Law}(hl:Km l):∃e,W8 N l=some e/\W4 N l=some e/\AE8 N l e:=by obtain⟨e,h,c⟩:=YR a hl;obtain⟨e',h',c'⟩:=YS a hl;obtain rfl:=Tj c c';exact⟨_,h,h',c⟩
end Go.AM
namespace Go.AM
open Go.Proofs
def PE:Pat->Pat->Prop
 |.nil,q=>q.Kind=0/\q.Is=default/\q.Not=false/\q.Min=0/\q.Max=0/\q.L.n=0
 |.mk k is no mn mx n g,q=>q.Kind=k/\q.Is=is/\q.Not=no/\q.Min=mn/\q.Max=mx/\q.L.n=n/\∀i,i<n->PE (g i) (q.L.g i)
theorem PE_of {p q:Pat}:PE p q↔q.Kind=p.Kind/\q.Is=p.Is/\q.Not=p.Not/\q.Min=p.Min/\q.Max=p.Max/\q.L.n=p.L.n/\∀i,i<p.L.n->PE (p.L.g i) (q.L.g i):=by
 cases p with
 |nil=>exact⟨fun h=>⟨h.1,h.2.1,h.2.2.1,h.2.2.2.1,h.2.2.2.2.1,h.2.2.2.2.2,fun i a=>absurd a (AT6 i)⟩,fun h=>⟨h.1,h.2.1,h.2.2.1,h.2.2.2.1,h.2.2.2.2.1,h.2.2.2.2.2.1⟩⟩
 |mk k is no mn mx n g=>exact AZ3
theorem VA:∀p:Pat,PE p p
 |.nil=>⟨rfl,rfl,rfl,rfl,rfl,rfl⟩
 |.mk k is no mn mx n g=>⟨rfl,rfl,rfl,rfl,rfl,rfl,fun i _=>VA (g i)⟩
theorem VB:∀{p q:Pat},PE p q->PE q p
 |.nil,q,h=>PE_of.2 ⟨h.1.symm,h.2.1.symm,h.2.2.1.symm,h.2.2.2.1.symm,h.2.2.2.2.1.symm,h.2.2.2.2.2.symm,fun i a=>absurd a (by rw[h.2.2.2.2.2];exact AT6 i)⟩
 |.mk k is no mn mx n g,q,h=>PE_of.2 ⟨h.1.symm,h.2.1.symm,h.2.2.1.symm,h.2.2.2.1.symm,h.2.2.2.2.1.symm,h.2.2.2.2.2.1.symm,fun i a=>VB (h.2.2.2.2.2.2 i (by rw[<- h.2.2.2.2.2.1];exact a))⟩
theorem Pa {n:Nat}{Q Q' : Nat->Nat->Nat->Prop}:∀{m:Nat},(∀i,i<m->Q i=Q' i)->Yw n Q m=Yw n Q' m
 |0,_=>rfl
 |m+1,h=>by funext a b;simp only[Yw];rw[Pa fun i c=>h i (by omega),h m (by omega)]
theorem AE9 {w:Sl Sound}:∀(d:Nat) {p q:Pat},okP d p->PE p q->PR w p=PR w q
 |0,p,q,h,_=>h.elim
 |d+1,p,q,h,e=>by
  obtain⟨e1,e2,e3,e4,e5,e6,e7⟩:=PE_of.1 e;have ih:∀i,i<p.L.n->PR w (p.L.g i)=PR w (q.L.g i):=fun i c=>AE9 d (h.2.2 i c) (e7 i c);funext a b;apply propext;rw[Kl,Kl,e1,e2,e3,e4,e5,e6];have j:Yw w.n (fun i=>PR w (p.L.g i)) p.L.n=Yw w.n (fun i=>PR w (q.L.g i)) p.L.n:=Pa ih;have l:(∃i,i<p.L.n/\PR w (p.L.g i) a b) ↔ ∃i,i<p.L.n/\PR w (q.L.g i) a b:=⟨fun⟨i,c,g⟩=>⟨i,c,by rw[<- ih i c];exact g⟩,fun⟨i,c,g⟩=>⟨i,c,by rw[ih i c];exact g⟩⟩;rw[j,l];by_cases f:p.Kind=5
  ·have:=(h.2.1 f).1
   rw[ih 0 (by omega)]
  ·simp[f]
theorem Ar4 {p q:Pat}(e:PE p q):GA p↔GA q:=by obtain⟨e1,e2,e3,e4,e5,e6,_⟩:=PE_of.1 e;unfold GA;rw[e1,e2,e3,e4,e5,e6]
def PEs:List Pat->List Pat->Prop
 |[],[]=>True
 |p::l,q::m=>PE p q/\PEs l m
 |_,_=>False
theorem Af3:∀{a b c d:List Pat},PEs a b->PEs c d->PEs (a++c) (b++d)
 |[],[],_,_,_,h=>h
 |_::_,_::_,_,_,⟨h1,h2⟩,h=>⟨h1,Af3 h2 h⟩
 |[],_::_,_,_,h,_=>h.elim
 |_::_,[],_,_,h,_=>h.elim
theorem Tk {f g:Nat->Pat}:∀(l:List Nat),(∀i∈l,PE (f i) (g i))->PEs (l.map f) (l.map g)
 |[],_=>trivial
 |i::l,h=>⟨h i (by simp),Tk l fun j a=>h j (by simp[a])⟩
theorem Aw1:∀(k:Nat) (l m:List Pat),PEs l m->(chk k l↔chk k m)
 |0,[],[],_=>AZ3
 |0,p::l,q::m,_=>⟨fun h=>(by cases h),fun h=>by cases h⟩
 |k+1,[],[],_=>AZ3
 |k+1,p::l,q::m,⟨h1,h2⟩=>by
  obtain⟨_,_,_,_,_,e6,e7⟩:=PE_of.1 h1;show GA p/\chk k (p.L.toList++l)↔GA q/\chk k (q.L.toList++m);rw[Ar4 h1,Aw1 k _ _ (Af3 (c:=l) (d:=m) (show PEs p.L.toList q.L.toList by unfold Sl.toList;rw[e6];exact Tk _ fun i a=>e7 i (AV7.1 a)) h2)]
 |_,[],_::_,h=>h.elim
 |_,_::_,[],h=>h.elim
theorem Jl {p q:Pat}(h:PE p q):chk 40 [p]↔chk 40 [q]:=Aw1 40 [p] [q] ⟨h,trivial⟩
theorem okPS_of {p:Pat}:okPS p↔okS p.Is/\∀i,i<p.L.n->okPS (p.L.g i):=by
 cases p with
 |nil=>exact⟨fun _=>⟨⟨0#32,0#32,rfl⟩,fun i a=>absurd a (AT6 i)⟩,fun _=>trivial⟩
 |mk k is no mn mx n g=>exact AZ3
theorem ME:∀{p q:Pat},PE p q->okPS p->okPS q
 |.nil,q,h,_=>okPS_of.2 ⟨by rw[h.2.1];exact⟨0#32,0#32,rfl⟩,fun i a=>absurd a (by rw[h.2.2.2.2.2];exact AT6 i)⟩
 |.mk k is no mn mx n g,q,h,hp=>okPS_of.2 ⟨by rw[h.2.1];exact hp.1,fun i a=>by
  have a:i<n:=by rw[<- h.2.2.2.2.2.1];exact a
  exact ME (h.2.2.2.2.2.2 i a) (hp.2 i a)⟩
end Go.AM
namespace Go.AM
open IntKind (wrap)
open Go.Proofs
theorem nf:(!false)=true:=rfl
theorem AF0 {α : Type}{s t:Sl α}(h:s.n=0):s.app t=t:=by cases t;simp[Sl.app,h]
def Aw2 {α : Type}[Inhabited α](s:Sl (Sl α)):Nat->Sl α
 |0=>Sl.nil
 |k+1=>(Aw2 s k).app (s.g k)
theorem Aw3 {α : Type}[Inhabited α](s:Sl (Sl α)){B:Nat}:∀k,(∀i,i<k->(s.g i).n<=B)->(Aw2 s k).n<=k*B
 |0,_=>by simp[Aw2]
 |k+1,h=>by
  have:=Aw3 s k fun i a=>h i (by omega)
  have:=h k (by omega)
  show (Aw2 s k).n+(s.g k).n<=_;rw[Bc8];omega
theorem VC {N:Nat}{s:Sl (Sl Sound)}(hn:s.n<1000)(d:1000<=N)(hs:∀i,i<s.n->(s.g i).n<=3000000) :B1 N s=some (Aw2 s s.n):=by
 suffices h:∃r,B1 N s=some r/\r=Aw2 s s.n by obtain⟨r,h,rfl⟩:=h;exact h
 unfold B1;refine Q7 (fun (i:Nat) (x1 x2:Int)=>x2=(i:Int)/\0<=x1/\x1<=(i:Int)*3000000) s.n _ (by omega) ⟨rfl,Int.le_refl 0,by simp⟩ ?_;rintro b i x1 x2 c ⟨rfl,f,h1⟩ a;by_cases hl:i<s.n
 ·have:=hs i hl
  refine ifT (by simp;omega) (ifT (by omega) ?_);rw[AQ1,F1 (by omega) (by omega)];exact ifF (by simp;omega) (a hl _ _ ⟨C5 (by omega),by omega,by omega⟩)
 refine ifF (by simp;omega) (B4 (x:=Sl.nil) ?_ ?_)
 ·unfold H5;rw[if_pos (by omega)]
 refine Q7 (fun i x1 x2=>x2=(i:Int)/\x1=Aw2 s i) s.n _ (by omega) ⟨rfl,rfl⟩ ?_;rintro b i x1 x2 c ⟨rfl,rfl⟩ a;by_cases hl:i<s.n
 ·have g1:=hs i hl;have g2:=Aw3 s i (B:=3000000) fun j l=>hs j (by omega);refine ifT (by simp;omega) (ifT ⟨by omega,?_⟩ (a hl _ _ ⟨C5 (by omega),?_⟩))
  ·rw[AQ1];omega
  ·rw[AQ1];rfl
 ·exact ifF (by simp;omega) ⟨_,rfl,by congr 1;omega⟩
def AH6 (w:Sl Sound)(i k:Nat)(y:Sl Sound):Sl Sound:=((w.take i).app y).app (w.drop (i+k))
theorem Af4 {w y:Sl Sound}{i k:Nat}(b:i+k<=w.n)(hw:∀j,j<w.n->vS (w.g j))(hy:∀j,j<y.n->vS (y.g j)):(AH6 w i k y).n=w.n-k+y.n/\∀j,j<(AH6 w i k y).n->vS ((AH6 w i k y).g j):=by
 have hn:(AH6 w i k y).n=w.n-k+y.n:=by show i+y.n+(w.n-(i+k))=_;omega
 refine⟨hn,fun j a=>?_⟩;rw[hn]at a;show vS (if j<i+y.n then (if j<i then w.g j else y.g (j-i))else w.g (i+k+(j-(i+y.n))));split
 ·split
  ·exact hw _ (by omega)
  ·exact hy _ (by omega)
 ·exact hw _ (by omega)
def GB (N:Nat)(l:Law)(w:Sl Sound)(i:Nat):Sl Sound:=(N3 N l (w.sub i (i+l.If.n))).getD Sl.nil
def X5 (N:Nat)(l:Law)(w:Sl Sound)(i:Nat):Sl Sound:=AH6 w i l.If.n (GB N l w i)
theorem vOk {w:Sl Sound}(h:wOk w):okW w:=⟨by have:=h.1;omega,fun i a=>(h.2 i a).ok⟩
theorem Gh {N:Nat}(a:1000<=N){l:Law}(b:AH4 l){w:Sl Sound}(hw:∀j,j<w.n->vS (w.g j)){i:Nat}(o:i+l.If.n<=w.n) :N3 N l (w.sub i (i+l.If.n))=some (GB N l w i)/\Bd N l (w.sub i (i+l.If.n))=some (GB N l w i)/\(GB N l w i).n=l.Out.n/\∀j,j<(GB N l w i).n->vS ((GB N l w i).g j):=by
 obtain⟨s,h1,c,d,f⟩:=AE7 a b (cut:=w.sub i (i+l.If.n)) (by show i+l.If.n-i=_;omega) fun j m=>(hw (i+j) (by have:j<i+l.If.n-i:=m;omega)).ok;have e:GB N l w i=s:=by unfold GB;rw[h1];rfl
 rw[e];exact⟨h1,c,d,f⟩
theorem cat3 (a b c:Sl Sound):Aw2 (Sl.of [a,b,c]:Sl (Sl Sound)) 3=(a.app b).app c:=by show (((Sl.nil:Sl Sound).app a).app b).app c=_;rw[AF0 (s:=(Sl.nil:Sl Sound)) rfl]
theorem Af5 {N:Nat}(d:1000<=N){a b c:Sl Sound}(ha:a.n<=3000000)(hb:b.n<=3000000)(hc:c.n<=3000000):B1 N (Sl.of [a,b,c]:Sl (Sl Sound))=some ((a.app b).app c):=by
 have h:=VC (N:=N) (s:=(Sl.of [a,b,c]:Sl (Sl Sound))) (by show 3<1000;omega) d fun i f=>by
  match i,f with
  |0,_=>exact ha
  |1,_=>exact hb
  |2,_=>exact hc
 rw[h];exact congrArg some (cat3 a b c)
theorem EX {N:Nat}(a:1000<=N){l:Law}(b:AH4 l){w:Sl Sound}(c:w.n<1000)(hw:∀j,j<w.n->vS (w.g j)){i:Nat}(d:i+l.If.n<=w.n) :P9 N l w i=some (X5 N l w i)/\P8 N l w i=some (X5 N l w i):=by
 obtain⟨h1,f,m,o⟩:=Gh a b hw d;have q:=b.1;constructor
 ·unfold P9;rw[Db (by omega),if_pos (by omega),AQ1,AQ1,h1,AQ3,if_pos (by omega),
   Af5 a (by show i<=_;omega) (by omega) (by show w.n-(i+l.If.n)<=_;omega)]
  rfl
 ·unfold P8;rw[Db (by omega),AQ1,AQ1,AF0 (s:=(Sl.of []:Sl Sound)) rfl,if_pos ⟨by omega,by show (0+i)*8<=_/\0+i<=_;omega⟩,if_pos (by omega),f,AQ3,
   if_pos (by show (i+(GB N l w i).n)*8<=_/\i+(GB N l w i).n<=_;omega),if_pos ⟨by omega,by show (i+(GB N l w i).n+(w.n-(i+l.If.n)))*8<=_/\i+(GB N l w i).n+(w.n-(i+l.If.n))<=_;omega⟩]
  rfl
def SE {α : Type}(s t:Sl α):Prop:=s.n=t.n/\∀i,i<s.n->s.g i=t.g i
theorem SE.refl {α : Type}(s:Sl α):SE s s:=⟨rfl,fun _ _=>rfl⟩
theorem SE.symm {α : Type}{s t:Sl α}(h:SE s t):SE t s:=⟨h.1.symm,fun i a=>(h.2 i (by rw[h.1];exact a)).symm⟩
theorem SE.trans {α : Type}{s t u:Sl α}(h:SE s t)(h' : SE t u):SE s u:=⟨h.1.trans h'.1,fun i a=>(h.2 i a).trans (h'.2 i (by rw[<- h.1];exact a))⟩
theorem SE.app {α : Type}{s t u v:Sl α}(h:SE s t)(h' : SE u v):SE (s.app u) (t.app v):=⟨by show s.n+u.n=t.n+v.n;rw[h.1,h'.1],fun i a=>by
 show (if i<s.n then s.g i else u.g (i-s.n))=if i<t.n then t.g i else v.g (i-t.n)
 have a:i<s.n+u.n:=a;rw[<- h.1];split
 ·exact h.2 i (by assumption)
 ·exact h'.2 _ (by omega)⟩
theorem SE.drop {α : Type}{s t:Sl α}(h:SE s t)(k:Nat):SE (s.drop k) (t.drop k):=⟨by show s.n-k=t.n-k;rw[h.1],fun i a=>by have a:i<s.n-k:=a;exact h.2 _ (by omega)⟩
theorem SE.take {α : Type}{s t:Sl α}(h:SE s t){k:Nat}(hk:k<=s.n):SE (s.take k) (t.take k):=⟨rfl,fun i a=>h.2 i (by have a:i<k:=a;omega)⟩
theorem SE.sub {α : Type}{s t:Sl α}(h:SE s t){a b:Nat}(hk:b<=s.n):SE (s.sub a b) (t.sub a b):=⟨rfl,fun i c=>h.2 _ (by have c:i<b-a:=c;omega)⟩
theorem SE.v {s t:Sl Sound}(h:SE s t)(b:∀j,j<s.n->vS (s.g j)):∀j,j<t.n->vS (t.g j):=fun j a=>by rw[<- h.2 j (by rw[h.1];exact a)];exact b j (by rw[h.1];exact a)
theorem SE.wOk {s t:Sl Sound}(h:SE s t)(a:wOk s):wOk t:=⟨by rw[<- h.1];exact a.1,h.v a.2⟩
theorem QK {w w' : Sl Sound}(h:SE w w'):∀p:Pat,PR w p=PR w' p
 |.nil=>rfl
 |.mk kind is no mn mx m g=>by
  have ih:(fun i=>PR w (g i))=fun i=>PR w' (g i):=funext fun i=>QK h (g i);have ih1:∀i,PR w (g i)=PR w' (g i):=fun i=>congrFun ih i;have e1:∀a,(a<w.n↔a<w'.n):=fun a=>by rw[h.1]
  funext a b;unfold PR;rw[ih];simp only[ih1,<- h.1];by_cases ha:a<w.n
  ·rw[h.2 a ha]
  ·simp[ha]
theorem YT {l:Law}{w w' : Sl Sound}(h:SE w w'){i:Nat}:OZ l w i↔OZ l w' i:=by
 suffices H:∀{w w' : Sl Sound},SE w w' -> OZ l w i->OZ l w' i by exact⟨H h,H h.symm⟩
 intro w w' h;rintro⟨h1,f,g,m,n,q,⟨a,ha,c⟩,b,hb,d⟩;have hn:=h.1;refine⟨by omega,fun j o=>?_,g,m,h.wOk n,by omega,⟨a,by omega,?_⟩,b,by omega,?_⟩
 ·rw[<- h.2 (i+j) (by omega)];exact f j o
 ·rw[<- QK h];exact c
 ·rw[<- QK h];exact d
structure LE (l l' : Law):Prop where
 name:l'.Name=l.Name
 left:PE l.Left l'.Left
 right:PE l.Right l'.Right
 cond:SE l.If l'.If
 out:SE l.Out l'.Out
 mode:l'.Mode=l.Mode
theorem LE.refl (l:Law):LE l l:=⟨rfl,VA _,VA _,SE.refl _,SE.refl _,rfl⟩
theorem LE.symm {l l' : Law}(h:LE l l'):LE l' l:=⟨h.name.symm,VB h.left,VB h.right,h.cond.symm,h.out.symm,h.mode.symm⟩
theorem AF1 {l l' : Law}(h:LE l l'){w:Sl Sound}{i:Nat}:OZ l w i↔OZ l' w i:=by
 suffices H:∀{l l' : Law},LE l l' -> OZ l w i->OZ l' w i by exact⟨H h,H h.symm⟩
 intro l l' h;rintro⟨h1,m,f,g,n,o,⟨a,ha,c⟩,b,hb,d⟩;have hn:=h.cond.1;refine⟨by omega,fun j q=>?_,(Jl h.left).1 f,(Jl h.right).1 g,n,by omega,⟨a,ha,?_⟩,b,hb,?_⟩
 ·rw[<- h.cond.2 j (by omega)];exact m j (by omega)
 ·rw[<- AE9 40 (MB 40 _ (by omega) f _ (by simp)) h.left];exact c
 ·rw[<- hn,<- AE9 40 (MB 40 _ (by omega) g _ (by simp)) h.right];exact d
theorem Hu {l l' : Law}(e:LE l l'){w w' : Sl Sound}(h:SE w w'){i:Nat}:OZ l w i↔OZ l' w' i:=(AF1 e).trans (YT h)
theorem Ky {l l' : Law}(h:LE l l')(hl:Km l):Km l':=by obtain⟨⟨h1,a,b⟩,c,g,j,d⟩:=hl;have m:=h.cond.1;have n:=h.out.1;exact⟨⟨ME h.left h1,ME h.right a,fun i f=>by rw[<- h.cond.2 i (by omega)];exact b i (by omega)⟩,by rw[h.name];exact c,by omega,by omega,fun i f=>by rw[<- h.out.2 i (by omega)];exact d i (by omega)⟩
theorem AF2 {l l' : Law}(h:LE l l')(hl:AH4 l):AH4 l':=by have a:=h.cond.1;have b:=h.out.1;exact⟨by rw[<- b];exact hl.1,fun i c=>by rw[<- h.out.2 i (by omega),<- a];exact hl.2 i (by omega)⟩
theorem VD {l l' : Law}(h:LE l l')(hl:AH5 l):AH5 l':=by obtain⟨⟨h1,a,b⟩,c,d,j,f,m,n,g⟩:=hl;have o:=h.cond.1;have q:=h.out.1;have hm:=h.mode;exact⟨⟨ME h.left h1,ME h.right a,fun i r=>by rw[<- h.cond.2 i (by omega)];exact b i (by omega)⟩,(Jl h.left).1 c,(Jl h.right).1 d,by omega,AF2 h f,by omega,by omega,by omega⟩
theorem Da {N:Nat}{l l' : Law}(h:LE l l'):chkAll N l↔chkAll N l':=by
 suffices H:∀{l l' : Law},LE l l' -> chkAll N l->chkAll N l' by exact⟨H h,H h.symm⟩
 rintro l l' h ⟨h1,b,c,j,m,n,o,q,d,a⟩;have f:=h.cond.1;have r:=h.out.1;have hm:=h.mode;exact⟨by rw[h.name];exact h1,(Jl h.left).1 b,(Jl h.right).1 c,by omega,by omega,by omega,by omega,by omega,
  fun i g=>by rw[<- h.cond.2 i (by omega)];exact d i (by omega),fun i g=>by rw[<- h.out.2 i (by omega),<- f];exact a i (by omega)⟩
theorem AF3 {N:Nat}{l l' : Law}(h:LE l l'){e:Int}(b:AE8 N l e):AE8 N l' e:=by
 rcases b with⟨h1,a⟩ | ⟨h1,a⟩
 ·exact .inl ⟨h1,(Da h).1 a⟩
 ·exact .inr ⟨h1,fun g=>a ((Da h).2 g)⟩
theorem Af6 {N:Nat}{l:Law}{c c' : Sl Sound}(h:SE c c'):N3 N l c=N3 N l c':=by
 unfold N3;congr 1;funext self x1 x2;by_cases h1:(decide (x2<(l.Out.n:Int)))=true
 case neg=>rw[if_neg h1,if_neg h1]
 rw[if_pos h1,if_pos h1,<- h.1];have e1:∀y:Int,(0:Int)<=y->y<(c.n:Int)->c.g y.toNat=c'.g y.toNat:=fun y i h1=>h.2 _ (by omega);by_cases b:(0:Int)<=x2/\x2<(l.Out.n:Int)
 case neg=>rw[if_neg b,if_neg b]
 rw[if_pos b,if_pos b];split
 ·rename_i f;have e2:(⟨(if (decide (0<=(l.Out.g x2.toNat).From)) then (c.g (l.Out.g x2.toNat).From.toNat).Plus else 0),(if (decide (0<=(l.Out.g x2.toNat).From)) then (c.g (l.Out.g x2.toNat).From.toNat).Minus else 0)⟩:Sound) =
   ⟨(if (decide (0<=(l.Out.g x2.toNat).From)) then (c'.g (l.Out.g x2.toNat).From.toNat).Plus else 0),(if (decide (0<=(l.Out.g x2.toNat).From)) then (c'.g (l.Out.g x2.toNat).From.toNat).Minus else 0)⟩:=by
   by_cases a:decide (0<=(l.Out.g x2.toNat).From)=true
   ·have:=f a
    rw[if_pos a,if_pos a,if_pos a,if_pos a,e1 _ this.1 this.2]
   ·rw[if_neg a,if_neg a,if_neg a,if_neg a]
  rw[e2];congr 1;funext y5;split
  ·split
   ·rename_i d;rw[e1 _ d.1 d.2]
   ·rfl
  ·rfl
 ·rfl
theorem YU {N:Nat}{l l' : Law}(h:SE l.Out l'.Out)(c:Sl Sound):N3 N l c=N3 N l' c:=by
 unfold N3;congr 1;funext self x1 x2;rw[<- h.1];by_cases h1:(0:Int)<=x2/\x2<(l.Out.n:Int)
 ·rw[h.2 x2.toNat (by omega)]
 ·by_cases a:(decide (x2<(l.Out.n:Int)))=true
  ·rw[if_pos a,if_pos a,if_neg h1,if_neg h1]
  ·rw[if_neg a,if_neg a]
theorem MF {N:Nat}{l l' : Law}(e:LE l l'){w w' : Sl Sound}(h:SE w w'){i:Nat}(a:i+l.If.n<=w.n):GB N l w i=GB N l' w' i:=by unfold GB;rw[Af6 (h.sub a),YU e.out,<- e.cond.1]
theorem JY {N:Nat}{l l' : Law}(e:LE l l'){w w' : Sl Sound}(h:SE w w'){i:Nat}(a:i+l.If.n<=w.n):SE (X5 N l w i) (X5 N l' w' i):=by unfold X5 AH6;rw[MF e h a,<- e.cond.1];exact ((h.take (by omega)).app (SE.refl _)).app (h.drop _)
def RL:List (Int×Sl Sound)->List (Int×Sl Sound)->Prop
 |[],[]=>True
 |(p,v)::L,(q,u)::M=>p=q/\SE v u/\RL L M
 |_,_=>False
def Jm:Sl Int->Sl (Sl Sound)->List (Int×Sl Sound)->Sl Int×Sl (Sl Sound)×Int
 |x,y,[]=>(x,y,0)
 |x,y,(p,v)::L=>if 32<v.n then (Sl.nil,Sl.nil,11)else Jm (x.push p) (y.push v) L
abbrev Tl:=List (Int×Sl Sound)
def vL (L:Tl):Prop:=∀x∈L,∀j,j<x.2.n->vS (x.2.g j)
theorem Tm:vL []:=fun x hx=>absurd hx (by simp)
theorem VE {x:Int×Sl Sound}{L:Tl}(h:∀j,j<x.2.n->vS (x.2.g j))(hL:vL L):vL (x::L):=fun y hy=>by
 rcases AT4.1 hy with rfl|hy
 ·exact h
 ·exact hL y hy
def Tn (N:Nat)(l:Law)(a:Sl Sound->Int->Option Tl)(x5:Sl Sound)(x6:Int):Option Tl:=
 if (decide ((wrap .i64 (x6+(l.If.n:Int)))<=(x5.n:Int))) then
  (BS N l x5 x6).bind fun c=>
  if (!c) then
   a x5 (wrap .i64 (x6+1))
  else
   (P9 N l x5 x6).bind fun b=>
   Av (x6,b) (
    if ((l.If.n:Int)==0) then
     a b (wrap .i64 ((wrap .i64 (x6+(l.Out.n:Int)))+1))
    else
     a b (wrap .i64 (x6+(l.Out.n:Int)))
    )
 else
  some []
abbrev Ar5:=(Sl Int)×(Sl (Sl Sound))×Int
def To (N:Nat)(l:Law)(a:Sl Sound->Sl Int->Sl (Sl Sound)->Int->Option Ar5)(x1:Sl Sound)(x2:Sl Int)(x3:Sl (Sl Sound))(x4:Int):Option Ar5:=
 if (decide ((wrap .i64 (x4+(l.If.n:Int)))<=(x1.n:Int))) then
  (Ah N l x1 x4).bind fun y5=>
  if (!y5) then
   a x1 x2 x3 (wrap .i64 (x4+1))
  else
   (P8 N l x1 x4).bind fun y6=>
   if (decide (32<(y6.n:Int))) then
    some ((Sl.nil:Sl Int),(Sl.nil:Sl (Sl Sound)),11)
   else
    if (((x2.n+(Sl.of [x4]:Sl Int).n)*8<=140737488355328/\x2.n+(Sl.of [x4]:Sl Int).n<=140737488355328)/\((x3.n+(Sl.of [y6]:Sl (Sl Sound)).n)*24<=140737488355328/\x3.n+(Sl.of [y6]:Sl (Sl Sound)).n<=140737488355328))then
     if ((l.If.n:Int)==0) then
      a y6 (x2.push x4) (x3.push y6) (wrap .i64 ((wrap .i64 (x4+(l.Out.n:Int)))+1))
     else
      a y6 (x2.push x4) (x3.push y6) (wrap .i64 (x4+(l.Out.n:Int)))
    else none
 else
  some (x2,x3,0)
theorem Af7 {N:Nat}(hN:3000<=N){l l' : Law}(hf:AH5 l)(s:LE l l'):∀(m:Nat) (w w' : Sl Sound) (i:Nat),SE w w' -> w.n<=100->(∀j,j<w.n->vS (w.g j))->i<=200->w.n+1<=i+m ->
 ∃L L',(∀M,m<M->P3 M (Tn N l) w i=some L)/\vL L/\L.length<=m/\RL L L' /\ ∀M x2 x3,m<M->x2.n+m<=1000->x3.n+m<=1000->Ai3 M (To N l') w' x2 x3 i=some (Jm x2 x3 L'):=by
 obtain⟨hl,_,_,hk,x,y,_,_⟩:=hf;have h6:=x.1;obtain⟨z,_,_,a0,a1,_,_,_⟩:=VD s ⟨hl,‹_›, ‹_›,hk,x,y,‹_›, ‹_›⟩;have c:l'.If.n=l.If.n:=s.cond.1.symm;have d:l'.Out.n=l.Out.n:=s.out.1.symm;intro m
 induction m with
 |zero=>
  intro w w' i a hn o hi hm;have a2:=a.1;refine⟨[],[],fun M q=>?_,Tm,AQ6 _,trivial,fun M x2 x3 q _ _=>?_⟩
  ·obtain⟨M,rfl⟩:∃K,M=K+1:=⟨M-1,by omega⟩;rw[E1,Tn,Db (by omega),if_neg (by simp;omega)]
  ·obtain⟨M,rfl⟩:∃K,M=K+1:=⟨M-1,by omega⟩;rw[T1,To,c,d,Db (by omega),if_neg (by simp;omega),Jm]
 |succ m ih=>
  intro w w' i a hn o hi hm;have a2:=a.1;by_cases hle:i+l.If.n<=w.n
  case neg=>
   refine⟨[],[],fun M q=>?_,Tm,by simp,trivial,fun M x2 x3 q _ _=>?_⟩
   ·obtain⟨M,rfl⟩:∃K,M=K+1:=⟨M-1,by omega⟩;rw[E1,Tn,Db (by omega),if_neg (by simp;omega)]
   ·obtain⟨M,rfl⟩:∃K,M=K+1:=⟨M-1,by omega⟩;rw[T1,To,c,d,Db (by omega),if_neg (by simp;omega),Jm]
  have hw:okW w:=⟨by omega,fun j hj=>(o j hj).ok⟩;have t:=a.v o;have hw' : okW w':=⟨by omega,fun j hj=>(t j hj).ok⟩;obtain⟨b,e1,h1⟩:=Ae8 hN hl hk hw i (by omega);obtain⟨b',e2,h2⟩:=QI hN z a0 hw' i (by omega);obtain rfl:b' = b:=by rw[AT3,h1,h2,Hu s a]
  cases b'
  ·obtain⟨L,L',g1,g2,g3,g5,g4⟩:=ih w w' (i+1) a hn o (by omega) (by omega);refine⟨L,L',fun M q=>?_,g2,by omega,g5,fun M x2 x3 q hx hy=>?_⟩
   ·obtain⟨M,rfl⟩:∃K,M=K+1:=⟨M-1,by omega⟩;rw[E1,Tn,Db (by omega),if_pos (by simp;omega),e1,AQ3,if_pos nf,C5 (by omega)];exact g1 M (by omega)
   ·obtain⟨M,rfl⟩:∃K,M=K+1:=⟨M-1,by omega⟩;rw[T1,To,c,d,Db (by omega),if_pos (by simp;omega),e2,AQ3,if_pos nf,C5 (by omega)];exact g4 M x2 x3 (by omega) (by omega) (by omega)
  ·have hit:=h1.1 rfl;have hw32:=hit.2.2.2.2.1.1;have r1:=(EX (N:=N) (by omega) x (by omega) o hle).1;have r2:=(EX (N:=N) (l:=l') (w:=w') (i:=i) (by omega) a1 (by omega) t (by omega)).2;have r:=JY (N:=N) s a hle;have hrn:=r.1;obtain⟨_,_,p3,p4⟩:=Gh (N:=N) (by omega) x o hle;obtain⟨q1,q2⟩:=Af4 hle o p4;have q1:(X5 N l w i).n=w.n-l.If.n+l.Out.n:=by rw[<- p3];exact q1
   have q2:∀j,j<(X5 N l w i).n->vS ((X5 N l w i).g j):=q2;obtain⟨L,L',g1,g2,g3,g5,g4⟩:=ih (X5 N l w i) (X5 N l' w' i) (if l.If.n=0 then i+l.Out.n+1 else i+l.Out.n) r (by omega) q2 (by split<;>omega) (by split<;>omega);refine⟨((i:Int),X5 N l w i)::L,((i:Int),X5 N l' w' i)::L',fun M q=>?_,VE q2 g2,by simp;omega,⟨rfl,r,g5⟩,fun M x2 x3 q hx hy=>?_⟩
   ·obtain⟨M,rfl⟩:∃K,M=K+1:=⟨M-1,by omega⟩;rw[E1,Tn,Db (by omega),if_pos (by simp;omega),e1,AQ3,if_neg (by simp),r1,AQ3,Db (by omega),C5 (by omega)];have g1:=g1 M (by omega);by_cases f:l.If.n=0
    ·rw[if_pos f]at g1;rw[if_pos (by simp[f]),g1];rfl
    ·rw[if_neg f]at g1;rw[if_neg (by simp[f]),g1];rfl
   ·obtain⟨M,rfl⟩:∃K,M=K+1:=⟨M-1,by omega⟩;rw[T1,To,c,d,Db (by omega),if_pos (by simp;omega),e2,AQ3,if_neg (by simp),r2,AQ3,Db (by omega),C5 (by omega),Jm];by_cases u:32<(X5 N l' w' i).n
    ·rw[if_pos (by simp;omega),if_pos u]
    rw[if_neg (by simp;omega),if_neg u,if_pos (by show ((x2.n+1)*8<=_/\x2.n+1<=_)/\(x3.n+1)*24<=_/\x3.n+1<=_;omega)];have g4:=g4 M (x2.push (i:Int)) (x3.push (X5 N l' w' i)) (by omega) (by show x2.n+1+m<=_;omega) (by show x3.n+1+m<=_;omega);by_cases f:l.If.n=0
    ·rw[if_pos f]at g4;rw[if_pos (by simp[f]),g4]
    ·rw[if_neg f]at g4;rw[if_neg (by simp[f]),g4]
def Af8 (N:Nat)(l:Law)(a:Sl Sound->Int->Option Tl)(x7:Sl Sound)(x8:Int):Option Tl:=
 if (decide (0<=x8)) then
  (BS N l x7 x8).bind fun c=>
  if (!c) then
   a x7 (wrap .i64 (x8-1))
  else
   (P9 N l x7 x8).bind fun b=>
   Av (x8,b) (
    a b (wrap .i64 (x8-(if (l.If.n:Int)<1 then 1 else (l.If.n:Int))))
    )
 else
  some []
def Af9 (N:Nat)(l:Law)(a:Sl Sound->Sl Int->Sl (Sl Sound)->Int->Option Ar5)(x1:Sl Sound)(x2:Sl Int)(x3:Sl (Sl Sound))(x4:Int):Option Ar5:=
 if (decide (0<=x4)) then
  (Ah N l x1 x4).bind fun y5=>
  if (!y5) then
   a x1 x2 x3 (wrap .i64 (x4-1))
  else
   (P8 N l x1 x4).bind fun y6=>
   if (decide (32<(y6.n:Int))) then
    some ((Sl.nil:Sl Int),(Sl.nil:Sl (Sl Sound)),11)
   else
    if (((x2.n+(Sl.of [x4]:Sl Int).n)*8<=140737488355328/\x2.n+(Sl.of [x4]:Sl Int).n<=140737488355328)/\((x3.n+(Sl.of [y6]:Sl (Sl Sound)).n)*24<=140737488355328/\x3.n+(Sl.of [y6]:Sl (Sl Sound)).n<=140737488355328))then
     if ((l.If.n:Int)==0) then
      a y6 (x2.push x4) (x3.push y6) (wrap .i64 ((wrap .i64 (x4-(l.If.n:Int)))-1))
     else
      a y6 (x2.push x4) (x3.push y6) (wrap .i64 (x4-(l.If.n:Int)))
    else none
 else
  some (x2,x3,0)
theorem Ar6 {N:Nat}(hN:3000<=N){l l' : Law}(hf:AH5 l)(r:LE l l'):∀(m:Nat) (w w' : Sl Sound) (i:Int),SE w w' -> w.n<=100->(∀j,j<w.n->vS (w.g j)) -> -100<=i->i+1<=m->m<=200 ->
 ∃L L',(∀M,m<M->P3 M (Af8 N l) w i=some L)/\vL L/\L.length<=m/\RL L L' /\ ∀M x2 x3,m<M->x2.n+m<=1000->x3.n+m<=1000->Ai3 M (Af9 N l') w' x2 x3 i=some (Jm x2 x3 L'):=by
 obtain⟨hl,_,_,hk,x,y,_,_⟩:=hf;have h6:=x.1;obtain⟨z,_,_,a0,a1,_,_,_⟩:=VD r ⟨hl,‹_›, ‹_›,hk,x,y,‹_›, ‹_›⟩;have c:l'.If.n=l.If.n:=r.cond.1.symm;have hof:l'.Out.n=l.Out.n:=r.out.1.symm;intro m
 induction m with
 |zero=>
  intro w w' i a hn d hi hm a2;have a3:=a.1;refine⟨[],[],fun M f=>?_,Tm,AQ6 _,trivial,fun M x2 x3 f _ _=>?_⟩
  ·obtain⟨M,rfl⟩:∃K,M=K+1:=⟨M-1,by omega⟩;rw[E1,Af8,if_neg (by simp;omega)]
  ·obtain⟨M,rfl⟩:∃K,M=K+1:=⟨M-1,by omega⟩;rw[T1,Af9,c,if_neg (by simp;omega),Jm]
 |succ m ih=>
  intro w w' i a hn d hi hm a2;have a3:=a.1;by_cases hle:0<=i
  case neg=>
   refine⟨[],[],fun M f=>?_,Tm,by simp,trivial,fun M x2 x3 f _ _=>?_⟩
   ·obtain⟨M,rfl⟩:∃K,M=K+1:=⟨M-1,by omega⟩;rw[E1,Af8,if_neg (by simp;omega)]
   ·obtain⟨M,rfl⟩:∃K,M=K+1:=⟨M-1,by omega⟩;rw[T1,Af9,c,if_neg (by simp;omega),Jm]
  obtain⟨k,rfl⟩:∃k:Nat,i=(k:Int):=⟨i.toNat,by omega⟩;have hw:okW w:=⟨by omega,fun j hj=>(d j hj).ok⟩;have s:=a.v d;have hw' : okW w':=⟨by omega,fun j hj=>(s j hj).ok⟩;obtain⟨b,e1,h1⟩:=Ae8 hN hl hk hw k (by omega);obtain⟨b',e2,h2⟩:=QI hN z a0 hw' k (by omega);obtain rfl:b' = b:=by rw[AT3,h1,h2,Hu r a]
  cases b'
  ·obtain⟨L,L',g1,g2,g3,g5,g4⟩:=ih w w' ((k:Int)-1) a hn d (by omega) (by omega) (by omega);refine⟨L,L',fun M f=>?_,g2,by omega,g5,fun M x2 x3 f hx hy=>?_⟩
   ·obtain⟨M,rfl⟩:∃K,M=K+1:=⟨M-1,by omega⟩;rw[E1,Af8,if_pos (by simp),e1,AQ3,if_pos nf,F1 (by omega) (by omega)];exact g1 M (by omega)
   ·obtain⟨M,rfl⟩:∃K,M=K+1:=⟨M-1,by omega⟩;rw[T1,Af9,c,if_pos (by simp),e2,AQ3,if_pos nf,F1 (by omega) (by omega)];exact g4 M x2 x3 (by omega) (by omega) (by omega)
  ·have t:=h1.1 rfl;have hle:=t.1;have hw32:=t.2.2.2.2.1.1;have r1:=(EX (N:=N) (by omega) x (by omega) d hle).1;have r2:=(EX (N:=N) (l:=l') (w:=w') (i:=k) (by omega) a1 (by omega) s (by omega)).2;have o:=JY (N:=N) r a hle;have hrn:=o.1;obtain⟨_,_,p3,p4⟩:=Gh (N:=N) (by omega) x d hle;obtain⟨q1,q2⟩:=Af4 hle d p4;have q1:(X5 N l w k).n=w.n-l.If.n+l.Out.n:=by rw[<- p3];exact q1
   have q2:∀j,j<(X5 N l w k).n->vS ((X5 N l w k).g j):=q2;obtain⟨L,L',g1,g2,g3,g5,g4⟩:=ih (X5 N l w k) (X5 N l' w' k) (if l.If.n=0 then (k:Int)-1 else (k:Int)-l.If.n) o (by omega) q2 (by split<;>omega) (by split<;>omega) (by omega);refine⟨((k:Int),X5 N l w k)::L,((k:Int),X5 N l' w' k)::L',fun M f=>?_,VE q2 g2,by simp;omega,⟨rfl,o,g5⟩,fun M x2 x3 f hx hy=>?_⟩
   ·obtain⟨M,rfl⟩:∃K,M=K+1:=⟨M-1,by omega⟩;rw[E1,Af8,if_pos (by simp),e1,AQ3,if_neg (by simp),r1,AQ3];have g1:=g1 M (by omega);by_cases q:l.If.n=0
    ·rw[if_pos q]at g1;rw[if_pos (by omega),F1 (by omega) (by omega),g1];rfl
    ·rw[if_neg q]at g1;rw[if_neg (by omega),F1 (by omega) (by omega),g1];rfl
   ·obtain⟨M,rfl⟩:∃K,M=K+1:=⟨M-1,by omega⟩;rw[T1,Af9,c,if_pos (by simp),e2,AQ3,if_neg (by simp),r2,AQ3,Jm];by_cases u:32<(X5 N l' w' k).n
    ·rw[if_pos (by simp;omega),if_pos u]
    rw[if_neg (by simp;omega),if_neg u,if_pos (by show ((x2.n+1)*8<=_/\x2.n+1<=_)/\(x3.n+1)*24<=_/\x3.n+1<=_;omega)];have g4:=g4 M (x2.push (k:Int)) (x3.push (X5 N l' w' k)) (by omega) (by show x2.n+1+m<=_;omega) (by show x3.n+1+m<=_;omega);rw[F1 (n:=(k:Int)-(l.If.n:Int)) (by omega) (by omega)];by_cases q:l.If.n=0
    ·rw[if_pos q]at g4;rw[if_pos (by simp[q]),F1 (by omega) (by omega),show (k:Int)-(l.If.n:Int)-1=(k:Int)-1 by omega,g4]
    ·rw[if_neg q]at g4;rw[if_neg (by simp[q]),g4]
end Go.AM
namespace Go.AM
open IntKind (wrap)
open Go.Proofs
abbrev AllS:=Sl Sound×Int×Int
def Kn (N:Nat)(l:Law)(q0:Sl Sound)(a:AllS->Option Tl)(x1:Int)(z1:AllS):Option Tl:=
 if (decide (x1<z1.2.1)) then
  a (z1.1,z1.2.1,z1.2.2)
 else
  if (((0:Int)<=(wrap .i64 (x1+z1.2.2))/\(wrap .i64 (x1+z1.2.2))<=(z1.1.n:Int))/\((0:Int)<=x1/\x1<=(wrap .i64 (x1+(l.If.n:Int)))/\(wrap .i64 (x1+(l.If.n:Int)))<=(q0.n:Int)))then
   (N3 N l (q0.sub x1.toNat (wrap .i64 (x1+(l.If.n:Int))).toNat)).bind fun y6=>
   if ((0:Int)<=(wrap .i64 (x1+(l.If.n:Int)))/\(wrap .i64 (x1+(l.If.n:Int)))<=(q0.n:Int))then
    (B1 N (Sl.of [z1.1.take (wrap .i64 (x1+z1.2.2)).toNat,y6,q0.drop (wrap .i64 (x1+(l.If.n:Int))).toNat]:Sl (Sl Sound))).bind fun y7=>
    Av (x1,y7) (
     a (y7,wrap .i64 (x1+(if (l.If.n:Int)<1 then 1 else (l.If.n:Int))),wrap .i64 ((wrap .i64 (z1.2.2+(l.Out.n:Int)))-(l.If.n:Int)))
     )
   else none
  else none
def AH7 (N:Nat)(a:Law)(b:Sl Sound)(c:Sl Int->Sl (Sl Sound)->Sl Sound->Int->Option Ar5)(x2:Sl Int)(x3:Sl (Sl Sound))(x4:Sl Sound)(x5:Int):Option Ar5:=
 if (decide (x5<=(b.n:Int))) then
  (Ah N a b x5).bind fun y5=>
  if (!y5) then
   lt (fun (z3:Sl Sound)=>
    c x2 x3 z3 (wrap .i64 (x5+1))
    ) fun k3=>
    if (decide (x5<(b.n:Int))) then
     if (((0:Int)<=x5/\x5<(b.n:Int))/\((x4.n+(Sl.of [b.g x5.toNat]:Sl Sound).n)*8<=140737488355328/\x4.n+(Sl.of [b.g x5.toNat]:Sl Sound).n<=140737488355328))then
      k3 (x4.push (b.g x5.toNat))
     else none
    else
     k3 x4
  else
   if ((0:Int)<=x5/\x5<=(wrap .i64 (x5+(a.If.n:Int)))/\(wrap .i64 (x5+(a.If.n:Int)))<=(b.n:Int))then
    (Bd N a (b.sub x5.toNat (wrap .i64 (x5+(a.If.n:Int))).toNat)).bind fun y6=>
    if ((x4.n+y6.n)*8<=140737488355328/\x4.n+y6.n<=140737488355328)then
     if ((x2.n+(Sl.of [x5]:Sl Int).n)*8<=140737488355328/\x2.n+(Sl.of [x5]:Sl Int).n<=140737488355328)then
      if (((((Sl.of []:Sl Sound).n+(x4.app y6).n)*8<=140737488355328/\(Sl.of []:Sl Sound).n+(x4.app y6).n<=140737488355328)/\((0:Int)<=(wrap .i64 (x5+(a.If.n:Int)))/\(wrap .i64 (x5+(a.If.n:Int)))<=(b.n:Int)))/\((((Sl.of []:Sl Sound).app (x4.app y6)).n+(b.drop (wrap .i64 (x5+(a.If.n:Int))).toNat).n)*8<=140737488355328/\((Sl.of []:Sl Sound).app (x4.app y6)).n+(b.drop (wrap .i64 (x5+(a.If.n:Int))).toNat).n<=140737488355328))then
       if (decide (32<((((Sl.of []:Sl Sound).app (x4.app y6)).app (b.drop (wrap .i64 (x5+(a.If.n:Int))).toNat)).n:Int))) then
        some ((Sl.nil:Sl Int),(Sl.nil:Sl (Sl Sound)),11)
       else
        if ((x3.n+(Sl.of [((Sl.of []:Sl Sound).app (x4.app y6)).app (b.drop (wrap .i64 (x5+(a.If.n:Int))).toNat)]:Sl (Sl Sound)).n)*24<=140737488355328/\x3.n+(Sl.of [((Sl.of []:Sl Sound).app (x4.app y6)).app (b.drop (wrap .i64 (x5+(a.If.n:Int))).toNat)]:Sl (Sl Sound)).n<=140737488355328)then
         if ((a.If.n:Int)==0) then
          if (decide ((wrap .i64 (x5+(a.If.n:Int)))<(b.n:Int))) then
           if (((0:Int)<=(wrap .i64 (x5+(a.If.n:Int)))/\(wrap .i64 (x5+(a.If.n:Int)))<(b.n:Int))/\(((x4.app y6).n+(Sl.of [b.g (wrap .i64 (x5+(a.If.n:Int))).toNat]:Sl Sound).n)*8<=140737488355328/\(x4.app y6).n+(Sl.of [b.g (wrap .i64 (x5+(a.If.n:Int))).toNat]:Sl Sound).n<=140737488355328))then
            c (x2.push x5) (x3.push (((Sl.of []:Sl Sound).app (x4.app y6)).app (b.drop (wrap .i64 (x5+(a.If.n:Int))).toNat))) ((x4.app y6).push (b.g (wrap .i64 (x5+(a.If.n:Int))).toNat)) (wrap .i64 ((wrap .i64 (x5+(a.If.n:Int)))+1))
           else none
          else
           c (x2.push x5) (x3.push (((Sl.of []:Sl Sound).app (x4.app y6)).app (b.drop (wrap .i64 (x5+(a.If.n:Int))).toNat))) (x4.app y6) (wrap .i64 ((wrap .i64 (x5+(a.If.n:Int)))+1))
         else
          c (x2.push x5) (x3.push (((Sl.of []:Sl Sound).app (x4.app y6)).app (b.drop (wrap .i64 (x5+(a.If.n:Int))).toNat))) (x4.app y6) (wrap .i64 (x5+(a.If.n:Int)))
        else none
      else none
     else none
    else none
   else none
 else
  some (x2,x3,0)
abbrev vW (s:Sl Sound):Prop:=∀j,j<s.n->vS (s.g j)
theorem Aw4 {s t:Sl Sound}(h:vW s)(h' : vW t):vW (s.app t):=fun j a=>by
 have a:j<s.n+t.n:=a;show vS (if j<s.n then s.g j else t.g (j-s.n));split
 ·exact h j (by assumption)
 ·exact h' _ (by omega)
theorem AF4 {s:Sl Sound}(h:vW s)(k:Nat):vW (s.drop k):=fun j a=>h _ (by have a:j<s.n-k:=a;omega)
theorem AF5 {s:Sl Sound}(h:vW s){k:Nat}(hk:k<=s.n):vW (s.take k):=fun j a=>h _ (by have a:j<k:=a;omega)
theorem Tp {x s:Sl Sound}{i:Nat}(b:i<s.n):SE (x.app (s.drop i)) ((x.push (s.g i)).app (s.drop (i+1))):=⟨by show x.n+(s.n-i)=x.n+1+(s.n-(i+1));omega,fun j _=>by
 show (if j<x.n then x.g j else s.g (i+(j-x.n)))=if j<x.n+1 then (if j<x.n then x.g j else s.g i)else s.g (i+1+(j-(x.n+1)))
 by_cases h1:j<x.n
 ·rw[if_pos h1,if_pos (by omega),if_pos h1]
 ·rw[if_neg h1];by_cases a:j=x.n
  ·rw[if_pos (by omega),if_neg h1,a];simp
  ·rw[if_neg (by omega)];congr 1;omega⟩
theorem Ar7 {a x t:Sl Sound}(h:SE a (x.app t)):SE (a.take x.n) x:=⟨rfl,fun j b=>by
 have b:j<x.n:=b;have hn:a.n=x.n+t.n:=h.1;have e:a.g j=if j<x.n then x.g j else t.g (j-x.n):=h.2 j (by omega)
 rw[if_pos b]at e;exact e⟩
theorem Xb {N:Nat}{l:Law}{w:Sl Sound}{K:AllS->Option Tl}{acc:Sl Sound}{next sh:Int}:∀(d i:Nat),((i+d:Nat):Int)<=next->O7 (DI l w i) (Kn N l w) K (acc,next,sh)=O7 (DI l w (i+d)) (Kn N l w) K (acc,next,sh)
 |0,i,_=>rfl
 |d+1,i,h=>by
  have ih:=Xb (N:=N) (l:=l) (w:=w) (K:=K) (acc:=acc) (next:=next) (sh:=sh) d (i+1) (by omega);rw[show i+(d+1)=i+1+d by omega,<- ih];by_cases a:OZ l w i
  ·rw[IB (by have:=a.1;omega) a];show Kn N l w (O7 (DI l w (i+1)) (Kn N l w) K) (i:Int) (acc,next,sh)=_;unfold Kn;rw[if_pos (by simp;omega)]
  ·rw[IC a]
theorem AF6 {N:Nat}(hN:3000<=N){l l' : Law}(hf:AH5 l)(he:LE l l'){w w' : Sl Sound}(b:SE w w')(hn:w.n<=32)(hv:vW w):∀(m i:Nat) (x4 acc:Sl Sound) (sh next:Int),i<=w.n+1->w.n+1<=i+m ->
 (i<=w.n->SE acc (x4.app (w'.drop i))/\(x4.n:Int)=i+sh)->next<=i->x4.n<=7*i->vW acc -> -1000<=sh->sh<=1000 ->
 ∃L L',O7 (DI l w i) (Kn N l w) (fun _=>some []) (acc,next,sh)=some L/\vL L/\L.length<=m/\RL L L' /\ ∀M x2 x3,m<M->x2.n+m<=1000->x3.n+m<=1000->Ai3 M (AH7 N l' w') x2 x3 x4 i=some (Jm x2 x3 L'):=by
 obtain⟨hl,_,_,hk,ho,hko,_,_⟩:=hf;have h6:=ho.1;obtain⟨hl',_,_,hk',ho',_,_,_⟩:=VD he ⟨hl,‹_›, ‹_›,hk,ho,hko,‹_›, ‹_›⟩;have d:l'.If.n=l.If.n:=he.cond.1.symm;have hn':=b.1;have hw:okW w:=⟨by omega,fun j hj=>(hv j hj).ok⟩;have r : vW w':=b.v hv;have hw' : okW w':=⟨by omega,fun j hj=>(r j hj).ok⟩;have fin:∀(m i:Nat) (x4 acc:Sl Sound) (sh next:Int),w.n<i->∃L L',O7 (DI l w i) (Kn N l w) (fun _=>some []) (acc,next,sh)=some L/\vL L/\L.length<=m/\RL L L' /\ ∀M x2 x3,m<M->x2.n+m<=1000->x3.n+m<=1000->Ai3 M (AH7 N l' w') x2 x3 x4 i=some (Jm x2 x3 L'):=by
  intro m i x4 acc sh next hi
  refine⟨[],[],by rw[Jk (by omega)];rfl,Tm,by simp,trivial,fun M x2 x3 hM _ _=>?_⟩;obtain⟨M,rfl⟩:∃K,M=K+1:=⟨M-1,by omega⟩;rw[T1,AH7,if_neg (by simp;omega),Jm]
 intro m
 induction m with
 |zero=>exact fun i x4 acc sh next h1 t _ _ _ _ _ _=>fin 0 i x4 acc sh next (by omega)
 |succ m ih=>
  intro i x4 acc sh next hi hm hx hnx h7 f u x
  by_cases hle:i<=w.n
  case neg=>exact fin _ i x4 acc sh next (by omega)
  obtain⟨o,hnn⟩:=hx hle;have han:acc.n=x4.n+(w.n-i):=by rw[o.1];show x4.n+(w'.n-i)=_;omega
  obtain⟨b',e2,t⟩:=QI hN hl' hk' hw' i (by omega);have t:=t.trans (Hu he b).symm;cases b'
  ·have hno:¬OZ l w i:=fun h=>by have:=t.2 h;cases this
   rw[IC hno];by_cases y:i<w.n
   ·obtain⟨L,L',g1,g2,g3,g5,g4⟩:=ih (i+1) (x4.push (w'.g i)) acc sh next (by omega) (by omega) (fun _=>⟨o.trans (Tp (by omega)),by show ((x4.n+1:Nat):Int)=_;omega⟩) (by omega) (by show x4.n+1<=_;omega) f u x
    refine⟨L,L',g1,g2,by omega,g5,fun M x2 x3 hM hx hy=>?_⟩;obtain⟨M,rfl⟩:∃K,M=K+1:=⟨M-1,by omega⟩;rw[T1,AH7,d,if_pos (by simp;omega),e2,AQ3,if_pos nf,lt,if_pos (by simp;omega),if_pos ⟨by omega,by show (x4.n+1)*8<=_/\x4.n+1<=_;omega⟩,C5 (by omega),AQ1];exact g4 M x2 x3 (by omega) (by omega) (by omega)
   ·obtain⟨L,L',g1,g2,g3,g5,g4⟩:=ih (i+1) x4 acc sh next (by omega) (by omega) (fun h=>by omega) (by omega) (by omega) f u x
    refine⟨L,L',g1,g2,by omega,g5,fun M x2 x3 hM hx hy=>?_⟩;obtain⟨M,rfl⟩:∃K,M=K+1:=⟨M-1,by omega⟩;rw[T1,AH7,d,if_pos (by simp;omega),e2,AQ3,if_pos nf,lt,if_neg (by simp;omega),C5 (by omega)];exact g4 M x2 x3 (by omega) (by omega) (by omega)
  ·have z:=t.1 rfl;have a0:=z.1;rw[IB hle z];obtain⟨p1,_,p3,p4⟩:=Gh (N:=N) (by omega) ho hv a0;obtain⟨_,p2,_,_⟩:=Gh (N:=N) (l:=l') (i:=i) (by omega) ho' r (by omega);rw[<- MF he b a0,d]at p2;generalize hY:GB N l w i=Y at p1 p2 p3 p4;have c:SE (((acc.take x4.n).app Y).app (w.drop (i+l.If.n))) ((x4.app Y).app (w'.drop (i+l.If.n))):=((Ar7 o).app (SE.refl _)).app (b.drop _);have q:vW (((acc.take x4.n).app Y).app (w.drop (i+l.If.n))):=Aw4 (Aw4 (AF5 f (by omega)) p4) (AF4 hv _);generalize hZ:(((acc.take x4.n).app Y).app (w.drop (i+l.If.n)))=Z at c q;have hZn:Z.n=x4.n+Y.n+(w.n-(i+l.If.n)):=by rw[<- hZ]
   obtain⟨L,L',g1,g2,g3,g5,g4⟩:=ih (if l.If.n=0 then i+1 else i+l.If.n) (if l.If.n=0/\i<w.n then (x4.app Y).push (w'.g i)else x4.app Y) Z (sh+l.Out.n-l.If.n) (if l.If.n=0 then i+1 else i+l.If.n:Nat)
    (by split<;>omega) (by split<;>omega)
    (fun h=>by
     by_cases a:l.If.n=0
     ·rw[if_pos a]at h;rw[if_pos a,if_pos ⟨a,by omega⟩];rw[a]at c;exact⟨c.trans (Tp (by omega)),by show ((x4.n+Y.n+1:Nat):Int)=_;omega⟩
     ·rw[if_neg a,if_neg (by omega)];exact⟨c,by show ((x4.n+Y.n:Nat):Int)=_;omega⟩)
    (by omega)
    (by
     by_cases a:l.If.n=0
     ·rw[if_pos a];split
      ·show x4.n+Y.n+1<=_;omega
      ·show x4.n+Y.n<=_;omega
     ·rw[if_neg a,if_neg (by omega)];show x4.n+Y.n<=_;omega)
    q (by omega) (by omega)
   refine⟨((i:Int),Z)::L,((i:Int),(x4.app Y).app (w'.drop (i+l.If.n)))::L', ?_,VE q g2,by simp;omega,⟨rfl,c,g5⟩,fun M x2 x3 hM hx hy=>?_⟩
   ·show Kn N l w (O7 (DI l w (i+1)) (Kn N l w) fun _=>some []) (i:Int) (acc,next,sh)=_;unfold Kn;have es:wrap .i64 ((i:Int)+sh)=((x4.n:Nat):Int):=by rw[F1 (by omega) (by omega),hnn]
    simp only[es];rw[Db (by omega),if_neg (by simp;omega),if_pos (by omega)];simp only[AQ1];rw[p1,AQ3,if_pos (by omega),Af5 (by omega) (by show x4.n<=_;omega) (by omega) (by show w.n-(i+l.If.n)<=_;omega),AQ3,hZ];have en:wrap .i64 ((i:Int)+(if (l.If.n:Int)<1 then 1 else (l.If.n:Int)))=((if l.If.n=0 then i+1 else i+l.If.n:Nat):Int):=by
     by_cases a:l.If.n=0
     ·rw[if_pos (by omega),if_pos a,F1 (by omega) (by omega)];omega
     ·rw[if_neg (by omega),if_neg a,F1 (by omega) (by omega)];omega
    have eh:wrap .i64 ((wrap .i64 (sh+(l.Out.n:Int)))-(l.If.n:Int))=sh+l.Out.n-l.If.n:=by rw[F1 (n:=sh+(l.Out.n:Int)) (by omega) (by omega),F1 (by omega) (by omega)]
    rw[en,eh];have sk:=Xb (N:=N) (l:=l) (w:=w) (K:=fun _=>some []) (acc:=Z) (next:=((if l.If.n=0 then i+1 else i+l.If.n:Nat):Int)) (sh:=sh+l.Out.n-l.If.n) (if l.If.n=0 then 0 else l.If.n-1) (i+1) (by split<;>omega);rw[show i+1+(if l.If.n=0 then 0 else l.If.n-1)=(if l.If.n=0 then i+1 else i+l.If.n) by split<;>omega]at sk;show Av _ (O7 (DI l w (i+1)) (Kn N l w) (fun _=>some []) (Z,_,_))=_;rw[sk,g1];rfl
   ·obtain⟨M,rfl⟩:∃K,M=K+1:=⟨M-1,by omega⟩;have hdn:((x4.app Y).app (w'.drop (i+l.If.n))).n=x4.n+Y.n+(w'.n-(i+l.If.n)):=rfl;rw[T1,AH7,d,if_pos (by simp;omega),e2,AQ3,if_neg (by simp),Db (by omega),if_pos (by omega)];simp only[AQ1];rw[p2,AQ3,if_pos (by omega),if_pos (by show (x2.n+1)*8<=_/\x2.n+1<=_;omega)];rw[if_pos ⟨⟨by show (0+(x4.n+Y.n))*8<=_/\0+(x4.n+Y.n)<=_;omega,by omega⟩,by simp only[Ba4];omega⟩,Jm];by_cases a1:32<((x4.app Y).app (w'.drop (i+l.If.n))).n
    ·rw[if_pos (by simp only[decide_eq_true_eq,Ba4];omega),if_pos a1]
    rw[if_neg (by simp only[decide_eq_true_eq,Ba4];omega),if_neg a1,AF0 (s:=(Sl.of []:Sl Sound)) rfl,if_pos (by show (x3.n+1)*24<=_/\x3.n+1<=_;omega)];have g4:=g4 M (x2.push (i:Int)) (x3.push ((x4.app Y).app (w'.drop (i+l.If.n)))) (by omega) (by show x2.n+1+m<=_;omega) (by show x3.n+1+m<=_;omega);by_cases a:l.If.n=0
    ·rw[if_pos (by simp[a])];rw[if_pos a]at g4;by_cases y:i<w.n
     ·rw[if_pos ⟨a,y⟩]at g4;rw[if_pos (by simp only[decide_eq_true_eq];omega),if_pos ⟨by omega,by show (x4.n+Y.n+1)*8<=_/\x4.n+Y.n+1<=_;omega⟩,C5 (by omega),show w'.g (i+l.If.n)=w'.g i by rw[a];rfl,show i+l.If.n+1=i+1 by omega];exact g4
     ·rw[if_neg (by omega)]at g4;rw[if_neg (by simp only[decide_eq_true_eq];omega),C5 (by omega),show i+l.If.n+1=i+1 by omega];exact g4
    ·rw[if_neg (by simp[a])];rw[if_neg a,if_neg (by omega)]at g4;exact g4
def trS (r r' : Ar5):Prop:=r.1=r'.1/\r.2.1.n=r'.2.1.n/\(∀i,i<r.2.1.n->SE (r.2.1.g i) (r'.2.1.g i))/\r.2.2=r'.2.2
theorem Aw5:∀(L L' : Tl) (x:Sl Int) (y y' : Sl (Sl Sound)),RL L L' -> y.n=y'.n->(∀i,i<y.n->SE (y.g i) (y'.g i))->trS (Jm x y L) (Jm x y' L')
 |[],[],x,y,y',_,h1,h2=>⟨rfl,h1,h2,rfl⟩
 |(p,v)::L,(q,u)::M,x,y,y',⟨h3,h4,h5⟩,h1,h2=>by
  subst h3;unfold Jm;rw[<- h4.1];split
  ·exact⟨rfl,rfl,fun i a=>absurd a (AT6 i),rfl⟩
  ·refine Aw5 L M _ _ _ h5 (by show y.n+1=y'.n+1;omega) fun i a=>?_;have a:i<y.n+1:=a;show SE (if i<y.n then y.g i else v) (if i<y'.n then y'.g i else u);rw[<- h1];split
   ·exact h2 i (by assumption)
   ·exact h4
 |[],_::_,_,_,_,h,_,_=>h.elim
 |_::_,[],_,_,_,h,_,_=>h.elim
theorem Ag0:∀(L:Tl) (x:Sl Int) (y:Sl (Sl Sound)),vL L->(∀i,i<y.n->wOk (y.g i))->(Jm x y L).2.2=11 \/ ((Jm x y L).2.2=0/\(Jm x y L).2.1.n<=y.n+L.length/\∀i,i<(Jm x y L).2.1.n->wOk ((Jm x y L).2.1.g i))
 |[],x,y,_,h=>.inr ⟨rfl,AQ6 _,h⟩
 |(p,v)::L,x,y,hv,h=>by
  unfold Jm;split
  ·exact .inl rfl
  ·have:=Ag0 L (x.push p) (y.push v) (fun z b=>hv z (AS6 _ b)) fun i d=>by
    show wOk (if i<y.n then y.g i else v);split
    ·exact h i (by assumption)
    ·exact⟨by omega,hv (p,v) (by simp)⟩
   rcases this with h|⟨h1,a,c⟩
   ·exact .inl h
   ·refine .inr ⟨h1,?_,c⟩;have a:_<=y.n+1+L.length:=a;simp only[AT1];omega
theorem Tq:∀(L:Tl) (x:Sl Int) (y:Sl (Sl Sound)),x.n+L.length<=100000->y.n+L.length<=100000 ->
 O7 L (fun (a:Sl Int×Sl (Sl Sound)->Option Ar5) (x1:Int×(Sl Sound)) (z1:(Sl Int)×(Sl (Sl Sound)))=>
  if (decide (32<(x1.2.n:Int))) then
   some ((Sl.nil:Sl Int),(Sl.nil:Sl (Sl Sound)),11)
  else
   if ((z1.1.n+(Sl.of [x1.1]:Sl Int).n)*8<=140737488355328/\z1.1.n+(Sl.of [x1.1]:Sl Int).n<=140737488355328)then
    if ((z1.2.n+(Sl.of [x1.2]:Sl (Sl Sound)).n)*24<=140737488355328/\z1.2.n+(Sl.of [x1.2]:Sl (Sl Sound)).n<=140737488355328)then
     a (z1.1.push x1.1,z1.2.push x1.2)
    else none
   else none
  ) (fun (z1:(Sl Int)×(Sl (Sl Sound)))=>
   some (z1.1,z1.2,0)
  ) (x,y)=some (Jm x y L)
 |[],x,y,_,_=>rfl
 |(p,v)::L,x,y,hx,hy=>by
  simp only[AT1]at hx hy;have ih:=Tq L (x.push p) (y.push v) (by show x.n+1+_<=_;omega) (by show y.n+1+_<=_;omega);rw[O7,Jm];by_cases h:32<v.n
  ·rw[if_pos (by simp;omega),if_pos h]
  ·rw[if_neg (by simp;omega),if_neg h,if_pos (by show (x.n+1)*8<=_/\x.n+1<=_;omega),if_pos (by show (y.n+1)*24<=_/\y.n+1<=_;omega)];exact ih
def trE (N:Nat)(l:Law)(w:Sl Sound)(r:Ar5):Prop:=(r.2.2=17/\¬chkAll N l) \/ (chkAll N l/\WX w r.2.2/\r.2.2≠0) \/ (chkAll N l/\wOk w/\(r.2.2=11 \/ (r.2.2=0/\r.2.1.n<=1000/\∀i,i<r.2.1.n->wOk (r.2.1.g i))))
theorem Ag1 (e:Int):trS ((Sl.nil:Sl Int),(Sl.nil:Sl (Sl Sound)),e) ((Sl.nil:Sl Int),(Sl.nil:Sl (Sl Sound)),e):=⟨rfl,rfl,fun i a=>absurd a (AT6 i),rfl⟩
theorem Xc {w w' : Sl Sound}(h:SE w w'){e:Int}(hw:WX w e):WX w' e:=by
 rcases hw with⟨h1,a⟩ | ⟨h1,⟨i,b,a⟩,c⟩ | ⟨h1,a⟩
 ·exact .inl ⟨by rw[<- h.1];exact h1,a⟩
 ·exact .inr (.inl ⟨by rw[<- h.1];exact h1,⟨i,by rw[<- h.1];exact b,by rw[<- h.2 i b];exact a⟩,c⟩)
 ·exact .inr (.inr ⟨h.wOk h1,a⟩)
theorem YV {w w' : Sl Sound}(h:SE w w')(hw:∀i,i<w.n->okS (w.g i)):∀i,i<w'.n->okS (w'.g i):=fun i a=>by rw[<- h.2 i (by rw[h.1];exact a)];exact hw i (by rw[h.1];exact a)
theorem Ag2 {N:Nat}(u:3000000<=N){l l' : Law}(hl:Km l)(hle:LE l l'){w w' : Sl Sound}(a:SE w w')(hw:∀i,i<w.n->okS (w.g i)) :∃r r',CV N l w=some r/\CT N l' w' = some r' /\ trS r r' /\ trE N l w r:=by
 obtain⟨e,e1,_,v⟩:=Ej u hl;obtain⟨e0,_,e2,q⟩:=Ej u (Ky hle hl);obtain rfl:=Tj (AF3 hle v) q;unfold CV CT EO EM;rw[e1,e2,AQ3,AQ3];rcases v with⟨rfl,hc⟩ | ⟨rfl,hc⟩
 case inr=>rw[if_pos (by decide),if_pos (by decide)];exact⟨_,_,rfl,rfl,Ag1 17,.inl ⟨rfl,hc⟩⟩
 rw[if_neg (by decide),if_neg (by decide)];obtain⟨e',e3,c⟩:=Gg (N:=N) (by omega) hw;obtain⟨e'',e4,j⟩:=Cy (N:=N) (by omega) (YV a hw);obtain rfl:=IA (Xc a c) j;rw[e3,e4];simp only[AQ3];by_cases d:e' = 0
 case neg=>rw[if_pos (by simpa using d),if_pos (by simpa using d)];exact⟨_,_,rfl,rfl,Ag1 e', .inr (.inl ⟨hc,c,d⟩)⟩
 rw[if_neg (by simp[d]),if_neg (by simp[d])];have b:wOk w:=(T5 c).1 d;have o:=hc.f hl;obtain⟨s,_,_,hk,ho,y,z,a0⟩:=id o;have hn:=b.1;have t:=a.1;have key:∃L L',By N w l (l.If.n:Int) (l.Out.n:Int)=some L/\vL L/\L.length<=100/\RL L L' /\
  (if (l'.Mode==1) then (FR N l' w').bind fun y2=>some (y2.1,y2.2.1,y2.2.2)
   else if (l'.Mode==2) then (CS N l' w').bind fun y3=>some (y3.1,y3.2.1,y3.2.2)
   else (Cv N l' w').bind fun y4=>some (y4.1,y4.2.1,y4.2.2))=some (Jm (Sl.nil:Sl Int) (Sl.nil:Sl (Sl Sound)) L'):=by
  unfold By;rw[hle.mode];by_cases c1:l.Mode=1
  ·rw[if_pos (show (l.Mode==1)=true by simp[c1]),if_pos (show (l.Mode==1)=true by simp[c1])];obtain⟨L,L',g1,g2,g3,g5,g4⟩:=AF6 (N:=N) (by omega) o hle a hn b.2 (w.n+1) 0 (Sl.nil:Sl Sound) w 0 0 (by omega) (by omega) (fun _=>⟨by rw[AF0 rfl];exact⟨a.1,fun i m=>by rw[a.2 i m];show _=w'.g (0+i);rw[AT2]⟩,rfl⟩) (by omega) (by show 0<=_;omega) b.2 (by omega) (by omega);have hh:=WZ (N:=N) (by omega) s hk (w:=w) (vOk b) 0 (by omega);refine⟨L,L', ?_,g2,by omega,g5,?_⟩
   ·show ((W9 N l w ((0:Nat):Int)).bind fun L1=>O7 L1 (Kn N l w) (fun _=>some []) (w,0,0))=_;rw[hh,AQ3];exact g1
   ·have:FR N l' w' = some _:=g4 N (Sl.nil:Sl Int) (Sl.nil:Sl (Sl Sound)) (by omega) (by show 0+_<=_;omega) (by show 0+_<=_;omega)
    rw[this];rfl
  rw[if_neg (show ¬(l.Mode==1)=true by simp[c1]),if_neg (show ¬(l.Mode==1)=true by simp[c1])];by_cases c2:l.Mode=2
  ·rw[if_pos (show (l.Mode==2)=true by simp[c2]),if_pos (show (l.Mode==2)=true by simp[c2])];obtain⟨L,L',g1,g2,g3,g5,g4⟩:=Af7 (N:=N) (by omega) o hle (w.n+1) w w' 0 a (by omega) b.2 (by omega) (by omega);refine⟨L,L',g1 N (by omega),g2,by omega,g5,?_⟩
   have:CS N l' w' = some _:=g4 N (Sl.nil:Sl Int) (Sl.nil:Sl (Sl Sound)) (by omega) (by show 0+_<=_;omega) (by show 0+_<=_;omega)
   rw[this];rfl
  ·have c3:l.Mode=3:=by omega
   rw[if_neg (show ¬(l.Mode==2)=true by simp[c2]),if_neg (show ¬(l.Mode==2)=true by simp[c2]),if_pos (show (l.Mode==3)=true by simp[c3])];obtain⟨L,L',g1,g2,g3,g5,g4⟩:=Ar6 (N:=N) (by omega) o hle (w.n+1) w w' ((w.n:Int)-(l.If.n:Int)) a (by omega) b.2 (by omega) (by omega) (by omega);refine⟨L,L', ?_,g2,by omega,g5,?_⟩
   ·rw[F1 (by omega) (by omega)];exact g1 N (by omega)
   ·have g4:=g4 N (Sl.nil:Sl Int) (Sl.nil:Sl (Sl Sound)) (by omega) (by show 0+_<=_;omega) (by show 0+_<=_;omega)
    have:Cv N l' w' = some (Jm (Sl.nil:Sl Int) (Sl.nil:Sl (Sl Sound)) L'):=by unfold Cv;rw[show wrap .i64 ((w'.n:Int)-(l'.If.n:Int))=(w.n:Int)-(l.If.n:Int) by rw[<- t, <- hle.cond.1,F1 (by omega) (by omega)]];exact g4
    rw[this];rfl
 obtain⟨L,L',g1,g2,g3,g5,g4⟩:=key;refine⟨Jm (Sl.nil:Sl Int) (Sl.nil:Sl (Sl Sound)) L,_,?_,g4,Aw5 L L' _ _ _ g5 rfl fun i m=>absurd m (AT6 i),.inr (.inr ⟨hc,b,?_⟩)⟩
 ·rw[Iw,AQ3];show ((By N w l (l.If.n:Int) (l.Out.n:Int)).bind _)=_;rw[g1,AQ3];exact Tq L _ _ (by show 0+_<=_;omega) (by show 0+_<=_;omega)
 ·rcases Ag0 L (Sl.nil:Sl Int) (Sl.nil:Sl (Sl Sound)) g2 fun i m=>absurd m (AT6 i)with h|⟨h1,x,h3⟩
  ·exact .inl h
  ·exact .inr ⟨h1,by have x:_<=0+L.length:=x;omega,h3⟩
end Go.AM
namespace Go.AM
open IntKind (wrap)
open Go.Proofs
def apE (N:Nat)(l:Law)(w:Sl Sound)(r:Sl Sound×Int):Prop:=(r.2=17/\¬chkAll N l) \/ (chkAll N l/\WX w r.2/\r.2≠0) \/ (chkAll N l/\wOk w/\(r.2=11 \/ (r.2=0/\wOk r.1)))
theorem ID {N:Nat}(o:3000000<=N){l l' : Law}(hl:Km l)(hle:LE l l'){w w' : Sl Sound}(b:SE w w')(hw:∀i,i<w.n->okS (w.g i)) :∃r r',Q3 N l w=some r/\Bw N l' w' = some r' /\ SE r.1 r'.1/\r.2=r'.2/\apE N l w r:=by
 obtain⟨⟨x,y,e⟩,⟨x',y',e'⟩,h1,q,⟨_,hn,hs,m⟩,ht⟩:=Ag2 o hl hle b hw;dsimp only at hn hs m;subst m;have t:=b.1;unfold trE at ht;dsimp only at ht;unfold Q3 Bw;rw[h1,q,AQ3,AQ3];dsimp only;by_cases a:e=0
 case neg=>
  rw[if_pos (show (e != 0)=true by simpa using a),if_pos (show (e != 0)=true by simpa using a)];refine⟨_,_,rfl,rfl,SE.refl _,rfl,?_⟩;rcases ht with h|h|⟨j,c,d⟩
  ·exact .inl h
  ·exact .inr (.inl h)
  ·exact .inr (.inr ⟨j,c,.inl (d.resolve_right fun h=>a h.1)⟩)
 rw[if_neg (show ¬(e != 0)=true by simp[a]),if_neg (show ¬(e != 0)=true by simp[a])];rcases ht with h|h|⟨j,c,d⟩
 ·exact absurd (h.1.symm.trans a) (by decide)
 ·exact absurd a h.2.2
 rcases d with d|⟨_,h6,u⟩
 ·exact absurd (d.symm.trans a) (by decide)
 have v:=c.1;by_cases hy:y.n=0
 ·rw[if_neg (show ¬decide ((0:Int)<(y.n:Int))=true by simp[hy]),if_pos (show ((y'.n:Int)==0)=true by simp[<- hn,hy]),if_pos (by show (0+w'.n)*8<=_/\0+w'.n<=_;omega),AF0 (s:=(Sl.of []:Sl Sound)) rfl];unfold A5;rw[if_pos (by omega)];exact⟨_,_,rfl,rfl,b,rfl,.inr (.inr ⟨j,c,.inr ⟨rfl,c⟩⟩)⟩
 ·have hk:=u (y.n-1) (by omega);have f:=hs (y.n-1) (by omega);have hb:=hk.1;have z:=f.1;have e1:wrap .i64 ((y.n:Int)-1)=((y.n-1:Nat):Int):=wrapP (by omega) (by omega);have e2:wrap .i64 ((y'.n:Int)-1)=((y.n-1:Nat):Int):=by rw[<- hn];exact e1
  rw[e1,e2,AQ1,if_pos (show decide ((0:Int)<(y.n:Int))=true by simp;omega),if_pos (by omega),if_neg (show ¬((y'.n:Int)==0)=true by simp;omega),if_pos ⟨by omega,by show (0+(y'.g (y.n-1)).n)*8<=_/\0+(y'.g (y.n-1)).n<=_;omega⟩,AF0 (s:=(Sl.of []:Sl Sound)) rfl];exact⟨_,_,rfl,rfl,f,rfl,.inr (.inr ⟨j,c,.inr ⟨rfl,hk⟩⟩)⟩
theorem Tr {N:Nat}{s:Sl Law}(m:s.n<N)(hs:s.n<1000000){f:Law->Option Bool}{b:Nat->Bool}(o:∀i,i<s.n->f (s.g i)=some (b i)) :∃r,C7 N s f=some r/\(r=true ↔ ∃i,i<s.n/\b i=true):=by
 unfold C7 E8
 have:∃y,S6 N (fun (a:Int->Option Int) (x1:Int)=>
  if (decide (x1<(s.n:Int))) then
   if ((0:Int)<=x1/\x1<(s.n:Int))then
    (f (s.g x1.toNat)).bind fun y3=>
    if y3 then
     some x1
    else
     a (wrap .i64 (x1+1))
   else none
  else
   some (-1)) 0=some y/\(0<=y ↔ ∃i,i<s.n/\b i=true):=by
  refine BB (fun i x1=>x1=(i:Int)/\∀j,j<i->b j=false) s.n _ m ⟨rfl,fun j c=>absurd c (by omega)⟩ ?_;rintro l i x1 q ⟨rfl,h⟩ d;by_cases hl:i<s.n
  ·refine ifT (by simp;omega) (ifT (by omega) (B4 (by rw[AQ1];exact o i hl) ?_));cases hb:b i
   ·refine ifF (by simp) (d hl _ ⟨C5 (by omega),fun j c=>?_⟩);by_cases e:j=i
    ·subst e;exact hb
    ·exact h j (by omega)
   ·exact ifT rfl ⟨i,rfl,fun _=>⟨i,hl,hb⟩,fun _=>by omega⟩
  ·refine ifF (by simp;omega) ⟨-1,rfl,fun h=>absurd h (by decide),?_⟩;rintro⟨j,c,hb⟩;rw[h j (by omega)]at hb;cases hb
 obtain⟨y,e,hy⟩:=this;exact B4 e ⟨_,rfl,by rw[decide_eq_true_eq];exact hy⟩
def Ko (N:Nat)(laws:Sl Law)(e:Int):Prop:=(64<laws.n/\e=12) \/ (laws.n<=64/\(∃i,i<laws.n/\¬chkAll N (laws.g i))/\e=17) \/ ((laws.n<=64/\∀i,i<laws.n->chkAll N (laws.g i))/\e=0)
theorem Gw {N:Nat}{laws:Sl Law}{e e' : Int}(h:Ko N laws e)(h' : Ko N laws e'):e=e':=by rcases h with⟨h,rfl⟩ | ⟨h,⟨i,b,a⟩,rfl⟩ | ⟨⟨h,a⟩,rfl⟩<;>rcases h' with⟨g,rfl⟩ | ⟨g,⟨j,c,g2⟩,rfl⟩ | ⟨⟨g,g2⟩,rfl⟩<;>first|rfl|(exfalso;omega)|exact absurd (g2 i b) a|exact absurd (a j c) g2
def LS (s t:Sl Law):Prop:=s.n=t.n/\∀i,i<s.n->LE (s.g i) (t.g i)
theorem LS.refl (s:Sl Law):LS s s:=⟨rfl,fun _ _=>LE.refl _⟩
theorem SE.ls {s t:Sl Law}(h:SE s t):LS s t:=⟨h.1,fun i a=>by rw[h.2 i a];exact LE.refl _⟩
theorem Ag3 {N:Nat}{laws laws' : Sl Law}(h:LS laws laws'){e:Int}(hw:Ko N laws e):Ko N laws' e:=by
 have hn:=h.1;rcases hw with⟨h1,a⟩ | ⟨h1,⟨i,c,a⟩,b⟩ | ⟨⟨h1,a⟩,b⟩
 ·exact .inl ⟨by omega,a⟩
 ·exact .inr (.inl ⟨by omega,⟨i,by omega,fun g=>a ((Da (h.2 i c)).2 g)⟩,b⟩)
 ·exact .inr (.inr ⟨⟨by omega,fun i c=>(Da (h.2 i (by omega))).1 (a i (by omega))⟩,b⟩)
def Ek (laws:Sl Law):Prop:=∀i,i<laws.n->Km (laws.g i)
theorem QL {laws laws' : Sl Law}(h:LS laws laws')(hl:Ek laws):Ek laws':=fun i a=>by exact Ky (h.2 i (by rw[h.1];exact a)) (hl i (by rw[h.1];exact a))
theorem Pb {N:Nat}(o:3000000<=N){laws:Sl Law}(hl:Ek laws):∃e,T9 N laws=some e/\Bu N laws=some e/\Ko N laws e:=by
 have h1:∃e,T9 N laws=some e/\Ko N laws e:=by
  unfold T9;by_cases hn:64<laws.n
  ·exact ifT (by simp;omega) ⟨12,rfl,.inl ⟨hn,rfl⟩⟩
  refine ifF (by simp;omega) ?_;have u:∀i,∃b,i<laws.n->P1 N (laws.g i)=some b/\(b=true ↔ ¬chkAll N (laws.g i)):=by
   intro i;by_cases a:i<laws.n
   ·obtain⟨e,e1,_,d⟩:=Ej o (hl i a);refine⟨e != 0,fun _=>⟨by unfold P1;rw[e1];rfl,?_⟩⟩;rcases d with⟨rfl,h⟩ | ⟨rfl,h⟩
    ·exact⟨fun h=>absurd h (by decide),fun g=>absurd h g⟩
    ·exact⟨fun _=>h,fun _=>by decide⟩
   ·exact⟨false,fun h=>absurd h a⟩
  obtain⟨f,l⟩:=AY2 u;obtain⟨r,e1,h1⟩:=Tr (N:=N) (s:=laws) (by omega) (by omega) (f:=fun u1=>P1 N u1) (fun i a=>(l i a).1);refine B4 e1 ?_;cases q:r
  ·refine ifF (by simp) ⟨0,rfl,.inr (.inr ⟨⟨by omega,fun i a=>AT8 fun hn=>?_⟩,rfl⟩)⟩
   have:=h1.2 ⟨i,a,(l i a).2.2 hn⟩
   rw[q]at this;cases this
  ·obtain⟨i,a,hb⟩:=h1.1 q;exact ifT rfl ⟨17,rfl,.inr (.inl ⟨by omega,⟨i,a,(l i a).2.1 hb⟩,rfl⟩)⟩
 have v:∃e,Bu N laws=some e/\Ko N laws e:=by
  unfold Bu;by_cases hn:64<laws.n
  ·exact ifT (by simp;omega) ⟨12,rfl,.inl ⟨hn,rfl⟩⟩
  refine ifF (by simp;omega) ?_;refine BB (fun i x1=>x1=(i:Int)/\∀j,j<i->chkAll N (laws.g j)) laws.n _ (by omega) ⟨rfl,fun j m=>absurd m (by omega)⟩ ?_;rintro t i x1 a ⟨rfl,h⟩ hs;by_cases c:i<laws.n
  ·obtain⟨e,_,e1,d⟩:=Ej o (hl i c);refine ifT (by simp;omega) (ifT (by omega) (B4 (by rw[AQ1];exact e1) ?_));rcases d with⟨rfl,hc⟩ | ⟨rfl,hc⟩
   ·refine ifF (by decide) (hs c _ ⟨C5 (by omega),fun j m=>?_⟩);by_cases e:j=i
    ·subst e;exact hc
    ·exact h j (by omega)
   ·exact ifT (by decide) ⟨17,rfl,.inr (.inl ⟨by omega,⟨i,c,hc⟩,rfl⟩)⟩
  ·exact ifF (by simp;omega) ⟨0,rfl,.inr (.inr ⟨⟨by omega,fun j m=>h j (by omega)⟩,rfl⟩)⟩
 obtain⟨e,e1,g1⟩:=h1;obtain⟨e',e2,g2⟩:=v;obtain rfl:=Gw g1 g2;exact⟨_,e1,e2,g1⟩
def Aw6 (l:Sl (Sl Sound))(e:Int):Prop:=(e=0/\∀i,i<l.n->wOk (l.g i)) \/ (∃i,i<l.n/\(∀j,j<i->wOk (l.g j))/\WX (l.g i) e/\e≠0)
theorem YW {N:Nat}(o:3000000<=N){l:Sl (Sl Sound)}(hn:l.n<2000000)(hw:∀i,i<l.n->∀j,j<(l.g i).n->okS ((l.g i).g j)) :∃e,S6 N (fun (a:Int->Option Int) (x1:Int)=>
  if (decide (x1<(l.n:Int))) then
   if ((0:Int)<=x1/\x1<(l.n:Int))then
    (K5 N (l.g x1.toNat)).bind fun y4=>
    if (y4 != 0) then
     some y4
    else
     a (wrap .i64 (x1+1))
   else none
  else
   some 0
  ) 0=some e/\Aw6 l e:=by
 refine BB (fun i x1=>x1=(i:Int)/\∀j,j<i->wOk (l.g j)) l.n _ (by omega) ⟨rfl,fun j d=>absurd d (by omega)⟩ ?_;rintro f i x1 q ⟨rfl,h⟩ hs;by_cases b:i<l.n
 ·obtain⟨e,e1,m⟩:=Gg (N:=N) (by omega) (hw i b);refine ifT (by simp;omega) (ifT (by omega) (B4 (by rw[AQ1];exact e1) ?_));by_cases c:e=0
  ·refine ifF (by simp[c]) (hs b _ ⟨C5 (by omega),fun j d=>?_⟩);by_cases e:j=i
   ·subst e;exact (T5 m).1 c
   ·exact h j (by omega)
  ·exact ifT (by simpa using c) ⟨e,rfl,.inr ⟨i,b,h,m,c⟩⟩
 ·exact ifF (by simp;omega) ⟨0,rfl,.inl ⟨rfl,fun j d=>h j (by omega)⟩⟩
theorem AF7 {w:Sl Sound}{e:Int}(h:Aw6 (Sl.of [w]:Sl (Sl Sound)) e):WX w e:=by
 rcases h with⟨rfl,h⟩ | ⟨i,a,_,h,_⟩
 ·exact .inr (.inr ⟨h 0 (by show 0<1;omega),rfl⟩)
 ·match i,a with
  |0,_=>exact h
theorem MG {N:Nat}(b:3000000<=N){laws:Sl Law}(hl:Ek laws){w:Sl Sound}(hw:∀i,i<w.n->okS (w.g i)) :∃e,An N laws (Sl.of [w]:Sl (Sl Sound))=some e/\((Ko N laws e/\e≠0) \/ (Ko N laws 0/\WX w e)):=by
 unfold An;obtain⟨e,e1,_,h1⟩:=Pb b hl;refine B4 e1 ?_;by_cases a:e=0
 case neg=>exact ifT (by simpa using a) ⟨e,rfl,.inl ⟨h1,a⟩⟩
 refine ifF (by simp[a]) (ifF (by show ¬decide ((256:Int)<((1:Nat):Int))=true;decide) ?_);obtain⟨e2,e3,c⟩:=YW (N:=N) b (l:=(Sl.of [w]:Sl (Sl Sound))) (by show 1<_;omega) fun i d=>by
  match i,d with
  |0,_=>exact hw
 exact⟨e2,e3,.inr ⟨a ▸ h1,AF7 c⟩⟩
def S8 (N:Nat)(c:Int)(q1:Sl Law)(a:Sl Sound->Int->Option Tl)(x1:Sl Sound)(x2:Int):Option Tl:=
 if (decide (x2<(q1.n:Int))) then
  if ((0:Int)<=x2/\x2<(q1.n:Int))then
   (Q3 N (q1.g x2.toNat) x1).bind fun y4=>
   if (y4.2 != 0) then
    if y4.2=c then some []else none
   else
    Av (wrap .i64 (x2+1),y4.1) (
     a y4.1 (wrap .i64 (x2+1))
     )
  else none
 else
  if c=0 then some []else none
theorem Q8 {N:Nat}{c:Int}{laws:Sl Law}{a:Sl Sound->Int->Option Tl}{w:Sl Sound}{i:Nat}(d:i<laws.n)(b:laws.n<=64){y:Sl Sound×Int}(h:Q3 N (laws.g i) w=some y) :S8 N c laws a w (i:Int)=if (y.2 != 0) then (if y.2=c then some []else none)else Av (((i+1:Nat):Int),y.1) (a y.1 ((i+1:Nat):Int)):=by unfold S8;rw[if_pos (show decide ((i:Int)<(laws.n:Int))=true by simp;omega),if_pos (by omega),AQ1,h,AQ3,C5 (by omega)]
abbrev AO3:=(Sl (Sl Sound))×Int
def Gi (N:Nat)(a:Sl Law)(b:Sl (Sl Sound)->Int->Option AO3)(x2:Sl (Sl Sound))(x3:Int):Option AO3:=
 if (decide (x3<(a.n:Int))) then
  if ((((0:Int)<=x3/\x3<(a.n:Int))/\((0:Int)<=x3/\x3<(x2.n:Int)))/\x3.toNat<x2.n)then
   (Bw N (a.g x3.toNat) (x2.g x3.toNat)).bind fun y7=>
   if (y7.2 != 0) then
    some ((Sl.nil:Sl (Sl Sound)),y7.2)
   else
    if ((x2.n+(Sl.of [y7.1]:Sl (Sl Sound)).n)*24<=140737488355328/\x2.n+(Sl.of [y7.1]:Sl (Sl Sound)).n<=140737488355328)then
     b (x2.push y7.1) (wrap .i64 (x3+1))
    else none
  else none
 else
  some (x2,0)
def IE:Sl Sound->Tl->Sl Sound
 |w,[]=>w
 |_,(_,v)::L=>IE v L
theorem IF:∀(L:Tl) (w:Sl Sound),O7 L (fun (a:Sl Sound->Option (Sl Sound)) (x1:Int×(Sl Sound)) (z1:Sl Sound)=>a x1.2) (fun (z1:Sl Sound)=>some z1) w=some (IE w L)
 |[],w=>rfl
 |(p,v)::L,w=>IF L v
def Dq (N:Nat)(laws:Sl Law):Prop:=laws.n<=64/\∀i,i<laws.n->chkAll N (laws.g i)
theorem Ag4 {N:Nat}(x:3000000<=N){laws laws' : Sl Law}(hl:Ek laws)(o:LS laws laws')(q:Dq N laws):∀(m i:Nat) (w w' : Sl Sound),SE w w' -> wOk w->i<=laws.n->laws.n<=i+m ->
 (∃L v',SE (IE w L) v' /\ wOk (IE w L)/\(∀M,m<M->P3 M (S8 N 0 laws) w i=some L)/\∀M x2,m<M->x2.n=i+1->x2.g i=w' -> ∃y,P3 M (Gi N laws') x2 i=some (y,0)/\y.n=laws.n+1/\y.g laws.n=v') \/
 ((∃L,∀M,m<M->P3 M (S8 N 0 laws) w i=none/\P3 M (S8 N 11 laws) w i=some L)/\∀M x2,m<M->x2.n=i+1->x2.g i=w' -> P3 M (Gi N laws') x2 i=some ((Sl.nil:Sl (Sl Sound)),11)):=by
 have z:=o.1;have b:=q.1;intro m
 induction m with
 |zero=>
  intro i w w' c hw hi hm;refine .inl ⟨[],w',c,hw,fun M d=>?_,fun M x2 d hx f=>⟨x2,?_,by omega,by rw[<- f];congr 1;omega⟩⟩
  ·obtain⟨M,rfl⟩:∃K,M=K+1:=⟨M-1,by omega⟩;rw[E1,S8,if_neg (by simp;omega),if_pos rfl]
  ·obtain⟨M,rfl⟩:∃K,M=K+1:=⟨M-1,by omega⟩;rw[E1,Gi,if_neg (by simp;omega)]
 |succ m ih=>
  intro i w w' c hw hi hm;by_cases a:i<laws.n
  case neg=>
   refine .inl ⟨[],w',c,hw,fun M d=>?_,fun M x2 d hx f=>⟨x2,?_,by omega,by rw[<- f];congr 1;omega⟩⟩
   ·obtain⟨M,rfl⟩:∃K,M=K+1:=⟨M-1,by omega⟩;rw[E1,S8,if_neg (by simp;omega),if_pos rfl]
   ·obtain⟨M,rfl⟩:∃K,M=K+1:=⟨M-1,by omega⟩;rw[E1,Gi,if_neg (by simp;omega)]
  obtain⟨⟨v,e⟩,⟨v',e'⟩,h1,r,s,t,l⟩:=ID x (hl i a) (o.2 i a) c fun j hj=>(hw.2 j hj).ok;simp only at s t;subst t;rcases l with⟨_,l⟩ | ⟨_,l,h6⟩ | ⟨_,_,l⟩
  ·exact absurd (q.2 i a) l
  ·exact absurd ((T5 l).2 hw) h6
  rcases l with rfl|⟨rfl,hv⟩
  ·refine .inr ⟨⟨[],fun M d=>?_⟩,fun M x2 d hx f=>?_⟩
   ·obtain⟨M,rfl⟩:∃K,M=K+1:=⟨M-1,by omega⟩;rw[E1,E1,Q8 a b h1,Q8 a b h1];exact⟨rfl,rfl⟩
   ·obtain⟨M,rfl⟩:∃K,M=K+1:=⟨M-1,by omega⟩;rw[E1,Gi,if_pos (by simp;omega),if_pos (by omega),AQ1,f,r,AQ3,if_pos (by simp)]
  ·rcases ih (i+1) v v' s hv (by omega) (by omega)with⟨L,u,g1,g2,g3,g4⟩ | ⟨⟨L,g1⟩,g2⟩
   ·refine .inl ⟨((i+1:Nat),v)::L,u,g1,g2,fun M d=>?_,fun M x2 d hx f=>?_⟩
    ·obtain⟨M,rfl⟩:∃K,M=K+1:=⟨M-1,by omega⟩;rw[E1,Q8 a b h1,if_neg (by simp)];show Av _ (P3 M (S8 N 0 laws) v _)=_;rw[g3 M (by omega)];rfl
    ·obtain⟨M,rfl⟩:∃K,M=K+1:=⟨M-1,by omega⟩;rw[E1,Gi,if_pos (by simp;omega),if_pos (by omega),AQ1,f,r,AQ3,if_neg (by simp),if_pos (by show (x2.n+1)*24<=_/\x2.n+1<=_;omega),C5 (by omega)];exact g4 M (x2.push v') (by omega) (by show x2.n+1=_;omega) (by show (if i+1<x2.n then x2.g (i+1)else v')=v';rw[if_neg (by omega)])
   ·refine .inr ⟨⟨((i+1:Nat),v)::L,fun M d=>?_⟩,fun M x2 d hx f=>?_⟩
    ·obtain⟨M,rfl⟩:∃K,M=K+1:=⟨M-1,by omega⟩;obtain⟨a1,a2⟩:=g1 M (by omega);rw[E1,E1,Q8 a b h1,Q8 a b h1,if_neg (by simp),if_neg (by simp)];refine⟨?_,?_⟩
     ·show Av _ (P3 M (S8 N 0 laws) v _)=_;rw[a1];rfl
     ·show Av _ (P3 M (S8 N 11 laws) v _)=_;rw[a2];rfl
    ·obtain⟨M,rfl⟩:∃K,M=K+1:=⟨M-1,by omega⟩;rw[E1,Gi,if_pos (by simp;omega),if_pos (by omega),AQ1,f,r,AQ3,if_neg (by simp),if_pos (by show (x2.n+1)*24<=_/\x2.n+1<=_;omega),C5 (by omega)];exact g2 M (x2.push v') (by omega) (by show x2.n+1=_;omega) (by show (if i+1<x2.n then x2.g (i+1)else v')=v';rw[if_neg (by omega)])
theorem Ar8 {N:Nat}{w:Sl Sound}(d:w.n<N)(hs:w.n<10000000):∃y,Cp N w=some y/\SE w y:=by
 suffices h:∃y,Cp N w=some y/\y=Bm w.g w.n by obtain⟨y,h,rfl⟩:=h;exact⟨_,h,(Ht _ _).symm,fun i b=>(Vz w.g b).symm⟩
 unfold Cp;refine Q7 (fun i x1 x2=>x2=(i:Int)/\x1=Bm w.g i) w.n _ d ⟨rfl,rfl⟩ ?_;rintro c i x1 x2 b ⟨rfl,rfl⟩ a;by_cases hl:i<w.n
 ·have:=Ht w.g i
  refine ifT (by simp;omega) (ifT ⟨by omega,by show ((Bm w.g i).n+1)*8<=_/\(Bm w.g i).n+1<=_;omega⟩ (a hl _ _ ⟨C5 (by omega),by rw[AQ1];rfl⟩))
 ·exact ifF (by simp;omega) ⟨_,rfl,by congr 1;omega⟩
def deE (N:Nat)(laws:Sl Law)(w:Sl Sound)(r:Sl Sound×Int):Prop:=(Ko N laws r.2/\r.2≠0) \/ (Ko N laws 0/\WX w r.2/\r.2≠0) \/ (Dq N laws/\wOk w/\(r.2=11 \/ (r.2=0/\wOk r.1)))
theorem lawsE_zero {N:Nat}{laws:Sl Law}:Ko N laws 0↔Dq N laws:=by
 constructor
 ·rintro (⟨_,h⟩ | ⟨_,_,h⟩ | ⟨h,_⟩)
  ·cases h
  ·cases h
  ·exact h
 ·exact fun h=>.inr (.inr ⟨h,rfl⟩)
theorem YX {N:Nat}(v:3000000<=N){laws laws' : Sl Law}(hl:Ek laws)(j:LS laws laws'){w w' : Sl Sound}(m:SE w w')(hw:∀i,i<w.n->okS (w.g i)) :∃r r',G0 N laws w=some r/\BP N laws' w' = some r' /\ SE r.1 r'.1/\r.2=r'.2/\deE N laws w r:=by
 obtain⟨e,e1,h1⟩:=MG v hl hw;obtain⟨a,_,a1,ha⟩:=Pb v (QL j hl);unfold G0 BP EN;rw[e1,a1,AQ3,AQ3];rcases h1 with⟨h1,u⟩ | ⟨h1,x⟩
 ·obtain rfl:=Gw (Ag3 j h1) ha;have d:(e != 0)=true:=by simpa using u
  have o:¬(e==0)=true:=by simpa using u
  rw[if_pos d,lt,if_neg o];dsimp only;rw[if_pos d,AQ3];dsimp only;rw[if_pos d];exact⟨_,_,rfl,rfl,SE.refl _,rfl,.inl ⟨h1,u⟩⟩
 obtain rfl:=Gw (Ag3 j h1) ha;rw[lt,if_pos (show ((0:Int)==0)=true from rfl)];obtain⟨b,b1,hb⟩:=Cy (N:=N) (by omega) (YV m hw);obtain rfl:=IA (Xc m x) hb;rw[b1,AQ3];dsimp only;by_cases u:e=0
 case neg=>
  have d:(e != 0)=true:=by simpa using u
  rw[if_pos d,if_pos d,AQ3];dsimp only;rw[if_pos d];exact⟨_,_,rfl,rfl,SE.refl _,rfl,.inr (.inl ⟨h1,x,u⟩)⟩
 have o:¬(e != 0)=true:=by simp[u]
 rw[if_neg o,if_neg o];have q:=lawsE_zero.1 h1;have s:wOk w:=(T5 x).1 u;have a0:=s.1;have a2:=m.1;have a3:=q.1;have a4:=j.1;obtain⟨y4,c1,c2⟩:=Ar8 (N:=N) (w:=w') (by omega) (by omega);have t:A5 N w=some w:=by unfold A5;rw[if_pos (by omega)]
 have l:∀c,C0 N c laws w=(Av (0,w) (P3 N (S8 N c laws) w 0)).bind fun L1=>O7 L1 (fun (f:Sl Sound->Option (Sl Sound)) (x1:Int×(Sl Sound)) (z1:Sl Sound)=>f x1.2) (fun (z1:Sl Sound)=>some z1) (Sl.nil:Sl Sound):=by intro c;unfold C0 Ao T4;rw[AQ3,t,AQ3];rfl
 have z:∀(x2:Sl (Sl Sound)),(P3 N (fun f (x2:Sl (Sl Sound)) (x3:Int)=>Gi N laws' f x2 x3) x2 0)=P3 N (Gi N laws') x2 ((0:Nat):Int):=fun _=>rfl;rw[c1,AQ3];rcases Ag4 v hl j q laws.n 0 w y4 (m.trans c2) s (by omega) (by omega)with⟨L,v',g1,g2,g3,g4⟩ | ⟨⟨L,g1⟩,g2⟩
 ·obtain⟨y,d1,d2,d3⟩:=g4 N (Sl.of [y4]:Sl (Sl Sound)) (by omega) rfl rfl
  have:F3 N laws w=some (IE w L,true):=by
   have e0:C0 N 0 laws w=some (IE w L):=by rw[l];have g3:P3 N (S8 N 0 laws) w 0=some L:=g3 N (by omega);rw[g3];exact IF _ _
   unfold F3;rw[e0]
  rw[this,AQ3,if_neg (by simp)];refine⟨_,(v',0),rfl,?_,g1,rfl,.inr (.inr ⟨q,s,.inr ⟨rfl,g2⟩⟩)⟩;show Option.bind (P3 N (Gi N laws') (Sl.of [y4]:Sl (Sl Sound)) ((0:Nat):Int)) _=_;rw[d1,AQ3,if_neg (by simp)];have ew:wrap .i64 ((y.n:Int)-1)=((laws.n:Nat):Int):=by rw[d2,F1 (by omega) (by omega)];omega
  simp only[ew,AQ1];rw[if_pos (by omega),d3]
 ·have:F3 N laws w=some ((Sl.nil:Sl Sound),false):=by
   obtain⟨g3,g4⟩:=g1 N (by omega);have g3:P3 N (S8 N 0 laws) w 0=none:=g3;have g4:P3 N (S8 N 11 laws) w 0=some L:=g4;have e0:C0 N 0 laws w=none:=by rw[l,g3];rfl
   have e11:C0 N 11 laws w=some (IE w L):=by rw[l,g4];exact IF _ _
   unfold F3;rw[e0,e11];rfl
  rw[this,AQ3,if_pos (by simp)];refine⟨_,((Sl.nil:Sl Sound),11),rfl,?_,SE.refl _,rfl,.inr (.inr ⟨q,s,.inl rfl⟩)⟩;show Option.bind (P3 N (Gi N laws') (Sl.of [y4]:Sl (Sl Sound)) ((0:Nat):Int)) _=_;rw[g2 N (Sl.of [y4]:Sl (Sl Sound)) (by omega) rfl rfl,AQ3,if_pos (by decide)]
end Go.AM
namespace Go.AM
open IntKind (wrap)
open Go.Proofs
theorem Ag5 {α : Type}(s:Sl α)(a : α):(s.push a).toList=s.toList++[a]:=by
 show (List.range (s.n+1)).map (fun i=>if i<s.n then s.g i else a)=_;rw[AZ4,AZ5];congr 1
 ·exact AT0 fun i b=>if_pos (AV7.1 b)
 ·simp
theorem tl_eq {α : Type}{s t:Sl α}:s.toList=t.toList↔SE s t:=by
 constructor
 ·intro h;have hn:s.n=t.n:=by rw[<- AN s,h,AN]
  refine⟨hn,fun i a=>?_⟩
  have:=congrArg (fun l=>l[i]?) h
  simpa[Sl.toList,a,hn ▸ a]using this
 ·rintro⟨h1,b⟩;unfold Sl.toList;rw[<- h1];exact AT0 fun i a=>b i (AV7.1 a)
theorem sEq (x y:Sound):((x.Plus==y.Plus)&&(x.Minus==y.Minus))=decide (x=y):=by cases x;cases y;rw[AT3];simp
theorem AF8 {N:Nat}{x y:Sl Sound}(l:x.n<N)(hs:x.n<10000000) :∃b,(if ((x.n:Int) != (y.n:Int)) then
 some false
 else
  S6 N (fun (a:Int->Option Bool) (x1:Int)=>
   if (decide (x1<(x.n:Int))) then
    if (((0:Int)<=x1/\x1<(x.n:Int))/\((0:Int)<=x1/\x1<(y.n:Int)))then
     if ((((x.g x1.toNat).Plus==(y.g x1.toNat).Plus)&&((x.g x1.toNat).Minus==(y.g x1.toNat).Minus)) != true) then
      some false
     else
      a (wrap .i64 (x1+1))
    else none
   else
    some true
   ) 0)=some b/\(b=true↔SE x y):=by
 by_cases hn:x.n=y.n
 case neg=>exact ifT (by simp;omega) ⟨false,rfl,by simp,fun h=>absurd h.1 hn⟩
 refine ifF (by simp[hn]) ?_;refine BB (fun i x1=>x1=(i:Int)/\∀j,j<i->x.g j=y.g j) x.n _ l ⟨rfl,fun j c=>absurd c (by omega)⟩ ?_;rintro f i x1 m ⟨rfl,h⟩ d;by_cases hl:i<x.n
 ·refine ifT (by simp;omega) (ifT (by omega) ?_);rw[AQ1,sEq];by_cases e:x.g i=y.g i
  ·refine ifF (by simp[e]) (d hl _ ⟨C5 (by omega),fun j c=>?_⟩);by_cases e2:j=i
   ·subst e2;exact e
   ·exact h j (by omega)
  ·exact ifT (by simp[e]) ⟨false,rfl,by simp,fun h=>absurd (h.2 i hl) e⟩
 ·exact ifF (by simp;omega) ⟨true,rfl,fun _=>⟨hn,fun j c=>h j (by omega)⟩,fun _=>rfl⟩
theorem VF {N:Nat}{x y:Sl Sound}(a:x.n<N)(hs:x.n<10000000):∃b,W0 N x y=some b/\(b=true↔SE x y):=AF8 a hs
abbrev okA (w:Sl Sound):Prop:=∀i,i<w.n->okS (w.g i)
end Go.AM
namespace Go.AM
open Go.Proofs
def dep:Nat->Pat->Prop
 |0,_=>False
 |d+1,p=>p.L.n<=40/\∀i,i<p.L.n->dep d (p.L.g i)
theorem Aw7:∀(d:Nat) (p:Pat),dep d p->∀e,d<=e->dep e p
 |0,_,h,_,_=>h.elim
 |d+1,p,h,0,he=>by omega
 |d+1,p,h,e+1,he=>⟨h.1,fun i a=>Aw7 d _ (h.2 i a) e (by omega)⟩
theorem Ts {N:Nat}(o:1000<=N):∀(d:Nat),d<=40->∀(p:Pat) (M:Nat),N+d+2<=M->∃r:Nat,Ay M p ((40-d:Nat):Int)=some (r:Int)/\40-d<r/\r<=41/\(r<=40->dep (d+1) p)
 |d,hd,p,0,hM=>by omega
 |d,hd,p,M+1,hM=>by
  have:∃x,Ay (M+1) p ((40-d:Nat):Int)=some x/\∃r:Nat,x=(r:Int)/\40-d<r/\r<=41/\(r<=40->dep (d+1) p):=by
   show ∃x,Bb (Ay M) M p _=some x/\_;unfold Bb;rw[C5 (by omega)];refine Q7 (fun i x1 x2=>x2=(i:Int)/\∃k:Nat,x1=(k:Int)/\40-d+1+i<=k/\k<=41/\i<=p.L.n/\(k<=40->∀j,j<i->dep d (p.L.g j))) 41 _ (by omega) ⟨rfl,40-d+1,rfl,by omega,by omega,by omega,fun _ j b=>absurd b (by omega)⟩ ?_;rintro f i x1 x2 q ⟨rfl,k,rfl,h1,c,s,l⟩ hs;by_cases hc:i<p.L.n/\k<=40
   ·refine ifT (by simp only[AQ5,decide_eq_true_eq];omega) (ifT (by omega) ?_);obtain⟨r,m,r1,r2,r3⟩:=Ts o (40-k) (by omega) (p.L.g i) M (by omega);rw[show ((40-(40-k):Nat):Int)=(k:Int) by omega]at m;refine B4 (by rw[AQ1];exact m) (hs (by omega) _ _ ⟨C5 (by omega),r,rfl,by omega,r2,by omega,fun a j b=>?_⟩);by_cases e:j=i
    ·subst e;exact Aw7 _ _ (r3 a) d (by omega)
    ·exact l hc.2 j (by omega)
   ·refine ifF (by simp only[AQ5,decide_eq_true_eq];omega) ⟨_,rfl,k,rfl,by omega,c,fun hk=>⟨by omega,fun j b=>l hk j (by omega)⟩⟩
  obtain⟨x,h1,r,rfl,c⟩:=this;exact⟨r,h1,c⟩
theorem MH:∀(d:Nat) (p:Pat),dep d p->∀M,100+d<=M->∃r,Y4 M p=some r
 |0,p,h,M,_=>h.elim
 |d+1,p,h,0,hM=>by omega
 |d+1,p,h,M+1,hM=>by
  suffices ∃r,Y4 (M+1) p=some r/\True by obtain⟨r,h,_⟩:=this;exact⟨r,h⟩
  show ∃x,W2 (Y4 M) M p=some x/\_;unfold W2;have hn:=h.1;refine Q7 (fun i x1 x2=>x2=(i:Int)) p.L.n _ (by omega) rfl ?_;rintro a i x1 x2 c rfl hs;by_cases hl:i<p.L.n
  ·obtain⟨r,b⟩:=MH d (p.L.g i) (h.2 i hl) M (by omega);exact ifT (by simp;omega) (ifT (by omega) (B4 (by rw[AQ1];exact b) (hs hl _ _ (C5 (by omega)))))
  ·exact ifF (by simp;omega) ⟨_,rfl,trivial⟩
theorem QM {N:Nat}(b:2000<=N)(p:Pat):∃r:Nat,Bs N p=some (r:Int)/\(r<=40->dep 41 p):=by obtain⟨r,h1,_,_,a⟩:=Ts (N:=1000) (by omega) 40 (by omega) p N (by omega);exact⟨r,by unfold Bs;rw[show Ay N p 0=some (r:Int) from h1];rfl,a⟩
theorem Ar9 {N:Nat}(f:2000<=N)(laws:Sl Law):∃r,Cs N laws=some r:=by
 suffices ∃r,Cs N laws=some r/\True by obtain⟨r,h,_⟩:=this;exact⟨r,h⟩
 unfold Cs;refine Q7 (fun i x1 x2=>x2=(i:Int)) 301 _ (by omega) rfl ?_;rintro d i x1 x2 s rfl hs;by_cases hc:i<laws.n/\i<=300
 ·refine ifT (by simp only[AQ5,decide_eq_true_eq];omega) (ifT (by omega) ?_);refine Q7 (fun j x7 x8=>x8=(j:Int)) 2 _ (by omega) rfl ?_;rintro b j x7 x8 t rfl a;by_cases hl:j<2
  ·refine ifT (by show decide ((j:Int)<((2:Nat):Int))=true;simp;omega) (ifT (by show (0:Int)<=(j:Int)/\(j:Int)<((2:Nat):Int);omega) ?_);obtain⟨r,l,m⟩:=QM f ((Sl.of [(laws.g (i:Int).toNat).Left,(laws.g (i:Int).toNat).Right]:Sl Pat).g (j:Int).toNat);refine B4 l ?_;by_cases c:r<=40
   ·obtain⟨q,o⟩:=MH 41 _ (m c) N (by omega);exact ifT (by simp;omega) (B4 o (a hl _ _ (C5 (by omega))))
   ·exact ifF (by simp;omega) (a hl _ _ (C5 (by omega)))
  ·exact ifF (by show ¬decide ((j:Int)<((2:Nat):Int))=true;simp;omega) (hs (by omega) _ _ (C5 (by omega)))
 ·exact ifF (by simp only[AQ5,decide_eq_true_eq];omega) ⟨_,rfl,trivial⟩
end Go.AM
namespace Go.AM
open IntKind (wrap)
open Go.Proofs
def NB (s:Str):Bool:=(decide (1<=s.length)&&decide (s.length<=24))&&s.all fun c=>QJ ((c.toNat:Nat):Int)
theorem Tt {N:Nat}{s:Str}(m:s.length<N)(hs:s.length<1000000000){let_:Int->Option Bool}(hl:∀y,let_ y=some (QJ y)){fin:Bool}(n:fin=(decide (1<=s.length)&&decide (s.length<=24))) :S6 N (fun (a:Int->Option Bool) (x1:Int)=>
  if (decide (x1<(s.length:Int))) then
   if ((0:Int)<=x1/\x1<(s.length:Int))then
    (let_ (Z0 s x1)).bind fun y3=>
    if (!y3) then
     some false
    else
     a (wrap .i64 (x1+1))
   else none
  else
   some fin
 ) 0=some (NB s):=by
 suffices h:∃b,S6 N (fun (a:Int->Option Bool) (x1:Int)=>
  if (decide (x1<(s.length:Int))) then
   if ((0:Int)<=x1/\x1<(s.length:Int))then
    (let_ (Z0 s x1)).bind fun y3=>
    if (!y3) then
     some false
    else
     a (wrap .i64 (x1+1))
   else none
  else
   some fin
  ) 0=some b/\b=NB s by obtain⟨b,h,rfl⟩:=h;exact h
 refine BB (fun i x1=>x1=(i:Int)/\∀j (h:j<s.length),j<i->QJ ((s[j].toNat:Nat):Int)=true) s.length _ m ⟨rfl,fun j _ f=>absurd f (by omega)⟩ ?_;rintro l i x1 q ⟨rfl,h⟩ g;by_cases d:i<s.length
 ·have eb:Z0 s (i:Int)=((s[i].toNat:Nat):Int):=by simp[Z0,d]
  refine ifT (by simp;omega) (ifT (by omega) (B4 (hl _) ?_));rw[eb];cases hb:QJ ((s[i].toNat:Nat):Int)
  ·refine ifT rfl ⟨false,rfl,?_⟩;symm;unfold NB;rw[Bg5]
   right
   rw[List.all_eq_false];exact⟨s[i],Bf5 d,by rw[hb];simp⟩
  ·refine ifF (by simp) (g d _ ⟨C5 (by omega),fun j f o=>?_⟩);by_cases e:j=i
   ·subst e;exact hb
   ·exact h j f (by omega)
 ·refine ifF (by simp;omega) ⟨_,rfl,?_⟩;unfold NB;rw[n]
  have:(s.all fun c=>QJ ((c.toNat:Nat):Int))=true:=AR8.2 fun c hc=>by obtain⟨j,f,rfl⟩:=Bd6 hc;exact h j f (by omega)
  rw[this,Bd5]
theorem Ag6 {N:Nat}{s:Str}(a:s.length<N)(hs:s.length<1000000000):BU N s=some (NB s):=by unfold BU;exact Tt a hs (fun y=>rfl) (by rw[AT3];simp;omega)
theorem As0 {N:Nat}{s:Str}(a:s.length<N)(hs:s.length<1000000000):Cw N s=some (NB s):=by unfold Cw;exact Tt a hs (fun y=>rfl) (by rw[AT3];simp;omega)
def AF9 (t:Sl G7)(v:Nat):Prop:=(v=0->(t.g 0).Parent = -1)/\(0<v->0<=(t.g v).Parent/\(t.g v).Parent<v)/\NB (t.g v).Name=true/\∀u,u<v->(t.g u).Name≠(t.g v).Name
def AO (t:Sl G7):Prop:=1<=t.n/\t.n<=63/\∀v,v<t.n->AF9 t v
def YY (t:Sl G7)(e:Int):Prop:=(e=0/\AO t) \/ (e=16/\¬AO t)
theorem YZ {t:Sl G7}{e e' : Int}(h:YY t e)(h' : YY t e'):e=e':=by
 rcases h with⟨rfl,h⟩ | ⟨rfl,h⟩<;>rcases h' with⟨rfl,h'⟩ | ⟨rfl,h'⟩
 ·rfl
 ·exact absurd h h'
 ·exact absurd h' h
 ·rfl
def MI (t:Sl G7):Prop:=∀v,v<t.n->(t.g v).Name.length<1100000
theorem Ag7 {N:Nat}(y:3000000<=N){t:Sl G7}(ht:MI t):∃e,AA N t=some e/\YY t e:=by
 unfold AA;by_cases z:t.n<1
 ·exact ifT (fun h=>absurd h (by simp;omega)) (ifT (by simp;omega) ⟨16,rfl,.inr ⟨rfl,fun h=>by have:=h.1;omega⟩⟩)
 refine ifT (fun _ _=>by omega) ?_;by_cases h1:63<t.n
 ·exact ifT (by simp;omega) ⟨16,rfl,.inr ⟨rfl,fun h=>by have:=h.2.1;omega⟩⟩
 by_cases m:(t.g 0).Parent = -1
 case neg=>exact ifT (by simp[m]) ⟨16,rfl,.inr ⟨rfl,fun h=>m ((h.2.2 0 (by omega)).1 rfl)⟩⟩
 refine ifF (by simp[m];omega) ?_;refine BB (fun i x1=>x1=(i:Int)/\∀j,j<i->AF9 t j) t.n _ (by omega) ⟨rfl,fun j x=>absurd x (by omega)⟩ ?_;rintro f i x1 hi ⟨rfl,h⟩ hs;by_cases a:i<t.n
 case neg=>exact ifF (by simp;omega) ⟨0,rfl,.inl ⟨rfl,by omega,by omega,fun v hv=>h v (by omega)⟩⟩
 refine ifT (by simp;omega) (ltX ?_);have b:=As0 (N:=N) (s:=(t.g i).Name) (by have:=ht i a;omega) (by have:=ht i a;omega);have rest:(0<i->0<=(t.g i).Parent/\(t.g i).Parent<i)->∃r,(if (!NB (t.g i).Name) then some 16 else
  S6 N (fun (d:Int->Option Int) (x7:Int)=>
   if (decide (x7<(i:Int))) then
    if (((0:Int)<=x7/\x7<(t.n:Int))/\((0:Int)<=(i:Int)/\(i:Int)<(t.n:Int)))then
     if (((t.g x7.toNat).Name==(t.g (i:Int).toNat).Name) != false) then
      some 16
     else
      d (wrap .i64 (x7+1))
    else none
   else
    f (wrap .i64 ((i:Int)+1))
   ) 0)=some r/\YY t r:=by
  intro hp;cases hb:NB (t.g i).Name
  ·exact ifT rfl ⟨16,rfl,.inr ⟨rfl,fun h=>by have:=(h.2.2 i a).2.2.1;rw[hb]at this;cases this⟩⟩
  refine ifF (by simp) ?_;refine BB (fun k x7=>x7=(k:Int)/\∀u,u<k->(t.g u).Name≠(t.g i).Name) i _ (by omega) ⟨rfl,fun u o=>absurd o (by omega)⟩ ?_;rintro q k x7 hk ⟨rfl,h'⟩ w;by_cases l:k<i
  ·refine ifT (by simp;omega) (ifT (by omega) ?_);rw[AQ1,AQ1];by_cases e:(t.g k).Name=(t.g i).Name
   ·exact ifT (by simp[e]) ⟨16,rfl,.inr ⟨rfl,fun h=>(h.2.2 i a).2.2.2 k l e⟩⟩
   ·refine ifF (by simp[e]) (w l _ ⟨C5 (by omega),fun u o=>?_⟩);by_cases e2:u=k
    ·subst e2;exact e
    ·exact h' u (by omega)
  ·refine ifF (by simp;omega) (hs a _ ⟨C5 (by omega),fun j x=>?_⟩);by_cases e:j=i
   ·subst e;exact⟨fun e=>by subst e;exact m,hp,hb,fun u o=>h' u (by omega)⟩
   ·exact h j (by omega)
 by_cases c:0<i
 ·refine ifT (by simp;omega) (ifT (by omega) ?_);rw[AQ1];by_cases g1:(t.g i).Parent<0
  ·exact ifT (by simpa using g1) (ifT rfl ⟨16,rfl,.inr ⟨rfl,fun h=>by have:=((h.2.2 i a).2.1 c).1;omega⟩⟩)
  refine ifF (by simpa using g1) (ifT (by omega) ?_);by_cases g2:(i:Int)<=(t.g i).Parent
  ·exact ifT (by simpa using g2) (ifT rfl ⟨16,rfl,.inr ⟨rfl,fun h=>by have:=((h.2.2 i a).2.1 c).2;omega⟩⟩)
  exact ifF (by simpa using g2) (ifT (by omega) (B4 b (rest fun _=>⟨by omega,by omega⟩)))
 ·exact ifF (by simp;omega) (ifT (by omega) (B4 (by rw[AQ1];exact b) (rest fun h=>absurd h c)))
theorem Jn {ν : Type}{k s:Str}{v : ν}:∀es:List (Str × ν),CG eqS s (PI eqS k v es)=if s=k then some v else CG eqS s es
 |[]=>by simp only[PI,CG];by_cases h:s=k<;>simp[eqS,h]
 |(a,x)::es=>by
  simp only[PI];by_cases h:k=a
  ·subst h;rw[if_pos (by simp[eqS])];simp only[CG];by_cases b:s=k<;>simp[eqS,b]
  ·rw[if_neg (by simp[eqS,h])];simp only[CG];rw[Jn es];by_cases b:s=k
   ·subst b;simp[eqS,h]
   ·simp[b]
theorem Xd {ν : Type}{k:Str}{v : ν}:∀{es:List (Str × ν)},CG eqS k es=none->(PI eqS k v es).length=es.length+1
 |[],_=>rfl
 |(a,x)::es,h=>by
  simp only[CG]at h;simp only[PI];by_cases e:eqS k a=true
  ·rw[if_pos e]at h;cases h
  ·rw[if_neg e]at h;rw[if_neg e,AT1,Xd h];rfl
theorem Xe {ν : Type}{k:Str}{v x : ν}:∀{es:List (Str × ν)},CG eqS k es=some x->(PI eqS k v es).length=es.length
 |[],h=>by cases h
 |(a,y)::es,h=>by
  simp only[CG]at h;simp only[PI];by_cases e:eqS k a=true
  ·rw[if_pos e];rfl
  ·rw[if_neg e]at h;rw[if_neg e,AT1,Xe h];rfl
theorem Ag8 {N:Nat}(m:3000000<=N){t:Sl G7}(ht:MI t):∃e,X1 N t=some e/\YY t e:=by
 unfold X1;by_cases o:t.n=0 \/ 63<t.n
 ·exact ifT (by simp;omega) ⟨16,rfl,.inr ⟨rfl,fun h=>by have g1:=h.1;have g2:=h.2.1;omega⟩⟩
 refine ifF (by simp;omega) ?_;refine Q7 (fun i (x2:List (Str×Bool)) x3=>x3=(i:Int)/\(∀j,j<i->AF9 t j)/\∀s,(CG eqS s x2=some true/\∃u,u<i/\(t.g u).Name=s) \/ (CG eqS s x2=none/\∀u,u<i->(t.g u).Name≠s)) t.n _ (by omega) ⟨rfl,fun j f=>absurd f (by omega),fun s=>.inr ⟨rfl,fun u c=>absurd c (by omega)⟩⟩ ?_;rintro l i x2 x3 q ⟨rfl,h,hm⟩ hs;by_cases a:i<t.n
 case neg=>exact ifF (by simp;omega) ⟨0,rfl,.inl ⟨rfl,by omega,by omega,fun v r=>h v (by omega)⟩⟩
 refine ifT (by simp;omega) (ifT (by omega) (ltX ?_));rw[AQ1];have b:=Ag6 (N:=N) (s:=(t.g i).Name) (by have:=ht i a;omega) (by have:=ht i a;omega);have e1:(if 0<wrap .i64 ((i:Int)-1)then (0:Int)else wrap .i64 ((i:Int)-1))=if i=0 then -1 else 0:=by rw[F1 (by omega) (by omega)];split<;>split<;>omega
 rw[e1];by_cases g1:(i:Int)<=(t.g i).Parent
 ·refine ifT (by simpa using g1) (ifT rfl ⟨16,rfl,.inr ⟨rfl,fun h=>?_⟩⟩);have hk:=h.2.2 i a;by_cases d:i=0
  ·subst d;have:=hk.1 rfl;omega
  ·have:=(hk.2.1 (by omega)).2;omega
 refine ifF (by simpa using g1) ?_;by_cases g2:(t.g i).Parent<if i=0 then -1 else 0
 ·refine ifT (by simpa using g2) (ifT rfl ⟨16,rfl,.inr ⟨rfl,fun h=>?_⟩⟩);have hk:=h.2.2 i a;by_cases d:i=0
  ·subst d;have:=hk.1 rfl;simp at g2;omega
  ·have:=(hk.2.1 (by omega)).1;simp[d]at g2;omega
 refine ifF (by simpa using g2) (B4 b ?_);cases hb:NB (t.g i).Name
 ·exact ifT rfl (ifT rfl ⟨16,rfl,.inr ⟨rfl,fun h=>by have:=(h.2.2 i a).2.2.1;rw[hb]at this;cases this⟩⟩)
 refine ifF (by simp) ?_;rcases hm (t.g i).Name with⟨e,u,c,hn⟩ | ⟨e,hn⟩
 ·rw[e];exact⟨16,rfl,.inr ⟨rfl,fun h=>(h.2.2 i a).2.2.2 u c hn⟩⟩
 rw[e,RN];refine ifF (show ¬false=true by simp) (hs a _ _ ⟨C5 (by omega),fun j f=>?_,fun s=>?_⟩)
 ·by_cases e:j=i
  ·subst e;refine⟨fun e=>?_,fun hp=>?_,hb,hn⟩
   ·subst e;simp at g2;omega
   ·have:¬j=0:=by omega
    simp[this]at g2;omega
  ·exact h j (by omega)
 ·rw[Jn];by_cases e:s=(t.g i).Name
  ·exact .inl ⟨by rw[if_pos e],i,by omega,e.symm⟩
  ·rw[if_neg e];rcases hm s with⟨g,u,c,hn⟩ | ⟨g,hn⟩
   ·exact .inl ⟨g,u,by omega,hn⟩
   ·refine .inr ⟨g,fun u c=>?_⟩;by_cases e2:u=i
    ·subst e2;exact fun h=>e h.symm
    ·exact hn u (by omega)
theorem QN {N:Nat}(a:3000000<=N){t:Sl G7}(ht:MI t):∃e,X1 N t=some e/\AA N t=some e/\YY t e:=by obtain⟨e,h1,b⟩:=Ag8 a ht;obtain⟨e',c,d⟩:=Ag7 a ht;obtain rfl:=YZ b d;exact⟨_,h1,c,b⟩
end Go.AM
namespace Go.AM
open IntKind (wrap)
open Go.Proofs
structure U7 (h:A7):Prop where
 laws:Ek h.Laws
 tree:MI h.Tree
 on:h.On.n<1100000
 len:∀v,v<h.On.n->(h.On.g v).n<1100000
def U3 (h:A7)(v:Nat):Sl Int:=
 if hp:0<=(h.Tree.g v).Parent/\(h.Tree.g v).Parent<v then (U3 h (h.Tree.g v).Parent.toNat).app (h.On.g v)else (Sl.nil:Sl Int).app (h.On.g v)
termination_by v
decreasing_by omega
theorem BC {h:A7}{v:Nat}(a:(h.Tree.g v).Parent<0):U3 h v=(Sl.nil:Sl Int).app (h.On.g v):=by rw[U3,dif_neg (by omega)]
theorem EY {h:A7}{v p:Nat}(a:(h.Tree.g v).Parent=(p:Int))(hp:p<v):U3 h v=(U3 h p).app (h.On.g v):=by rw[U3,dif_pos (by omega),a,AQ1]
theorem S4 {t:Sl G7}(ht:AO t){v:Nat}(a:v<t.n):(v=0/\(t.g v).Parent = -1) \/ ∃p:Nat,p<v/\(t.g v).Parent=(p:Int):=by
 have hk:=ht.2.2 v a;by_cases b:v=0
 ·subst b;exact .inl ⟨rfl,hk.1 rfl⟩
 ·obtain⟨g1,g2⟩:=hk.2.1 (by omega);exact .inr ⟨(t.g v).Parent.toNat,by omega,by omega⟩
theorem VG {h:A7}(a:U7 h)(ht:AO h.Tree)(hn:h.On.n=h.Tree.n):∀(m v:Nat),v<=m->v<h.Tree.n->(U3 h v).n<=(v+1)*1100000
 |m,v,hm,hv=>by
  have hl:=a.len v (by omega);rcases S4 ht hv with⟨_,e⟩ | ⟨p,hp,e⟩
  ·rw[BC (by omega)];show 0+(h.On.g v).n<=_;omega
  ·rw[EY e hp]
   match m with
   |0=>omega
   |m+1=>
    have:=VG a ht hn m p (by omega) (by omega)
    show (U3 h p).n+(h.On.g v).n<=_;have b:(p+1)*1100000+1100000<=(v+1)*1100000:=by omega
    omega
theorem MJ {h:A7}(a:U7 h)(ht:AO h.Tree)(hn:h.On.n=h.Tree.n):∀(M v:Nat),v+2<=M->v<h.Tree.n->AL M h (v:Int)=some (U3 h v)
 |0,v,hM,_=>by omega
 |M+1,v,hM,hv=>by
  have b:=ht.2.1;show X0 (AL M) M h (v:Int)=_;unfold X0;rw[if_neg (by simp),if_pos (by omega),AQ1];have hl:=a.len v (by omega);rcases S4 ht hv with⟨c,e⟩ | ⟨p,hp,e⟩
  ·rw[e,BC (by omega)]
   have:AL M h (-1)=some (Sl.nil:Sl Int):=by obtain⟨K,rfl⟩:∃K,M=K+1:=⟨M-1,by omega⟩;show X0 (AL K) K h (-1)=_;unfold X0;rw[if_pos (by decide)]
   rw[this,AQ3,if_pos ⟨by omega,by show (0+(h.On.g v).n)*8<=_/\0+(h.On.g v).n<=_;omega⟩]
  ·have hb:=VG a ht hn p p (AQ6 _) (by omega);rw[e,MJ a ht hn M p (by omega) (by omega),AQ3,EY e hp,if_pos ⟨by omega,by omega⟩]
def VH (h:A7):Prop:=∃v,v<h.On.n/\64<(U3 h v).n
def AG0 (h:A7)(v:Nat):Prop:=∃k,k<(h.On.g v).n/\((h.On.g v).g k<0 \/ (h.Laws.n:Int)<=(h.On.g v).g k)
def Ag9 (h:A7)(e:Int):Prop:=(VH h/\e=2) \/ (¬VH h/\(∃v,v<h.On.n/\AG0 h v)/\e=3) \/ (¬VH h/\(∀v,v<h.On.n->¬AG0 h v)/\e=0)
theorem Ah0 {N:Nat}(hN:3000000<=N){h:A7}(hi:U7 h)(ht:AO h.Tree)(hn:h.On.n=h.Tree.n):∃e,X2 N h=some e/\Ag9 h e:=by
 have h63:=ht.2.1;unfold X2;refine ifT (by omega) ?_;refine Ad4 (fun i (x4:Sl Int) (x5:Bool) x6=>x6=(i:Int)/\x4.n=h.On.n/\(∀v,v<i->x4.g v=((U3 h v).n:Int)/\(U3 h v).n<=64)/\(x5=true ↔ ∃v,v<i/\AG0 h v)) h.On.n _ (by omega) ⟨rfl,by show ((h.On.n:Nat):Int).toNat=_;omega,fun v b=>absurd b (by omega),⟨fun g=>(by cases g),fun⟨v,b,_⟩=>absurd b (by omega)⟩⟩ ?_;rintro m i x4 x5 x6 hle ⟨rfl,hx,hp,hb⟩ hs;by_cases o:i<h.On.n
 case neg=>
  refine ifF (by simp;omega) ?_;have hl:¬VH h:=fun⟨v,b,hl⟩=>by have:=(hp v (by omega)).2;omega
  cases x5
  ·exact ifF (by simp) ⟨0,rfl,.inr (.inr ⟨hl,fun v b g=>(by have:=hb.2 ⟨v,by omega,g⟩;cases this),rfl⟩)⟩
  ·obtain⟨v,b,g⟩:=hb.1 rfl;exact ifT rfl ⟨3,rfl,.inr (.inl ⟨hl,⟨v,by omega,g⟩,rfl⟩)⟩
 refine ifT (by simp;omega) (ifT (by rw[AQ1];omega) (ifT (by omega) (ltX ?_)));rw[AQ1];have hl:=hi.len i (by omega);have hlb:=VG hi ht hn i i (AQ6 _) (by omega);have rest:∀z:Sl Int,z.n=h.On.n->(∀v,v<i->z.g v=x4.g v)->z.g i=((U3 h i).n:Int)->∃r,(if (((0:Int)<=(i:Int)/\(i:Int)<(z.n:Int))/\i<z.n)then
  if (decide (64<(z.g i))) then
   some 2
  else
   P3 N (fun (d:Bool->Int->Option Int) (c:Bool) (a:Int)=>
    if (decide (a<((h.On.g i).n:Int))) then
     if ((0:Int)<=a/\a<((h.On.g i).n:Int))then
      d ((c||(decide (((h.On.g i).g a.toNat)<0)))||(decide ((h.Laws.n:Int)<=((h.On.g i).g a.toNat)))) (wrap .i64 (a+1))
     else none
    else
     m z c (wrap .i64 ((i:Int)+1))
    ) x5 0
  else none)=some r/\Ag9 h r:=by
  intro z hz u q;refine ifT (by omega) ?_;rw[q];by_cases w:64<(U3 h i).n
  ·exact ifT (by simp;omega) ⟨2,rfl,.inl ⟨⟨i,o,w⟩,rfl⟩⟩
  refine ifF (by simp;omega) ?_;refine Q7 (fun k (c:Bool) a=>a=(k:Int)/\(c=true↔(∃v,v<i/\AG0 h v) \/ ∃j,j<k/\j<(h.On.g i).n/\((h.On.g i).g j<0 \/ (h.Laws.n:Int)<=(h.On.g i).g j))) (h.On.g i).n _ (by omega) ⟨rfl,hb.trans ⟨fun g=>.inl g,fun g=>g.resolve_right fun⟨j,f,_⟩=>absurd f (by omega)⟩⟩ ?_;rintro x k c a hk ⟨rfl,s⟩ y;by_cases l:k<(h.On.g i).n
  ·refine ifT (by simp;omega) (ifT (by omega) (y l _ _ ⟨C5 (by omega),?_⟩));rw[AQ1,AS2,AS2,s,decide_eq_true_eq,decide_eq_true_eq];constructor
   ·rintro (((g|⟨j,f,g⟩)|g)|g)
    ·exact .inl g
    ·exact .inr ⟨j,by omega,g⟩
    ·exact .inr ⟨k,by omega,l,.inl g⟩
    ·exact .inr ⟨k,by omega,l,.inr g⟩
   ·rintro (g|⟨j,f,a0,g⟩)
    ·exact .inl (.inl (.inl g))
    ·by_cases e:j=k
     ·subst e;rcases g with g|g
      ·exact .inl (.inr g)
      ·exact .inr g
     ·exact .inl (.inl (.inr ⟨j,by omega,a0,g⟩))
  ·refine ifF (by simp;omega) (hs o _ _ _ ⟨C5 (by omega),hz,fun v b=>?_,s.trans ?_⟩)
   ·by_cases e:v=i
    ·subst e;exact⟨q,by omega⟩
    ·rw[u v (by omega)];exact hp v (by omega)
   ·constructor
    ·rintro (⟨v,b,g⟩ | ⟨j,_,f,g⟩)
     ·exact⟨v,by omega,g⟩
     ·exact⟨i,by omega,j,f,g⟩
    ·rintro⟨v,b,g⟩;by_cases e:v=i
     ·subst e;obtain⟨j,f,g⟩:=g;exact .inr ⟨j,by omega,f,g⟩
     ·exact .inl ⟨v,by omega,g⟩
 rcases S4 ht (v:=i) (by omega)with⟨_,e⟩ | ⟨p,t,e⟩
 ·rw[e];refine ifF (by decide) (rest _ hx (fun v b=>?_) ?_)
  ·show (if v=i then _ else x4.g v)=_;rw[if_neg (by omega)]
  ·show (if i=i then ((h.On.g i).n:Int)else _)=_;rw[if_pos rfl,BC (by omega)];show _=((0+(h.On.g i).n:Nat):Int);omega
 ·have a1:=hp p t;rw[e];refine ifT (by simp) (ifT ?_ ?_)
  ·show ((((((0:Int)<=(i:Int)/\(i:Int)<(x4.n:Int))/\i<x4.n)/\(0:Int)<=(p:Int)/\(p:Int)<(x4.n:Int))/\(p:Int).toNat<x4.n)/\(0:Int)<=(i:Int)/\(i:Int)<(x4.n:Int))/\i<x4.n;omega
  ·rw[AQ1];refine rest _ hx (fun v b=>?_) ?_
   ·show (if v=i then _ else if v=i then _ else x4.g v)=_;rw[if_neg (by omega),if_neg (by omega)]
   ·show (if i=i then wrap .i64 ((if i=i then ((h.On.g i).n:Int)else _)+(if p=i then _ else x4.g p))else _)=_;rw[if_pos rfl,if_pos rfl,if_neg (by omega),a1.1,EY e t,F1 (by omega) (by omega)];show _=(((U3 h p).n+(h.On.g i).n:Nat):Int);omega
end Go.AM
namespace Go.AM
open Go.Proofs
def AH8 (h:A7)(i:Nat):Prop:=∃u v,u<v/\v<i/\(h.Laws.g u).Name=(h.Laws.g v).Name
open Classical in
noncomputable def hres (N:Nat) (h:A7):Int:=
 if ¬AO h.Tree then 16 else if 64<h.Laws.n then 12 else if ∃i,i<h.Laws.n/\¬chkAll N (h.Laws.g i)then 17 else if AH8 h h.Laws.n then 6 else if h.On.n≠h.Tree.n then 2
 else if VH h then 2 else if ∃v,v<h.On.n/\AG0 h v then 3 else 0
structure Bk (N:Nat) (h:A7):Prop where
 tree:AO h.Tree
 laws:Dq N h.Laws
 dup:¬AH8 h h.Laws.n
 on:h.On.n=h.Tree.n
 long:¬VH h
 bad:∀v,v<h.On.n->¬AG0 h v
theorem hres_zero {N:Nat}{h:A7}:hres N h=0↔Bk N h:=by
 unfold hres;constructor
 ·intro g;split at g
  ·cases g
  split at g
  ·cases g
  split at g
  ·cases g
  split at g
  ·cases g
  split at g
  ·cases g
  split at g
  ·cases g
  split at g
  ·cases g
  rename_i h1 n c d f j l;exact⟨Be9.1 h1,⟨by omega,fun i a=>AT8 fun hn=>c ⟨i,a,hn⟩⟩,d,Be9.1 f,j,fun v b hb=>l ⟨v,b,hb⟩⟩
 ·intro g;have m:=g.laws.1;rw[if_neg (fun k=>k g.tree),if_neg (by omega),if_neg (fun⟨i,a,hn⟩=>hn (g.laws.2 i a)),if_neg g.dup,if_neg (fun k=>k g.on),if_neg g.long,if_neg (fun⟨v,b,hb⟩=>g.bad v b hb)]
theorem El {N:Nat}{h:A7}(h1:AO h.Tree)(a:Dq N h.Laws)(b:¬AH8 h h.Laws.n)(c:h.On.n=h.Tree.n){e:Int}(d:Ag9 h e):e=hres N h:=by
 have f:=a.1;unfold hres;rw[if_neg (fun k=>k h1),if_neg (by omega),if_neg (fun⟨i,j,hn⟩=>hn (a.2 i j)),if_neg b,if_neg (fun k=>k c)];rcases d with⟨g,rfl⟩ | ⟨g,g2,rfl⟩ | ⟨g,g2,rfl⟩
 ·rw[if_pos g]
 ·rw[if_neg g,if_pos g2]
 ·rw[if_neg g,if_neg (fun⟨v,l,hb⟩=>g2 v l hb)]
theorem Em {N:Nat}(z:3000000<=N){h:A7}(o:U7 h):E3 N h=some (hres N h):=by
 suffices g:∃r,E3 N h=some r/\r=hres N h by obtain⟨r,g,rfl⟩:=g;exact g
 obtain⟨e,e1,_,he⟩:=QN z o.tree;unfold E3;refine B4 e1 ?_;rcases he with⟨rfl,ht⟩ | ⟨rfl,ht⟩
 case inr=>exact ifT (by decide) ⟨16,rfl,by unfold hres;rw[if_pos ht]⟩
 refine ifF (by decide) ?_;by_cases c:64<h.Laws.n
 ·exact ifT (by simp;omega) ⟨12,rfl,by unfold hres;rw[if_neg (fun k=>k ht),if_pos c]⟩
 refine ifF (by simp;omega) ?_;refine Q7 (fun i (x1:List (Str×Int)) x2=>x2=(i:Int)/\(∀j,j<i->chkAll N (h.Laws.g j))/\(∀s,(CG eqS s x1=none/\∀u,u<i->(h.Laws.g u).Name≠s) \/ (∃v,CG eqS s x1=some v)/\∃u,u<i/\(h.Laws.g u).Name=s)/\((AH8 h i/\x1.length<i) \/ (¬AH8 h i/\x1.length=i))) h.Laws.n _ (by omega)
  ⟨rfl,fun j hj=>absurd hj (by omega),fun s=>.inl ⟨rfl,fun u q=>absurd q (by omega)⟩,.inr ⟨fun⟨u,v,_,hv,_⟩=>absurd hv (by omega),rfl⟩⟩ ?_
 rintro self i x1 x2 hle ⟨rfl,hc,hm,hl⟩ hs;by_cases d:i<h.Laws.n
 ·obtain⟨y,y1,_,hy⟩:=Ej z (o.laws i d);refine ifT (by simp;omega) (ifT (by omega) (B4 (by rw[AQ1];exact y1) ?_));rcases hy with⟨rfl,hy⟩ | ⟨rfl,hy⟩
  case inr=>exact ifT (by decide) ⟨17,rfl,by unfold hres;rw[if_neg (fun k=>k ht),if_neg c,if_pos ⟨i,d,hy⟩]⟩
  refine ifF (by decide) ?_;rw[AQ1];have t : ∀j,j<i+1->chkAll N (h.Laws.g j):=fun j hj=>by
   by_cases e:j=i
   ·subst e;exact hy
   ·exact hc j (by omega)
  have look:∀(v:Int) (s:Str),(CG eqS s (PI eqS (h.Laws.g i).Name v x1)=none/\∀u,u<i+1->(h.Laws.g u).Name≠s) \/ (∃w,CG eqS s (PI eqS (h.Laws.g i).Name v x1)=some w)/\∃u,u<i+1/\(h.Laws.g u).Name=s:=by
   intro v s;rw[Jn];by_cases e:s=(h.Laws.g i).Name
   ·exact .inr ⟨⟨v,by rw[if_pos e]⟩,i,by omega,e.symm⟩
   ·rw[if_neg e];rcases hm s with⟨g,g2⟩ | ⟨g,u,q,g2⟩
    ·refine .inl ⟨g,fun u q=>?_⟩;by_cases e2:u=i
     ·subst e2;exact fun k=>e k.symm
     ·exact g2 u (by omega)
    ·exact .inr ⟨g,u,by omega,g2⟩
  rcases hm (h.Laws.g i).Name with⟨g,g2⟩ | ⟨⟨v,g⟩,u,q,g2⟩
  ·rw[g,RN];refine hs d _ _ ⟨C5 (by omega),t,look _,?_⟩;rw[Xd g];rcases hl with⟨⟨a,b,f,hb,hn⟩,hl⟩ | ⟨m,hl⟩
   ·exact .inl ⟨⟨a,b,f,by omega,hn⟩,by omega⟩
   ·refine .inr ⟨fun⟨a,b,f,hb,hn⟩=>?_,by omega⟩;by_cases e:b=i
    ·subst e;exact g2 a f hn
    ·exact m ⟨a,b,f,by omega,hn⟩
  ·rw[g,Aa6];refine hs d _ _ ⟨C5 (by omega),t,look _,?_⟩;rw[Xe g];refine .inl ⟨⟨u,i,q,by omega,g2⟩,?_⟩;rcases hl with⟨_,hl⟩ | ⟨_,hl⟩<;>omega
 ·obtain rfl:i=h.Laws.n:=by omega
  have hok:Dq N h.Laws:=⟨by omega,hc⟩;have x:¬ ∃i,i<h.Laws.n/\¬chkAll N (h.Laws.g i):=fun⟨i,o,hn⟩=>hn (hc i o);refine ifF (by simp) ?_;rw[Uj];rcases hl with⟨m,hl⟩ | ⟨m,hl⟩
  ·exact ifT (by simp;omega) ⟨6,rfl,by unfold hres;rw[if_neg (fun k=>k ht),if_neg c,if_neg x,if_pos m]⟩
  refine ifF (by simp;omega) ?_;by_cases l:h.On.n=h.Tree.n
  case neg=>exact ifT (by simp;omega) ⟨2,rfl,by unfold hres;rw[if_neg (fun k=>k ht),if_neg c,if_neg x,if_neg m,if_pos l]⟩
  refine ifF (by simp[l]) ?_;obtain⟨e,e1,he⟩:=Ah0 z o ht l;exact B4 e1 ⟨e,rfl,El ht hok m l he⟩
theorem IG {N:Nat}(hN:3000000<=N){h:A7}(q:U7 h):AB N h=some (hres N h):=by
 suffices g:∃r,AB N h=some r/\r=hres N h by obtain⟨r,g,rfl⟩:=g;exact g
 obtain⟨e,_,e1,he⟩:=QN hN q.tree;unfold AB;refine B4 e1 ?_;rcases he with⟨rfl,ht⟩ | ⟨rfl,ht⟩
 case inr=>exact ifT (by decide) ⟨16,rfl,by unfold hres;rw[if_pos ht]⟩
 refine ifF (by decide) ?_;by_cases f:64<h.Laws.n
 ·exact ifT (by simp;omega) ⟨12,rfl,by unfold hres;rw[if_neg (fun k=>k ht),if_pos f]⟩
 refine ifF (by simp;omega) ?_;refine BB (fun i x1=>x1=(i:Int)/\∀j,j<i->chkAll N (h.Laws.g j)) h.Laws.n _ (by omega) ⟨rfl,fun j s=>absurd s (by omega)⟩ ?_;rintro self i x1 hle ⟨rfl,hc⟩ hs;by_cases a:i<h.Laws.n
 ·obtain⟨y,_,y1,hy⟩:=Ej hN (q.laws i a);refine ifT (by simp;omega) (ifT (by omega) (B4 (by rw[AQ1];exact y1) ?_));rcases hy with⟨rfl,hy⟩ | ⟨rfl,hy⟩
  case inr=>exact ifT (by decide) ⟨17,rfl,by unfold hres;rw[if_neg (fun k=>k ht),if_neg f,if_pos ⟨i,a,hy⟩]⟩
  refine ifF (by decide) (hs a _ ⟨C5 (by omega),fun j s=>?_⟩);by_cases e:j=i
  ·subst e;exact hy
  ·exact hc j (by omega)
 obtain rfl:i=h.Laws.n:=by omega
 have l:Dq N h.Laws:=⟨by omega,hc⟩;have w:¬ ∃i,i<h.Laws.n/\¬chkAll N (h.Laws.g i):=fun⟨i,q,hn⟩=>hn (hc i q);refine ifF (by simp) ?_;refine BB (fun i x1=>x1=(i:Int)/\¬AH8 h i) h.Laws.n _ (by omega) ⟨rfl,fun⟨u,v,_,d,_⟩=>absurd d (by omega)⟩ ?_;rintro a3 i x1 hle2 ⟨rfl,t⟩ a4;by_cases a:i<h.Laws.n
 ·refine ifT (by simp;omega) ?_;refine BB (fun k x5=>x5=(k:Int)/\∀u,u<k->(h.Laws.g u).Name≠(h.Laws.g i).Name) i _ (by omega) ⟨rfl,fun u hu=>absurd hu (by omega)⟩ ?_;rintro a5 k x5 hk ⟨rfl,x⟩ a6;by_cases z:k<i
  ·refine ifT (by simp;omega) (ifT (by omega) ?_);rw[AQ1,AQ1];by_cases e:(h.Laws.g k).Name=(h.Laws.g i).Name
   ·exact ifT (by simp[e]) ⟨6,rfl,by unfold hres;rw[if_neg (fun k=>k ht),if_neg f,if_neg w,if_pos ⟨k,i,z,a,e⟩]⟩
   ·refine ifF (by simp;exact fun g=>e g.symm) (a6 z _ ⟨C5 (by omega),fun u hu=>?_⟩);by_cases e2:u=k
    ·subst e2;exact e
    ·exact x u (by omega)
  ·refine ifF (by simp;omega) (a4 a _ ⟨C5 (by omega),fun⟨u,v,a7,d,hn⟩=>?_⟩);by_cases e:v=i
   ·subst e;exact x u (by omega) hn
   ·exact t ⟨u,v,a7,by omega,hn⟩
 obtain rfl:i=h.Laws.n:=by omega
 refine ifF (by simp) ?_;by_cases b:h.On.n=h.Tree.n
 case neg=>exact ifT (by simp;omega) ⟨2,rfl,by unfold hres;rw[if_neg (fun k=>k ht),if_neg f,if_neg w,if_neg t,if_pos b]⟩
 refine ifF (by simp[b]) ?_;have h63:=ht.2.1;refine BB (fun i x1=>x1=(i:Int)/\∀v,v<i->¬ 64<(U3 h v).n) h.On.n _ (by omega) ⟨rfl,fun v d=>absurd d (by omega)⟩ ?_;rintro a8 i x1 hle3 ⟨rfl,a0⟩ a9;by_cases a:i<h.On.n
 ·refine ifT (by simp;omega) (B4 (MJ q ht b N i (by omega) (by omega)) ?_);by_cases hg:64<(U3 h i).n
  ·exact ifT (by simp;omega) ⟨2,rfl,El ht l t b (.inl ⟨⟨i,a,hg⟩,rfl⟩)⟩
  ·refine ifF (by simp;omega) (a9 a _ ⟨C5 (by omega),fun v d=>?_⟩);by_cases e:v=i
   ·subst e;exact hg
   ·exact a0 v (by omega)
 refine ifF (by simp;omega) ?_;have m:¬VH h:=fun⟨v,d,g⟩=>a0 v (by omega) g;refine BB (fun i x1=>x1=(i:Int)/\∀v,v<i->¬AG0 h v) h.On.n _ (by omega) ⟨rfl,fun v d=>absurd d (by omega)⟩ ?_;rintro b0 i x1 hle4 ⟨rfl,a1⟩ b1;by_cases c:i<h.On.n
 ·have hl:=q.len i c;refine ifT (by simp;omega) ?_;refine BB (fun k x1=>x1=(k:Int)/\∀j,j<k->¬((h.On.g i).g j<0 \/ (h.Laws.n:Int)<=(h.On.g i).g j)) (h.On.g i).n _ (by omega) ⟨rfl,fun j s=>absurd s (by omega)⟩ ?_;rintro b2 k x1 hk ⟨rfl,a2⟩ b3;refine ifT (by omega) ?_;rw[AQ1,AQ1];by_cases o:k<(h.On.g i).n
  ·refine ifT (by simp;omega) (ifT (by omega) ?_);by_cases g1:(h.On.g i).g k<0
   ·exact ifT (by simpa using g1) ⟨3,rfl,El ht l t b (.inr (.inl ⟨m,⟨i,c,k,o,.inl g1⟩,rfl⟩))⟩
   refine ifF (by simpa using g1) (ifT (by omega) ?_);by_cases g2:(h.Laws.n:Int)<=(h.On.g i).g k
   ·exact ifT (by simpa using g2) ⟨3,rfl,El ht l t b (.inr (.inl ⟨m,⟨i,c,k,o,.inr g2⟩,rfl⟩))⟩
   refine ifF (by simpa using g2) (b3 o _ ⟨C5 (by omega),fun j s=>?_⟩);by_cases e:j=k
   ·subst e;exact fun g=>g.elim g1 g2
   ·exact a2 j (by omega)
  ·refine ifF (by simp;omega) (b1 c _ ⟨C5 (by omega),fun v d=>?_⟩);by_cases e:v=i
   ·subst e;exact fun⟨j,s,g⟩=>a2 j (by omega) g
   ·exact a1 v (by omega)
 ·exact ifF (by simp;omega) ⟨0,rfl,El ht l t b (.inr (.inr ⟨m,fun v d=>a1 v (by omega),rfl⟩))⟩
end Go.AM
namespace Go.AM
open IntKind (wrap)
open Go.Proofs
def Tu (t:Sl G7)(v:Nat):List Nat:=
 if hp:0<=(t.g v).Parent/\(t.g v).Parent<v then Tu t (t.g v).Parent.toNat++[v]else [v]
termination_by v
decreasing_by omega
theorem En {t:Sl G7}{v:Nat}(a:(t.g v).Parent<0):Tu t v=[v]:=by rw[Tu,dif_neg (by omega)]
theorem Jo {t:Sl G7}{v p:Nat}(a:(t.g v).Parent=(p:Int))(hp:p<v):Tu t v=Tu t p++[v]:=by rw[Tu,dif_pos (by omega),a,AQ1]
theorem MK {t:Sl G7}(ht:AO t):∀(m v:Nat),v<=m->v<t.n->∀x∈Tu t v,x<=v
 |m,v,hm,hv,x,hx=>by
  rcases S4 ht hv with⟨_,e⟩ | ⟨p,hp,e⟩
  ·rw[En (by omega)]at hx;simp at hx;omega
  ·rw[Jo e hp]at hx;rcases List.mem_append.1 hx with hx|hx
   ·match m with
    |0=>omega
    |m+1=>have:=MK ht m p (by omega) (by omega) x hx;omega
   ·simp at hx;omega
theorem As1 {α : Type}{x:Sl α}{m:Nat}(h:x.n=m+1):x.toList.reverse=x.g m::(x.take m).toList.reverse:=by unfold Sl.toList;rw[h,AZ4,AZ5,AY4];rfl
theorem Xf {x2:Sl Int}(hx:x2.n<100000):∀(k M:Nat),k<=x2.n->k<M->S6 M (fun (a:Int->Option (List Int)) (x3:Int)=>
 if (decide (0<=x3)) then
  if (((0:Int)<=x3/\x3<(x2.n:Int))/\x3.toNat<x2.n)then
   Av (x2.g x3.toNat) (
    a (wrap .i64 (x3-1))
    )
  else none
 else
  some []
 ) ((k:Int)-1)=some (x2.take k).toList.reverse
 |0,M,hk,hM=>by obtain⟨M,rfl⟩:∃K,M=K+1:=⟨M-1,by omega⟩;rw[AY,if_neg (by simp)];rfl
 |k+1,M,hk,hM=>by obtain⟨M,rfl⟩:∃K,M=K+1:=⟨M-1,by omega⟩;rw[show ((k+1:Nat):Int)-1=(k:Int) by omega,AY,if_pos (by simp),if_pos ⟨by omega,by omega⟩,F1 (by omega) (by omega),Xf hx k M (by omega) (by omega),AQ1,As1 (x:=x2.take (k+1)) (m:=k) rfl];rfl
theorem QO {N:Nat}(j:3000000<=N){t:Sl G7}(ht:AO t){v:Nat}(f:v<t.n):H7 N (v:Int) t=some ((Tu t v).map fun (x:Nat)=>(x:Int)):=by
 have i:=ht.2.1;have key:∀(m c:Nat) (x2:Sl Int) (M:Nat),c<m->c<t.n->m+1<M->x2.n+c<=1000->∃y:Sl Int,y.n<=1001/\y.toList.reverse=((Tu t c).map fun (x:Nat)=>(x:Int))++x2.toList.reverse /\
  P3 M (fun (a:Int->Sl Int->Option (List Int)) (x1:Int) (x2:Sl Int)=>
  if (decide (0<=x1)) then
   if (((x2.n+(Sl.of [x1]:Sl Int).n)*8<=140737488355328/\x2.n+(Sl.of [x1]:Sl Int).n<=140737488355328)/\((0:Int)<=x1/\x1<(t.n:Int)))then
    a (t.g x1.toNat).Parent (x2.push x1)
   else none
  else
   S6 N (fun b (x3:Int)=>
    if (decide (0<=x3)) then
     if (((0:Int)<=x3/\x3<(x2.n:Int))/\x3.toNat<x2.n)then
      Av (x2.g x3.toNat) (
       b (wrap .i64 (x3-1))
       )
     else none
    else
     some []
    ) (wrap .i64 ((x2.n:Int)-1))
  ) (c:Int) x2=some y.toList.reverse:=by
  intro m
  induction m with
  |zero=>exact fun c _ _ h=>absurd h (by omega)
  |succ m ih=>
   intro c x2 M hc d l hx;obtain⟨M,rfl⟩:∃K,M=K+1:=⟨M-1,by omega⟩;rw[E1,if_pos (by simp),if_pos ⟨by show (x2.n+1)*8<=_/\x2.n+1<=_;omega,by omega⟩,AQ1];rcases S4 ht d with⟨_,e⟩ | ⟨p,hp,e⟩
   ·obtain⟨M,rfl⟩:∃K,M=K+1:=⟨M-1,by omega⟩;refine⟨x2.push (c:Int),by show x2.n+1<=_;omega,by rw[Ag5,AY4,En (by omega)];rfl,?_⟩;rw[e,E1,if_neg (by decide)];have hb:=Xf (x2:=x2.push (c:Int)) (by show x2.n+1<_;omega) (x2.n+1) N (AQ6 _) (by omega);rw[F1 (by show _<=((x2.n+1:Nat):Int)-1;omega) (by show ((x2.n+1:Nat):Int)-1<=_;omega)];exact hb
   ·obtain⟨y,y1,y2,y3⟩:=ih p (x2.push (c:Int)) M (by omega) (by omega) (by omega) (by show x2.n+1+p<=_;omega);refine⟨y,y1,?_,by rw[e];exact y3⟩;rw[y2,Ag5,AY4,Jo e hp,AZ5,Bc6];rfl
 obtain⟨y,_,y2,y3⟩:=key (v+1) v (Sl.nil:Sl Int) N (by omega) f (by omega) (by show 0+v<=_;omega);unfold H7;rw[y3,y2];show some (_++[])=_;rw[AZ2]
def AG1 (h:A7)(L:List Nat)(z:Sl Int):Sl Int:=L.foldl (fun z x=>z.app (h.On.g x)) z
theorem Tv {h:A7}(ht:AO h.Tree):∀(m v:Nat),v<=m->v<h.Tree.n->AG1 h (Tu h.Tree v) (Sl.nil:Sl Int)=U3 h v
 |m,v,hm,hv=>by
  rcases S4 ht hv with⟨_,e⟩ | ⟨p,hp,e⟩
  ·rw[En (by omega),BC (by omega)];rfl
  ·rw[Jo e hp,EY e hp]
   match m with
   |0=>omega
   |m+1=>
    have:=Tv ht m p (by omega) (by omega)
    unfold AG1 at this⊢;rw[List.foldl_append,this];rfl
theorem ML {h:A7}(c:U7 h):∀(L:List Nat) (z:Sl Int),(∀x∈L,x<h.On.n)->z.n+L.length*1100000<=10000000000 ->
 O7 (L.map fun (x:Nat)=>(x:Int)) (fun (a:Sl Int->Option ((Sl Int)×Int)) (x1:Int) (z1:Sl Int)=>
  if (((0:Int)<=x1/\x1<(h.On.n:Int))/\((z1.n+(h.On.g x1.toNat).n)*8<=140737488355328/\z1.n+(h.On.g x1.toNat).n<=140737488355328))then
   a (z1.app (h.On.g x1.toNat))
  else none
  ) (fun (z1:Sl Int)=>
   some (z1,0)
  ) z=some (AG1 h L z,0)
 |[],z,_,_=>rfl
 |x::L,z,hx,hz=>by have b:=hx x (by simp);have hl:=c.len x b;simp only[AT1,Bb5]at hz;rw[AS8,O7,AQ1,if_pos ⟨by omega,by omega⟩];exact ML c L _ (fun y hy=>hx y (by simp[hy])) (by show z.n+(h.On.g x).n+_<=_;omega)
theorem QP {t:Sl G7}(ht:AO t):∀(m v:Nat),v<=m->v<t.n->(Tu t v).length<=v+1
 |m,v,hm,hv=>by
  rcases S4 ht hv with⟨_,e⟩ | ⟨p,hp,e⟩
  ·rw[En (by omega)];simp
  ·rw[Jo e hp]
   match m with
   |0=>omega
   |m+1=>have:=QP ht m p (by omega) (by omega);simp;omega
theorem Xg {N:Nat}(g:3000000<=N){h:A7}(d:U7 h)(v:Int) :∃s e,Q4 N h v=some (s,e)/\Eg N h v=some (s,e)/\((e=0/\Bk N h/\0<=v/\v<h.Tree.n/\s=U3 h v.toNat) \/ (e≠0/\s=(Sl.nil:Sl Int))):=by
 unfold Q4 Eg;rw[Em g d,IG g d,AQ3,AQ3];by_cases f:hres N h=0
 case neg=>
  have b:(hres N h != 0)=true:=by simpa using f
  rw[if_pos b,if_pos b];exact⟨_,_,rfl,rfl,.inr ⟨f,rfl⟩⟩
 have a:=hres_zero.1 f;have c:¬(hres N h != 0)=true:=by simp[f]
 rw[if_neg c,if_neg c,I9,Bz,AQ3,AQ3];by_cases m:0<=v/\v<(h.Tree.n:Int)
 case neg=>
  have hb:(!((decide (0<=v))&&(decide (v<(h.Tree.n:Int)))))=true:=by simp;omega
  rw[if_pos hb,if_pos hb];exact⟨_,_,rfl,rfl,.inr ⟨by decide,rfl⟩⟩
 have hb:¬(!((decide (0<=v))&&(decide (v<(h.Tree.n:Int)))))=true:=by simp;omega
 rw[if_neg hb,if_neg hb,Q0,AQ3];obtain⟨u,rfl⟩:∃u:Nat,v=(u:Int):=⟨v.toNat,by omega⟩;have l:=a.tree.2.1;have hw:=QO g a.tree (v:=u) (by omega);have j:=QP a.tree u u (AQ6 _) (by omega);have i:=ML d (Tu h.Tree u) (Sl.nil:Sl Int) (fun x hx=>by have:=MK a.tree u u (AQ6 _) (by omega) x hx;have:=a.on;omega) (by show 0+_<=_;omega);rw[MJ d a.tree a.on N u (by omega) (by omega),AQ3];refine⟨U3 h u,0,?_,rfl,.inl ⟨rfl,a,by omega,by omega,by rw[AQ1]⟩⟩;show (H7 N (u:Int) h.Tree).bind _=_;rw[hw,AQ3,i,Tv a.tree u u (AQ6 _) (by omega)]
theorem VJ {N:Nat}{h:A7}(a:Bk N h):∀(m v:Nat),v<=m->v<h.Tree.n->∀i,i<(U3 h v).n->0<=(U3 h v).g i/\(U3 h v).g i<h.Laws.n
 |m,v,hm,hv,i,b=>by
  have AG7:∀j,j<(h.On.g v).n->0<=(h.On.g v).g j/\(h.On.g v).g j<h.Laws.n:=fun j c=>by
   have:=a.bad v (by have:=a.on;omega)
   constructor
   ·exact Int.not_lt.1 fun g=>this ⟨j,c,.inl g⟩
   ·exact Int.not_le.1 fun g=>this ⟨j,c,.inr g⟩
  rcases S4 a.tree hv with⟨_,e⟩ | ⟨p,hp,e⟩
  ·rw[BC (by omega)]at b⊢;have b:i<0+(h.On.g v).n:=b
   have:((Sl.nil:Sl Int).app (h.On.g v)).g i=(h.On.g v).g i:=by show (if i<0 then (default:Int)else (h.On.g v).g (i-0))=_;rw[if_neg (by omega)];rfl
   rw[this];exact AG7 i (by omega)
  ·rw[EY e hp]at b⊢;have b:i<(U3 h p).n+(h.On.g v).n:=b;show 0<=(if i<(U3 h p).n then (U3 h p).g i else (h.On.g v).g (i-(U3 h p).n))/\(if i<(U3 h p).n then (U3 h p).g i else (h.On.g v).g (i-(U3 h p).n))<_;split
   ·match m with
    |0=>omega
    |m+1=>exact VJ a m p (by omega) (by omega) i (by assumption)
   ·exact AG7 _ (by omega)
theorem Hv:∀(d:Nat) (p:Pat),okP d p->∀M,100+d<=M->∃q,N9 M p=some q/\PE p q
 |0,p,h,M,_=>h.elim
 |d+1,p,h,0,hM=>by omega
 |d+1,p,h,M+1,hM=>by
  show ∃q,O4 (N9 M) M p=some q/\_;unfold O4;have hn:=h.1;refine Q7 (fun i (x1:Sl Pat) x2=>x2=(i:Int)/\x1.n=i/\∀j,j<i->PE (p.L.g j) (x1.g j)) p.L.n _ (by omega) ⟨rfl,rfl,fun j a=>absurd a (by omega)⟩ ?_;rintro c i x1 x2 f ⟨rfl,hx,a⟩ hs;by_cases hl:i<p.L.n
  ·obtain⟨q,q1,q2⟩:=Hv d (p.L.g i) (h.2.2 i hl) M (by omega);refine ifT (by simp;omega) (ifT (by omega) (B4 (by rw[AQ1];exact q1) (ifT (by show (x1.n+1)*64<=_/\x1.n+1<=_;omega) (hs hl _ _ ⟨C5 (by omega),by show x1.n+1=_;omega,fun j b=>?_⟩))));show PE _ (if j<x1.n then x1.g j else q);by_cases e:j=i
   ·subst e;rw[if_neg (by omega)];exact q2
   ·rw[if_pos (by omega)];exact a j (by omega)
  ·exact ifF (by simp;omega) ⟨_,rfl,PE_of.2 ⟨rfl,rfl,rfl,rfl,rfl,by show x1.n=_;omega,fun j b=>a j (by omega)⟩⟩
theorem Za {N:Nat}(d:3000000<=N){l:Law}(hl:Km l)(hc:chkAll N l):∃l',P2 N l=some l' /\ LE l l':=by have a:=hc.f hl;obtain⟨_,h1,b,g,c,_⟩:=a;have i:=c.1;obtain⟨q1,e1,g1⟩:=Hv 40 l.Left (MB 40 _ (by omega) h1 _ (by simp)) N (by omega);obtain⟨q2,e2,g2⟩:=Hv 40 l.Right (MB 40 _ (by omega) b _ (by simp)) N (by omega);unfold P2 A5 F5;rw[e1,e2,AQ3,AQ3,if_pos (by omega),AQ3,if_pos (by omega)];exact⟨_,rfl,rfl,g1,g2,SE.refl _,SE.refl _,rfl⟩
theorem QR {N:Nat}(m:3000000<=N){h:A7}(o:U7 h)(c:Bk N h){l:Sl Int}(hn:l.n<1000000)(hl:∀i,i<l.n->0<=l.g i/\l.g i<h.Laws.n) :∃s,H8 N h l=some s/\s.n=l.n/\∀i,i<l.n->LE (h.Laws.g (l.g i).toNat) (s.g i):=by
 unfold H8;refine Q7 (fun i (x1:Sl Law) x2=>x2=(i:Int)/\x1.n=i/\∀j,j<i->LE (h.Laws.g (l.g j).toNat) (x1.g j)) l.n _ (by omega) ⟨rfl,rfl,fun j b=>absurd b (by omega)⟩ ?_;rintro f i x1 x2 hle ⟨rfl,hx,b⟩ hs;by_cases a:i<l.n
 ·have r:=hl i a;obtain⟨q,q1,q2⟩:=Za m (o.laws (l.g i).toNat (by omega)) (c.laws.2 (l.g i).toNat (by omega));refine ifT (by simp;omega) ?_;rw[AQ1];refine ifT ⟨by omega,r⟩ (B4 q1 (ifT (by show (x1.n+1)*200<=_/\x1.n+1<=_;omega) (hs a _ _ ⟨C5 (by omega),by show x1.n+1=_;omega,fun j d=>?_⟩)));show LE _ (if j<x1.n then x1.g j else q);by_cases e:j=i
  ·subst e;rw[if_neg (by omega)];exact q2
  ·rw[if_pos (by omega)];exact b j (by omega)
 ·exact ifF (by simp;omega) ⟨_,rfl,by omega,fun j d=>b j (by omega)⟩
def IH (h:A7)(l:Sl Int):Sl Law:=⟨l.n,fun i=>h.Laws.g (l.g i).toNat⟩
theorem As2 {N:Nat}(q:3000000<=N){h:A7}(b:U7 h)(v:Int) :∃s s' e,DB N h v=some (s,e)/\Eh N h v=some (s',e)/\LS s' s/\((e=0/\Bk N h/\0<=v/\v<h.Tree.n/\SE s' (IH h (U3 h v.toNat))) \/ (e≠0/\s.n=0)):=by
 obtain⟨l,e,h1,w,t⟩:=Xg q b v;unfold DB Eh;rw[h1,w,AQ3,AQ3];have hl:l.n<1000000/\(∀i,i<l.n->0<=l.g i/\l.g i<h.Laws.n)/\∃s,H8 N h l=some s/\s.n=l.n/\∀i,i<l.n->LE (h.Laws.g (l.g i).toNat) (s.g i):=by
  rcases t with⟨_,a,g1,g2,rfl⟩ | ⟨_,rfl⟩
  ·have x:(U3 h v.toNat).n<=64:=Bb4 fun g=>a.long ⟨v.toNat,by have:=a.on;omega,g⟩;have f:=VJ a v.toNat v.toNat (AQ6 _) (by omega);exact⟨by omega,f,QR q b a (by omega) f⟩
  ·refine⟨by show 0<_;omega,fun i b=>absurd b (AT6 i),(Sl.nil:Sl Law),?_,rfl,fun i b=>absurd b (AT6 i)⟩;unfold H8;obtain⟨M,rfl⟩:∃K,N=K+1:=⟨N-1,by omega⟩;rw[E1,if_neg (by show ¬decide ((0:Int)<((0:Nat):Int))=true;decide)]
 obtain⟨hn,y,s,s1,s2,s3⟩:=hl;have z:∃r,(P3 N (fun (c:Sl Law->Int->Option ((Sl Law)×Int)) (x1:Sl Law) (x2:Int)=>
  if (decide (x2<(l.n:Int))) then
   if ((((0:Int)<=x2/\x2<(l.n:Int))/\x2.toNat<l.n)/\((0:Int)<=(l.g x2.toNat)/\(l.g x2.toNat)<(h.Laws.n:Int)))then
    if ((x1.n+(Sl.of [h.Laws.g (l.g x2.toNat).toNat]:Sl Law).n)*200<=140737488355328/\x1.n+(Sl.of [h.Laws.g (l.g x2.toNat).toNat]:Sl Law).n<=140737488355328)then
     c (x1.push (h.Laws.g (l.g x2.toNat).toNat)) (wrap .i64 (x2+1))
    else none
   else none
  else
   some (x1,e)
  ) (Sl.nil:Sl Law) 0)=some r/\r.2=e/\r.1.n=l.n/\∀i,i<l.n->r.1.g i=h.Laws.g (l.g i).toNat:=by
  refine Q7 (fun i (x1:Sl Law) x2=>x2=(i:Int)/\x1.n=i/\∀j,j<i->x1.g j=h.Laws.g (l.g j).toNat) l.n _ (by omega) ⟨rfl,rfl,fun j m=>absurd m (by omega)⟩ ?_;rintro u i x1 x2 hle ⟨rfl,hx,m⟩ hs;by_cases d:i<l.n
  ·refine ifT (by simp;omega) ?_;rw[AQ1];refine ifT ⟨⟨by omega,d⟩,y i d⟩ (ifT (by show (x1.n+1)*200<=_/\x1.n+1<=_;omega) (hs d _ _ ⟨C5 (by omega),by show x1.n+1=_;omega,fun j o=>?_⟩));show (if j<x1.n then x1.g j else _)=_;by_cases e:j=i
   ·subst e;rw[if_neg (by omega)]
   ·rw[if_pos (by omega)];exact m j (by omega)
  ·exact ifF (by simp;omega) ⟨_,rfl,rfl,by show x1.n=_;omega,fun j o=>m j (by omega)⟩
 obtain⟨⟨s',e'⟩,d1,d2,d3,d4⟩:=z;dsimp only at d2 d3 d4;subst d2;rw[s1,AQ3];refine⟨s,s',_,rfl,d1,⟨by omega,fun i b=>by rw[d4 i (by omega)];exact s3 i (by omega)⟩,?_⟩;rcases t with⟨g0,a,g1,g2,rfl⟩ | ⟨g0,rfl⟩
 ·exact .inl ⟨g0,a,g1,g2,d3,fun i b=>d4 i (by omega)⟩
 ·exact .inr ⟨g0,s2⟩
end Go.AM
namespace Go.AM
open Go.Proofs
def NC (N:Nat)(l:Law)(w:Sl Sound):Option (Sl Sound):=(Q3 N l w).bind fun y=>if y.2=0 then some y.1 else none
def BD (N:Nat):List Law->Sl Sound->Option (Sl Sound)
 |[],w=>some w
 |l::L,w=>(NC N l w).bind (BD N L)
theorem MM {N:Nat}:∀(A B:List Law) (w:Sl Sound),BD N (A++B) w=(BD N A w).bind (BD N B)
 |[],B,w=>rfl
 |l::A,B,w=>by
  show (NC N l w).bind (BD N (A++B))=((NC N l w).bind (BD N A)).bind (BD N B);cases NC N l w with
  |none=>rfl
  |some v=>exact MM A B v
def Zb (N:Nat)(l:Law):Prop:=Km l/\chkAll N l
theorem As3 {N:Nat}{l l' : Law}(h:LE l l')(g:Zb N l):Zb N l':=⟨Ky h g.1,(Da h).1 g.2⟩
def OR (o o' : Option (Sl Sound)):Prop:=(o=none/\o' = none) \/ ∃v v',o=some v/\o' = some v' /\ SE v v' /\ wOk v
theorem VK {N:Nat}(a:3000000<=N){l:Law}(hl:Zb N l){w:Sl Sound}(hw:wOk w):(∃v,Q3 N l w=some (v,0)/\NC N l w=some v/\wOk v) \/ (∃v,Q3 N l w=some (v,11)/\NC N l w=none):=by
 obtain⟨⟨v,e⟩,_,h1,_,_,_,b⟩:=ID a hl.1 (LE.refl l) (SE.refl w) fun i c=>(hw.2 i c).ok;rcases b with⟨_,h⟩ | ⟨_,h,h'⟩ | ⟨_,_,h|⟨h,h'⟩⟩
 ·exact absurd hl.2 h
 ·exact absurd ((T5 h).2 hw) h'
 ·dsimp only at h;subst h;exact .inr ⟨v,h1,by unfold NC;rw[h1];rfl⟩
 ·dsimp only at h h';subst h;exact .inl ⟨v,h1,by unfold NC;rw[h1];rfl,h'⟩
theorem AO4 {N:Nat}(c:3000000<=N){l l' : Law}(hl:Zb N l)(hle:LE l l'){w w' : Sl Sound}(hw:wOk w)(a:SE w w'):OR (NC N l w) (NC N l' w'):=by
 have b:=a.wOk hw;obtain⟨r,r',h1,g,j,f,_⟩:=ID c hl.1 hle a fun i d=>(hw.2 i d).ok;obtain⟨q,q',k1,k2,k3,k4,_⟩:=ID c (Ky hle hl.1) (LE.refl l') (SE.refl w') fun i d=>(b.2 i d).ok;obtain rfl:=AR1 (g.symm.trans k2);rcases VK c hl hw with⟨v,g1,g2,g3⟩ | ⟨v,g1,g2⟩<;>rcases VK c (As3 hle hl) b with⟨u,p1,p2,p3⟩ | ⟨u,p1,p2⟩
 ·obtain rfl:=AR1 (g1.symm.trans h1);obtain rfl:=AR1 (p1.symm.trans k1);exact .inr ⟨v,u,g2,p2,j.trans k3.symm,g3⟩
 ·obtain rfl:=AR1 (g1.symm.trans h1);obtain rfl:=AR1 (p1.symm.trans k1);exact absurd (f.trans k4.symm) (by show ¬((0:Int)=11);decide)
 ·obtain rfl:=AR1 (g1.symm.trans h1);obtain rfl:=AR1 (p1.symm.trans k1);exact absurd (f.trans k4.symm) (by show ¬((11:Int)=0);decide)
 ·exact .inl ⟨g2,p2⟩
def LEs:List Law->List Law->Prop
 |[],[]=>True
 |p::l,q::m=>LE p q/\LEs l m
 |_,_=>False
theorem Ah1 {N:Nat}(a:3000000<=N):∀(L L' : List Law) (w w' : Sl Sound),(∀l∈L,Zb N l)->LEs L L' -> wOk w->SE w w' -> OR (BD N L w) (BD N L' w')
 |[],[],w,w',_,_,hw,hse=>.inr ⟨w,w',rfl,rfl,hse,hw⟩
 |l::L,l' :: L',w,w',hg,⟨h1,h2⟩,hw,hse=>by
  unfold BD;rcases AO4 a (hg l (by simp)) h1 hw hse with⟨e1,e2⟩ | ⟨v,v',e1,e2,e3,e4⟩
  ·rw[e1,e2];exact .inl ⟨rfl,rfl⟩
  ·rw[e1,e2];exact Ah1 a L L' v v' (fun x hx=>hg x (by simp[hx])) h2 e4 e3
 |[],_::_,_,_,_,h,_,_=>h.elim
 |_::_,[],_,_,_,h,_,_=>h.elim
theorem Tw {f g:Nat->Law}:∀(l:List Nat),(∀i∈l,LE (f i) (g i))->LEs (l.map f) (l.map g)
 |[],_=>trivial
 |i::l,h=>⟨h i (by simp),Tw l fun j a=>h j (by simp[a])⟩
theorem LS.s {s t:Sl Law}(h:LS s t):LEs s.toList t.toList:=by unfold Sl.toList;rw[<- h.1];exact Tw _ fun i a=>h.2 i (AV7.1 a)
theorem Ah2 {N:Nat}{laws:Sl Law}(hl:Ek laws)(b:Dq N laws):∀l∈laws.toList,Zb N l:=by intro l h;obtain⟨i,a,rfl⟩:=AX7.1 h;have a:=AV7.1 a;exact⟨hl i a,b.2 i a⟩
theorem VL {N:Nat}(f:3000000<=N){laws:Sl Law}(hl:Ek laws)(c:Dq N laws):∀(m i:Nat) (w:Sl Sound),wOk w->i<=laws.n->laws.n<=i+m ->
 (∃L,(∀M,m<M->P3 M (S8 N 0 laws) w i=some L)/\BD N (laws.toList.drop i) w=some (IE w L)/\wOk (IE w L)) \/
 ((∃L,∀M,m<M->P3 M (S8 N 0 laws) w i=none/\P3 M (S8 N 11 laws) w i=some L)/\BD N (laws.toList.drop i) w=none):=by
 have b:=c.1;have fin:∀(m i:Nat) (w:Sl Sound),wOk w->i=laws.n->∃L,(∀M,m<M->P3 M (S8 N 0 laws) w i=some L)/\BD N (laws.toList.drop i) w=some (IE w L)/\wOk (IE w L):=by rintro m i w hw rfl;refine⟨[],fun M d=>?_,by rw[CZ];rfl,hw⟩;obtain⟨M,rfl⟩:∃K,M=K+1:=⟨M-1,by omega⟩;rw[E1,S8,if_neg (by simp),if_pos rfl]
 intro m
 induction m with
 |zero=>exact fun i w hw g hm=>.inl (fin 0 i w hw (by omega))
 |succ m ih=>
  intro i w hw g hm;by_cases a:i<laws.n
  case neg=>exact .inl (fin _ i w hw (by omega))
  rw[EV _ a];rcases VK f ⟨hl i a,c.2 i a⟩ hw with⟨v,g1,g2,g3⟩ | ⟨v,g1,g2⟩
  ·rcases ih (i+1) v g3 (by omega) (by omega)with⟨L,a1,a2,a3⟩ | ⟨⟨L,a1⟩,a2⟩
   ·refine .inl ⟨((i+1:Nat),v)::L,fun M d=>?_,by unfold BD;rw[g2];exact a2,a3⟩;obtain⟨M,rfl⟩:∃K,M=K+1:=⟨M-1,by omega⟩;rw[E1,Q8 a b g1,if_neg (by simp)];show Av _ (P3 M (S8 N 0 laws) v _)=_;rw[a1 M (by omega)];rfl
   ·refine .inr ⟨⟨((i+1:Nat),v)::L,fun M d=>?_⟩,by unfold BD;rw[g2];exact a2⟩;obtain⟨M,rfl⟩:∃K,M=K+1:=⟨M-1,by omega⟩;obtain⟨b1,b2⟩:=a1 M (by omega);rw[E1,E1,Q8 a b g1,Q8 a b g1,if_neg (by simp),if_neg (by simp)];refine⟨?_,?_⟩
    ·show Av _ (P3 M (S8 N 0 laws) v _)=_;rw[b1];rfl
    ·show Av _ (P3 M (S8 N 11 laws) v _)=_;rw[b2];rfl
  ·refine .inr ⟨⟨[],fun M d=>?_⟩,by unfold BD;rw[g2];rfl⟩;obtain⟨M,rfl⟩:∃K,M=K+1:=⟨M-1,by omega⟩;rw[E1,E1,Q8 a b g1,Q8 a b g1];exact⟨rfl,rfl⟩
theorem Hw {N:Nat}(g:3000000<=N){laws:Sl Law}(hl:Ek laws)(d:Dq N laws){w:Sl Sound}(hw:wOk w) :(∃v,BD N laws.toList w=some v/\G0 N laws w=some (v,0)/\wOk v) \/ (BD N laws.toList w=none/\G0 N laws w=some ((Sl.nil:Sl Sound),11)):=by
 have j:=d.1;have l:=hw.1;obtain⟨e,e1,m⟩:=MG g hl (w:=w) fun i o=>(hw.2 i o).ok
 have:e=0:=by
  rcases m with⟨h,h'⟩ | ⟨_,h⟩
  ·exact Gw h (lawsE_zero.2 d)
  ·exact (T5 h).2 hw
 subst this;have b:A5 N w=some w:=by unfold A5;rw[if_pos (by omega)]
 have a:∀c,C0 N c laws w=(Av (0,w) (P3 N (S8 N c laws) w 0)).bind fun L1=>O7 L1 (fun (f:Sl Sound->Option (Sl Sound)) (x1:Int×(Sl Sound)) (z1:Sl Sound)=>f x1.2) (fun (z1:Sl Sound)=>some z1) (Sl.nil:Sl Sound):=by intro c;unfold C0 Ao T4;rw[AQ3,b,AQ3];rfl
 unfold G0;rw[e1,AQ3,if_neg (by decide)];rcases VL g hl d laws.n 0 w hw (by omega) (by omega)with⟨L,g1,g2,g3⟩ | ⟨⟨L,g1⟩,g2⟩
 ·have g1:P3 N (S8 N 0 laws) w 0=some L:=g1 N (by omega)
  have:F3 N laws w=some (IE w L,true):=by
   have e0:C0 N 0 laws w=some (IE w L):=by rw[a,g1];exact IF _ _
   unfold F3;rw[e0]
  rw[this];exact .inl ⟨_,g2,rfl,g3⟩
 ·obtain⟨g3,g4⟩:=g1 N (by omega);have g3:P3 N (S8 N 0 laws) w 0=none:=g3;have g4:P3 N (S8 N 11 laws) w 0=some L:=g4
  have:F3 N laws w=some ((Sl.nil:Sl Sound),false):=by
   have e0:C0 N 0 laws w=none:=by rw[a,g3];rfl
   have e11:C0 N 11 laws w=some (IE w L):=by rw[a,g4];exact IF _ _
   unfold F3;rw[e0,e11];rfl
  rw[this];exact .inr ⟨g2,rfl⟩
theorem AO5 {α : Type}(s t:Sl α):(s.app t).toList=s.toList++t.toList:=by
 show (List.range (s.n+t.n)).map (fun i=>if i<s.n then s.g i else t.g (i-s.n))=_;rw[List.range_add,AZ5,AX6];congr 1
 ·exact AT0 fun i a=>if_pos (AV7.1 a)
 ·refine AT0 fun i a=>?_;show (if s.n+i<s.n then _ else t.g (s.n+i-s.n))=_;rw[if_neg (by omega)];congr 1;omega
theorem QS (h:A7)(l:Sl Int):(IH h l).toList=l.toList.map fun (i:Int)=>h.Laws.g i.toNat:=by unfold IH Sl.toList;rw[AX6];rfl
def ND (h:A7)(L:List Nat):List Law:=L.flatMap fun x=>(IH h (h.On.g x)).toList
theorem Tx {h:A7}(ht:AO h.Tree):∀(m v:Nat),v<=m->v<h.Tree.n->ND h (Tu h.Tree v)=(IH h (U3 h v)).toList
 |m,v,hm,hv=>by
  rcases S4 ht hv with⟨_,e⟩ | ⟨p,hp,e⟩
  ·rw[En (by omega),BC (by omega),AF0 rfl];simp[ND]
  ·rw[Jo e hp,EY e hp,QS,AO5,AZ5,<- QS,<- QS]
   match m with
   |0=>omega
   |m+1=>rw[<- Tx ht m p (by omega) (by omega)];simp[ND]
theorem QT {h:A7}(b:U7 h){l:Sl Int}(hl:∀i,i<l.n->0<=l.g i/\l.g i<h.Laws.n):Ek (IH h l):=fun i a=>b.laws _ (by have:=hl i a;omega)
theorem QU {N:Nat}{h:A7}(a:Bk N h){l:Sl Int}(hn:l.n<=64)(hl:∀i,i<l.n->0<=l.g i/\l.g i<h.Laws.n):Dq N (IH h l):=⟨hn,fun i b=>a.laws.2 _ (by have:=hl i b;omega)⟩
theorem AO6 {N:Nat}{h:A7}(a:Bk N h){x:Nat}(hx:x<h.Tree.n):(h.On.g x).n<=64/\∀i,i<(h.On.g x).n->0<=(h.On.g x).g i/\(h.On.g x).g i<h.Laws.n:=by
 have c:=a.on;refine⟨?_,fun j b=>?_⟩
 ·have hl:(U3 h x).n<=64:=Bb4 fun g=>a.long ⟨x,by omega,g⟩;rcases S4 a.tree hx with⟨_,e⟩ | ⟨p,hp,e⟩
  ·rw[BC (by omega)]at hl;have hl:0+(h.On.g x).n<=64:=hl;omega
  ·rw[EY e hp]at hl;have hl:(U3 h p).n+(h.On.g x).n<=64:=hl;omega
 ·have:=a.bad x (by omega)
  constructor
  ·exact Int.not_lt.1 fun g=>this ⟨j,b,.inl g⟩
  ·exact Int.not_le.1 fun g=>this ⟨j,b,.inr g⟩
theorem VM {N:Nat}(t:3000000<=N){h:A7}(c:U7 h)(a:Bk N h):∀(L:List Nat) (z z' : Sl Sound),(∀x∈L,x<h.Tree.n)->wOk z->SE z z' ->
 ∃r,O7 (L.map fun (x:Nat)=>(x:Int)) (fun (d:Sl Sound->Option ((Sl Sound)×Int)) (x1:Int) (z1:Sl Sound)=>
  if ((0:Int)<=x1/\x1<(h.On.n:Int))then
   (H8 N h (h.On.g x1.toNat)).bind fun y8=>
   (G0 N y8 z1).bind fun y9=>
   if (y9.2 != 0) then
    some ((Sl.nil:Sl Sound),y9.2)
   else
    d y9.1
  else none
  ) (fun (z1:Sl Sound)=>
   some (z1,0)
  ) z=some r/\((∃v,BD N (ND h L) z' = some v/\r.2=0/\SE r.1 v/\wOk r.1) \/ (BD N (ND h L) z' = none/\r=((Sl.nil:Sl Sound),11)))
 |[],z,z',_,hz,hse=>⟨(z,0),rfl,.inl ⟨z',rfl,rfl,hse,hz⟩⟩
 |x::L,z,z',hx,hz,hse=>by
  have w:=hx x (by simp);have hon:=a.on;obtain⟨o1,o2⟩:=AO6 a w;obtain⟨s,s1,s2,s3⟩:=QR t c a (l:=h.On.g x) (by omega) o2;have b:LS (IH h (h.On.g x)) s:=⟨s2.symm,fun i c=>s3 i c⟩;have j:=QT c o2;have m:=QU a o1 o2;have o:=QL b j;have q : Dq N s:=⟨by omega,fun i c=>(Da (b.2 i (by rw[b.1];exact c))).1 (m.2 i (by rw[b.1];exact c))⟩;have hf:=Ah1 t _ _ z' z (Ah2 j m) b.s (hse.wOk hz) hse.symm;have f:BD N (ND h (x::L)) z' = (BD N (IH h (h.On.g x)).toList z').bind (BD N (ND h L)):=by rw[<- MM];rfl
  rw[f,AS8,O7,if_pos (by omega),AQ1,s1,AQ3];rcases Hw t o q hz with⟨v,d1,d2,d3⟩ | ⟨d1,d2⟩
  ·rw[d2,AQ3,if_neg (by simp)];rcases hf with⟨_,f2⟩ | ⟨u,u',f1,f2,f3,f4⟩
   ·rw[d1]at f2;cases f2
   ·rw[d1]at f2;obtain rfl:=AR1 f2;rw[f1,AQ3];exact VM t c a L v u (fun y hy=>hx y (by simp[hy])) d3 f3.symm
  ·rw[d2,AQ3,if_pos (by simp)];rcases hf with⟨f1,_⟩ | ⟨u,u',_,f2,_⟩
   ·rw[f1];exact⟨_,rfl,.inr ⟨rfl,rfl⟩⟩
   ·rw[d1]at f2;cases f2
theorem Aw8 {N:Nat}(f:3000000<=N){h:A7}(c:U7 h){w w' : Sl Sound}(l:SE w w')(hw:okA w)(v:Int) :∃r r',J1 N h w v=some r/\Gu N h w' v=some r' /\ SE r.1 r'.1/\r.2=r'.2/\(r.2=0->wOk r.1)/\(r.2=0->Bk N h):=by
 unfold J1 Gu G1 S1;rw[Em f c,IG f c,AQ3,AQ3];by_cases o:hres N h=0
 case neg=>
  have b:(hres N h != 0)=true:=by simpa using o
  rw[if_pos b,if_pos b,AQ3,AQ3,if_pos b,if_pos b];exact⟨_,_,rfl,rfl,SE.refl _,rfl,fun e=>absurd e o,fun e=>absurd e o⟩
 have a:=hres_zero.1 o;have d:¬(hres N h != 0)=true:=by simp[o]
 rw[if_neg d,if_neg d];obtain⟨e',e3,t⟩:=Gg (N:=N) (by omega) hw;obtain⟨e'',e4,z⟩:=Cy (N:=N) (by omega) (YV l hw);obtain rfl:=IA (Xc l t) z;rw[e3,e4];simp only[AQ3];by_cases hz:e' = 0
 case neg=>
  have b:(e' != 0)=true:=by simpa using hz
  rw[if_pos b,if_pos b];exact⟨_,_,rfl,rfl,SE.refl _,rfl,fun e=>absurd e hz,fun e=>absurd e hz⟩
 have d:¬(e' != 0)=true:=by simp[hz]
 have hwk:wOk w:=(T5 t).1 hz;rw[if_neg d,if_neg d,I9,Bz,AQ3,AQ3];by_cases hv:0<=v/\v<(h.Tree.n:Int)
 case neg=>
  have hb:(!((decide (0<=v))&&(decide (v<(h.Tree.n:Int)))))=true:=by simp;omega
  rw[if_pos hb,if_pos hb];exact⟨_,_,rfl,rfl,SE.refl _,rfl,fun e=>absurd e (by decide),fun _=>a⟩
 have hb:¬(!((decide (0<=v))&&(decide (v<(h.Tree.n:Int)))))=true:=by simp;omega
 rw[if_neg hb,if_neg hb,Q0,AQ3];obtain⟨u,rfl⟩:∃u:Nat,v=(u:Int):=⟨v.toNat,by omega⟩;have m:u<h.Tree.n:=by omega
 obtain⟨s,s',e,l1,l2,l3,l4⟩:=As2 f c (u:Int);rcases l4 with⟨rfl,_,_,_,l5⟩ | ⟨l5,_⟩
 case inr=>
  exfalso;obtain⟨s0,e0,k1,k2,k3⟩:=Xg f c (u:Int);unfold DB at l1;rw[k1,AQ3]at l1;rcases k3 with⟨rfl,_⟩ | ⟨k3,_⟩
  ·obtain⟨y,_,hy⟩:=AX1.1 l1;exact l5 (congrArg Prod.snd (AR1 hy)).symm
  ·unfold Q4 at k1;rw[Em f c,AQ3,if_neg (show ¬(hres N h != 0)=true by simp[o]),I9,AQ3,if_neg hb,Q0,AQ3]at k1;have hw2:=QO f a.tree m;have h63:=a.tree.2.1;have hlen:=QP a.tree u u (AQ6 _) m;have hit:=ML c (Tu h.Tree u) (Sl.nil:Sl Int) (fun x hx=>by have:=MK a.tree u u (AQ6 _) m x hx;have:=a.on;omega) (by show 0+_<=_;omega);have k1:(H7 N (u:Int) h.Tree).bind _=_:=k1;rw[hw2,AQ3,hit]at k1;exact k3 (congrArg Prod.snd (AR1 k1)).symm
 rw[AQ1]at l5;have hln:(U3 h u).n<=64:=Bb4 fun g=>a.long ⟨u,by have:=a.on;omega,g⟩;have hlo:=VJ a u u (AQ6 _) m;have hin:=QT c hlo;have hlk:=QU a hln hlo;have hls:LS s' (IH h (U3 h u)):=l5.ls;have j : Ek s':=fun i c=>by rw[l5.2 i c];exact hin i (by rw[<- l5.1];exact c)
 have hlk' : Dq N s':=⟨by rw[l5.1];exact hln,fun i c=>by rw[l5.2 i c];exact hlk.2 i (by rw[<- l5.1];exact c)⟩;obtain⟨r,r',d1,d2,d3,d4,_⟩:=YX f j (LS.refl s') l hw;have hdoc:EP N h w' (u:Int)=some (r'.1,r'.2):=by unfold EP;rw[l2,AQ3,d2];rfl
 rw[hdoc,AQ3];obtain⟨q,q1,q2⟩:=VM f c a (Tu h.Tree u) w w (fun x hx=>by have:=MK a.tree u u (AQ6 _) m x hx;omega) hwk (SE.refl w);have hway:=QO f a.tree m;refine⟨q,_,?_,rfl,?_⟩
 ·show (H7 N (u:Int) h.Tree).bind _=_;rw[hway];exact q1
 ·rw[Tx a.tree u u (AQ6 _) m,<- tl_eq.2 l5]at q2;rcases Hw f j hlk' hwk with⟨x,x1,x2,x3⟩ | ⟨x1,x2⟩
  ·obtain rfl:=AR1 (d1.symm.trans x2);rcases q2 with⟨y,y1,y2,y3,y4⟩ | ⟨y1,_⟩
   ·obtain rfl:=AR1 (x1.symm.trans y1);exact⟨y3.trans d3,y2.trans d4,fun _=>y4,fun _=>a⟩
   ·rw[x1]at y1;cases y1
  ·obtain rfl:=AR1 (d1.symm.trans x2);rcases q2 with⟨y,y1,_⟩ | ⟨y1,rfl⟩
   ·rw[x1]at y1;cases y1
   ·exact⟨d3,d4,fun e=>absurd e (by show ¬((11:Int)=0);decide),fun _=>a⟩
end Go.AM
namespace Go.AM
open IntKind (wrap)
open Go.Proofs
theorem eqR {R:Type}{x:Option R}{y:R}(h:∃r,x=some r/\r=y):x=some y:=by obtain⟨r,h,rfl⟩:=h;exact h
def II (t:Sl G7)(v:Nat):Prop:=∀u,0<u->u<t.n->(t.g u).Parent≠(v:Int)
open Classical in
noncomputable def AE (t:Sl G7):Nat->Sl Int
 |0=>(Sl.nil:Sl Int)
 |i+1=>if II t i then (AE t i).push (i:Int)else AE t i
theorem Gj {t:Sl G7}{i:Nat}(h:II t i):AE t (i+1)=(AE t i).push (i:Int):=if_pos h
theorem Kz {t:Sl G7}{i:Nat}(h:¬II t i):AE t (i+1)=AE t i:=if_neg h
theorem VN (t:Sl G7):∀i,(AE t i).n<=i
 |0=>AQ6 0
 |i+1=>by
  have:=VN t i
  by_cases h:II t i
  ·rw[Gj h];show (AE t i).n+1<=i+1;omega
  ·rw[Kz h];omega
theorem VO (t:Sl G7):∀i k,k<(AE t i).n->∃v:Nat,v<i/\(AE t i).g k=(v:Int)
 |0,k,hk=>absurd hk (AT6 k)
 |i+1,k,hk=>by
  by_cases h:II t i
  ·rw[Gj h]at hk⊢;have hk:k<(AE t i).n+1:=hk;show ∃v:Nat,v<i+1/\(if k<(AE t i).n then (AE t i).g k else (i:Int))=(v:Int);by_cases a:k<(AE t i).n
   ·rw[if_pos a];obtain⟨v,h1,b⟩:=VO t i k a;exact⟨v,by omega,b⟩
   ·rw[if_neg a];exact⟨i,by omega,rfl⟩
  ·rw[Kz h]at hk⊢;obtain⟨v,h1,b⟩:=VO t i k hk;exact⟨v,by omega,b⟩
theorem As4 {N:Nat}(s:3000000<=N){t:Sl G7}(ht:AO t):∃X,X3 N t=some X/\(X.n=t.n/\∀v,v<t.n->((X.g v).n=0↔II t v)):=by
 have o:=ht.2.1;unfold X3;refine ifT (by omega) (Q7 (fun i x (X:Sl (Sl Int))=>x=(i:Int)/\X.n=t.n/\∀v,v<t.n->(((X.g v).n=0 ↔ ∀u,0<u->u<i->(t.g u).Parent≠(v:Int))/\(X.g v).n<=i)) t.n _ (by omega)
  ⟨rfl,rfl,fun v b=>⟨⟨fun _ u h1 a=>absurd a (AT6 u),fun _=>rfl⟩,AQ6 0⟩⟩ ?_)
 rintro l i x X hle ⟨rfl,c,f⟩ hs;by_cases hl:i<t.n
 case neg=>
  obtain rfl:i=t.n:=by omega
  exact ifF (by simp) ⟨X,rfl,c,fun v b=>(f v b).1⟩
 refine ifT (by simpa using hl) (ifT (by omega) ?_);rw[AQ1,C5 (by omega)];rcases S4 ht hl with⟨q,h1⟩ | ⟨p,hp,e⟩
 ·subst q;rw[h1];refine ifT (by show Int.toNat (-1)<X.n;rw[c];exact hl) (ltX (ifF (by simp) (hs hl _ _ ⟨rfl,c,fun v b=>?_⟩)));have e:(X.upd (Int.toNat (-1)) (X.g (Int.toNat (-1)))).g v=X.g v:=by
   show (if v=_ then X.g (Int.toNat (-1))else X.g v)=X.g v;split
   ·rename_i e;rw[e]
   ·rfl
  rw[e];obtain⟨g1,g2⟩:=f v b;exact⟨g1.trans ⟨fun _ u h1 a=>absurd a (by omega),fun _ u h1 a=>absurd a (by omega)⟩,by omega⟩
 ·rw[e,AQ1];have j:p<t.n:=by omega
  have m:=(f p j).2;refine ifT (by omega) (ltX (ifT (by simp;omega) (ifT ⟨⟨by omega,by rw[c];omega⟩,by omega,by omega⟩ (hs hl _ _ ⟨rfl,c,fun v b=>?_⟩))));show ((if v=p then (X.g p).push (i:Int)else X.g v).n=0↔_)/\(if v=p then (X.g p).push (i:Int)else X.g v).n<=i+1;by_cases d:v=p
  ·subst d;rw[if_pos rfl];refine⟨⟨fun h=>absurd h (Nat.succ_ne_zero _),fun h=>absurd e (h i (by omega) (by omega))⟩,?_⟩;show (X.g v).n+1<=i+1;omega
  ·rw[if_neg d];obtain⟨g1,g2⟩:=f v b;refine⟨g1.trans ⟨fun h u h1 a=>?_,fun h u h1 a=>h u h1 (by omega)⟩,by omega⟩;by_cases r:u=i
   ·subst r;rw[e];omega
   ·exact h u h1 (by omega)
theorem AO7 {R:Type}{Q:R->Prop}{a:Sl Int->Int->Option R}{t:Sl G7}{i:Nat}(c:i<1000){b:Bool}(hb:b=true↔II t i)(h:∃r,a (AE t (i+1)) ((i+1:Nat):Int)=some r/\Q r) :∃r,(if b then
  if (((AE t i).n+(Sl.of [(i:Int)]:Sl Int).n)*8<=140737488355328/\(AE t i).n+(Sl.of [(i:Int)]:Sl Int).n<=140737488355328)then
   a ((AE t i).push (i:Int)) (wrap .i64 ((i:Int)+1))
  else none
  else a (AE t i) (wrap .i64 ((i:Int)+1)))=some r/\Q r:=by
 have hn:=VN t i;rw[C5 (by omega)];by_cases hk:II t i
 ·rw[Gj hk]at h;exact ifT (hb.2 hk) (ifT ⟨by show ((AE t i).n+1)*8<=_;omega,by show (AE t i).n+1<=_;omega⟩ h)
 ·rw[Kz hk]at h;exact ifF (fun g=>hk (hb.1 g)) h
theorem VP {N:Nat}(c:3000000<=N){t:Sl G7}(ht:AO t):∃r,Bi N t=some r/\r=AE t t.n:=by
 have d:=ht.2.1;unfold Bi;obtain⟨X,e,a,hk⟩:=As4 c ht;refine B4 e (Q7 (fun i x1 x2=>x2=(i:Int)/\x1=AE t i) t.n _ (by omega) ⟨rfl,rfl⟩ ?_);rintro b i x1 x2 hle ⟨rfl,rfl⟩ hs;by_cases hl:i<t.n
 ·refine ifT (by rw[a];simpa using hl) (ifT (by omega) ?_);rw[AQ1];exact AO7 (by omega) (by rw[<- hk i hl];simp) (hs hl _ _ ⟨rfl,rfl⟩)
 ·obtain rfl:i=t.n:=by omega
  exact ifF (by rw[a];simp) ⟨_,rfl,rfl⟩
theorem As5 {N:Nat}(l:3000000<=N){t:Sl G7}(ht:AO t){v:Nat}(m:v<t.n):∃r,Ap N t (v:Int)=some r/\(r.n=0↔II t v):=by
 have f:=ht.2.1;unfold Ap;refine Q7 (fun i (x1:Sl Int) x2=>x2=(i:Int)/\x1.n<=i/\(x1.n=0 ↔ ∀u,0<u->u<i->(t.g u).Parent≠(v:Int))) t.n _ (by omega) ⟨rfl,AQ6 0,fun _ u h1 a=>absurd a (AT6 u),fun _=>rfl⟩ ?_;rintro b i x1 x2 hle ⟨rfl,hn,c⟩ hs;by_cases hl:i<t.n
 ·refine ifT (by simpa using hl) (ifT (by omega) ?_);rw[AQ1,C5 (by omega)];by_cases hp:(t.g i).Parent=(v:Int)
  ·have d:0<i:=by
    rcases S4 ht hl with⟨d,h1⟩ | ⟨p,hp,e⟩
    ·rw[h1]at hp;omega
    ·omega
   refine ifT (by simpa using hp) (ifT ⟨by show (x1.n+1)*8<=_;omega,by show x1.n+1<=_;omega⟩ (hs hl _ _ ⟨rfl,by show x1.n+1<=i+1;omega,fun h=>absurd h (Nat.succ_ne_zero _),fun h=>absurd hp (h i d (by omega))⟩))
  ·refine ifF (by simpa using hp) (hs hl _ _ ⟨rfl,by omega,c.trans ⟨fun h u h1 a=>?_,fun h u h1 a=>h u h1 (by omega)⟩⟩);by_cases j:u=i
   ·subst j;exact hp
   ·exact h u h1 (by omega)
 ·obtain rfl:i=t.n:=by omega
  exact ifF (by simp) ⟨_,rfl,c⟩
theorem Zc {N:Nat}(a:3000000<=N){t:Sl G7}(c:MI t):∃s e,G4 N t=some (s,e)/\BV N t=some (s,e)/\((AO t/\e=0/\s=AE t t.n) \/ (¬AO t/\e=16/\s=(Sl.nil:Sl Int))):=by
 obtain⟨e,e1,e2,d⟩:=QN a c;unfold G4 BV;rw[e1,e2,AQ3,AQ3];rcases d with⟨rfl,ht⟩ | ⟨rfl,ht⟩
 ·have f:=ht.2.1;rw[if_neg (by decide),if_neg (by decide)];obtain⟨r,g1,rfl⟩:=VP a ht;refine⟨_,0,by rw[g1];rfl,eqR (Q7 (fun i x1 x2=>x2=(i:Int)/\x1=AE t i) t.n _ (by omega) ⟨rfl,rfl⟩ ?_),.inl ⟨ht,rfl,rfl⟩⟩;rintro b i x1 x2 hle ⟨rfl,rfl⟩ hs;by_cases hl:i<t.n
  ·refine ifT (by simpa using hl) ?_;obtain⟨r,k1,k2⟩:=As5 a ht hl;exact B4 k1 (AO7 (by omega) (by rw[<- k2];simp) (hs hl _ _ ⟨rfl,rfl⟩))
  ·obtain rfl:i=t.n:=by omega
   exact ifF (by simp) ⟨_,rfl,rfl⟩
 ·exact⟨_,16,if_pos (by decide),if_pos (by decide),.inr ⟨ht,rfl,rfl⟩⟩
end Go.AM
namespace Go.AM
open IntKind (wrap)
open Go.Proofs
def Aw9 (o:Option (Sl Sound))(y:Sl Sound)(e:Int):Prop:=(∃x,o=some x/\e=0/\SE y x/\wOk y) \/ (o=none/\e=11)
theorem Ah3 {N:Nat}(q:3000000<=N){h:A7}(c:U7 h)(b:Bk N h){x:Nat}(r:x<h.Tree.n){z z' : Sl Sound}(t:wOk z)(d:SE z z') :∃s y,H8 N h (h.On.g x)=some s/\G0 N s z=some y/\Aw9 (BD N (IH h (h.On.g x)).toList z') y.1 y.2:=by
 have a0:=b.on;obtain⟨o1,o2⟩:=AO6 b r;obtain⟨s,s1,s2,s3⟩:=QR q c b (l:=h.On.g x) (by omega) o2;have a:LS (IH h (h.On.g x)) s:=⟨s2.symm,fun i c=>s3 i c⟩;have f:=QT c o2;have j:=QU b o1 o2;have m:=QL a f;have o : Dq N s:=⟨by omega,fun i c=>(Da (a.2 i (by rw[a.1];exact c))).1 (j.2 i (by rw[a.1];exact c))⟩;have w:=Ah1 q _ _ z' z (Ah2 f j) a.s (d.wOk t) d.symm;rcases Hw q m o t with⟨v,d1,d2,d3⟩ | ⟨d1,d2⟩
 ·rcases w with⟨_,f2⟩ | ⟨u,u',f1,f2,f3,f4⟩
  ·rw[d1]at f2;cases f2
  ·rw[d1]at f2;obtain rfl:=AR1 f2;exact⟨s,_,s1,d2,.inl ⟨u,f1,rfl,f3.symm,d3⟩⟩
 ·rcases w with⟨f1,_⟩ | ⟨u,u',_,f2,_⟩
  ·exact⟨s,_,s1,d2,.inr ⟨f1,rfl⟩⟩
  ·rw[d1]at f2;cases f2
def DV (N:Nat)(h:A7)(w:Sl Sound)(v:Nat):Option (Sl Sound):=BD N (ND h (Tu h.Tree v)) w
theorem AG2 {N:Nat}{h:A7}{w:Sl Sound}{v:Nat}(a:(h.Tree.g v).Parent<0):DV N h w v=BD N (IH h (h.On.g v)).toList w:=by unfold DV ND;rw[En a];simp
theorem AG3 {N:Nat}{h:A7}{w:Sl Sound}{v p:Nat}(a:(h.Tree.g v).Parent=(p:Int))(hp:p<v):DV N h w v=(DV N h w p).bind (BD N (IH h (h.On.g v)).toList):=by unfold DV;rw[Jo a hp,<- MM];congr 1;unfold ND;simp
theorem As6 {N:Nat}(m:3000000<=N){h:A7}(q:U7 h)(a:Bk N h){w w' : Sl Sound}(hw:wOk w)(d:SE w w') :∃X,G5 N h w=some X/\(X.n=h.Tree.n/\∀v,v<h.Tree.n->Aw9 (DV N h w' v) (X.g v).w (X.g v).e):=by
 have t:=a.tree.2.1;have u:=a.on;unfold G5;refine ifT (by omega) ?_;refine Q7 (fun i (x1:Sl R8) x2=>x2=(i:Int)/\x1.n=h.Tree.n/\∀v,v<i->Aw9 (DV N h w' v) (x1.g v).w (x1.g v).e) h.Tree.n _ (by omega) ⟨rfl,by show (h.Tree.n:Int).toNat=_;omega,fun j b=>absurd b (by omega)⟩ ?_;rintro c i x1 x2 hle ⟨rfl,hx,b⟩ hs;by_cases hl:i<h.Tree.n
 case neg=>exact ifF (by simp;omega) ⟨_,rfl,hx,fun v z=>b v (by omega)⟩
 refine ifT (by simp;omega) (ifT (by omega) ?_);have put:∀o:R8,Aw9 (DV N h w' i) o.w o.e->∃r,c (x1.upd i o) (wrap .i64 ((i:Int)+1))=some r/\(r.n=h.Tree.n/\∀v,v<h.Tree.n->Aw9 (DV N h w' v) (r.g v).w (r.g v).e):=fun o ho=>
  hs hl _ _ ⟨C5 (by omega),hx,fun v z=>by
   show Aw9 _ (if v=i then o else x1.g v).w (if v=i then o else x1.g v).e;by_cases e:v=i
   ·rw[if_pos e,e];exact ho
   ·rw[if_neg e];exact b v (by omega)⟩
 rw[AQ1];rcases S4 a.tree hl with⟨e0,e⟩ | ⟨p,hp,e⟩
 ·have f:decide (0<=(h.Tree.g i).Parent)=false:=by rw[e];rfl
  rw[f];refine ifT (fun h=>by cases h) (ifT (by simp) (ifT (by omega) ?_));obtain⟨s,y,y1,y2,y3⟩:=Ah3 m q a hl hw d;refine B4 y1 (B4 y2 (ifT (by omega) (put ⟨y.1,y.2⟩ ?_)));rw[AG2 (by omega)];exact y3
 ·have f:decide (0<=(h.Tree.g i).Parent)=true:=by rw[e];simp
  rw[f];simp only[if_true];have l:(h.Tree.g i).Parent.toNat=p:=by omega
  rw[l];refine ifT (fun _=>by omega) ?_;rcases b p hp with⟨x,g1,g2,g3,g4⟩ | ⟨g1,g2⟩
  ·refine ifT (by rw[g2];rfl) (ifT (by omega) ?_);obtain⟨s,y,y1,y2,y3⟩:=Ah3 m q a hl g4 g3;refine B4 y1 (B4 y2 (ifT (by omega) (put ⟨y.1,y.2⟩ ?_)));rw[AG3 e hp,g1];exact y3
  ·refine ifF (by rw[g2];decide) (ifT (by omega) (put ⟨(x1.g p).w,(x1.g p).e⟩ ?_));rw[AG3 e hp,g1];exact .inr ⟨rfl,g2⟩
theorem Ah4 {N:Nat}(b:3000000<=N){h:A7}(f:U7 h)(a:Bk N h){w:Sl Sound}(hw:wOk w)(c:okA w){u:Nat}(g:u<h.Tree.n) :∃q,J1 N h w (u:Int)=some q/\Aw9 (DV N h w u) q.1 q.2/\q.1.n<=32:=by
 unfold J1 G1;rw[Em b f,hres_zero.2 a];obtain⟨e',e3,d⟩:=Gg (N:=N) (by omega) c;obtain rfl:=(T5 d).2 hw;simp only[AQ3,e3];have hb:¬(!((decide (0<=(u:Int)))&&(decide ((u:Int)<(h.Tree.n:Int)))))=true:=by simp;omega
 rw[ite_self,AQ3,if_neg (by simp),I9,AQ3,if_neg hb,Q0,AQ3];obtain⟨q,q1,q2⟩:=VM b f a (Tu h.Tree u) w w (fun x hx=>by have:=MK a.tree u u (AQ6 _) g x hx;omega) hw (SE.refl w);refine⟨q,?_,?_⟩
 ·show (H7 N (u:Int) h.Tree).bind _=_;rw[QO b a.tree g];exact q1
 ·rcases q2 with⟨y,y1,y2,y3,y4⟩ | ⟨y1,rfl⟩
  ·exact⟨.inl ⟨y,y1,y2,y3,y4⟩,y4.1⟩
  ·exact⟨.inr ⟨y1,rfl⟩,AX0 _⟩
theorem AG4 {N:Nat}(c:3000000<=N){h:A7}(d:U7 h)(b:Bk N h){w:Sl Sound}(hw:wOk w)(a:okA w){u:Nat}(g:u<h.Tree.n) :∃q,EP N h w (u:Int)=some q/\Aw9 (DV N h w u) q.1 q.2:=by
 obtain⟨q,q1,q2,_⟩:=Ah4 c d b hw a g;obtain⟨r,r',a1,a2,a3,a4,_⟩:=Aw8 c d (SE.refl w) a (u:Int);obtain rfl:=AR1 (q1.symm.trans a1);unfold Gu S1 at a2;obtain⟨e',e3,f⟩:=Cy (N:=N) (by omega) a;obtain rfl:=(T5 f).2 hw;have hb:¬(!((decide (0<=(u:Int)))&&(decide ((u:Int)<(h.Tree.n:Int)))))=true:=by simp;omega
 rw[IG c d,hres_zero.2 b]at a2;simp only[AQ3,e3]at a2;rw[ite_self,AQ3,if_neg (by simp),Bz,AQ3,if_neg hb]at a2;obtain⟨y,y1,y2⟩:=AX1.1 a2;obtain rfl:=AR1 y2;refine⟨y,y1,?_⟩;rcases q2 with⟨x,g1,g2,g3,g4⟩ | ⟨g1,g2⟩
 ·exact .inl ⟨x,g1,a4.symm.trans g2,a3.symm.trans g3,a3.wOk g4⟩
 ·exact .inr ⟨g1,a4.symm.trans g2⟩
end Go.AM
namespace Go.AM
open Go.Proofs
def someR (D:Nat->Option (Sl Sound))(n:Nat)(r:Sl (Sl Sound)×Int):Prop:=
 ((∃i,i<n/\D i=none)/\r.1.n=0/\r.2=11) \/ (r.1.n=n/\r.2=0/\∀i,i<n->∃x,D i=some x/\SE (r.1.g i) x/\wOk (r.1.g i))
def Xh (a b:Sl (Sl Sound)):Prop:=a.n=b.n/\a.n<=1000/\∀i,i<a.n->SE (a.g i) (b.g i)/\(a.g i).n<=32
theorem someR.agree {D:Nat->Option (Sl Sound)}{n:Nat}{r r' : Sl (Sl Sound)×Int}(hn:n<=1000)(h:someR D n r)(h' : someR D n r'):r.2=r'.2/\Xh r.1 r'.1:=by
 rcases h with⟨⟨i,d,m⟩,h1,f⟩ | ⟨h1,f,l⟩<;>rcases h' with⟨⟨i',g,j⟩,a,b⟩ | ⟨a,b,c⟩
 ·exact⟨by rw[f,b],by rw[h1,a],by omega,fun i d=>by omega⟩
 ·obtain⟨x,hx,_⟩:=c i d;rw[m]at hx;cases hx
 ·obtain⟨x,hx,_⟩:=l i' g;rw[j]at hx;cases hx
 ·refine⟨by rw[f,b],by rw[h1,a],by omega,fun i d=>?_⟩;obtain⟨x,a1,a2,a3⟩:=l i (by omega);obtain⟨x',b1,b2,b3⟩:=c i (by omega);rw[a1]at b1;obtain rfl:=AR1 b1;exact⟨a2.trans b2.symm,a3.1⟩
theorem Ty {N:Nat}(j:3000000<=N){a b:Sl (Sl Sound)}(h:Xh a b):AC N a b=some true:=by
 obtain⟨h1,l,f⟩:=h;refine eqR ?_;unfold AC;refine ifF (by simp[h1]) ?_;refine BB (fun i x=>x=(i:Int)) a.n _ (by omega) rfl ?_;rintro d i x m rfl hs;by_cases hl:i<a.n
 ·refine ifT (by simp;omega) (ifT (by omega) ?_);rw[AQ1];obtain⟨g1,g2⟩:=f i hl;obtain⟨c,c1,c2⟩:=VF (N:=N) (x:=a.g i) (y:=b.g i) (by omega) (by omega);obtain rfl:=c2.2 g1;exact B4 c1 (ifF (by simp) (hs hl _ (C5 (by omega))))
 ·exact ifF (by simp;omega) ⟨_,rfl,rfl⟩
theorem Xi {N:Nat}(s:3000000<=N){h:A7}(t:U7 h)(d:Bk N h){w:Sl Sound}(hw:wOk w)(f:okA w){l:Sl Int}(hn:l.n<=1000)(hl:∀i,i<l.n->∃u:Nat,u<h.Tree.n/\l.g i=(u:Int)) :∃r,Cx N h w l=some r/\someR (fun i=>DV N h w (l.g i).toNat) l.n r:=by
 unfold Cx;refine Q7 (fun i (x1:Sl (Sl Sound)) x2=>x2=(i:Int)/\x1.n=i/\∀j,j<i->∃x,DV N h w (l.g j).toNat=some x/\SE (x1.g j) x/\wOk (x1.g j)) l.n _ (by omega) ⟨rfl,rfl,fun j c=>absurd c (by omega)⟩ ?_;rintro o i x1 x2 hle ⟨rfl,hx,c⟩ hs;by_cases a:i<l.n
 case neg=>exact ifF (by simp;omega) ⟨_,rfl,.inr ⟨by show x1.n=_;omega,rfl,fun j m=>c j (by omega)⟩⟩
 refine ifT (by simp;omega) (ifT (by omega) ?_);rw[AQ1];obtain⟨u,v,b⟩:=hl i a;obtain⟨q,q1,q2⟩:=AG4 s t d hw f v;rw[b];refine B4 q1 ?_;rcases q2 with⟨x,g1,g2,g3,g4⟩ | ⟨g1,g2⟩
 ·refine ifF (by rw[g2];decide) (ifT (by show (x1.n+1)*24<=_/\x1.n+1<=_;omega) (hs a _ _ ⟨C5 (by omega),by show x1.n+1=_;omega,fun j m=>?_⟩));show ∃y,_/\SE (if j<x1.n then x1.g j else q.1) y/\wOk (if j<x1.n then x1.g j else q.1);by_cases e:j=i
  ·subst e;rw[if_neg (by omega),b];exact⟨x,g1,g3,g4⟩
  ·rw[if_pos (by omega)];exact c j (by omega)
 ·refine ifT (by rw[g2];decide) ⟨_,rfl,.inl ⟨⟨i,a,by show DV N h w (l.g i).toNat=none;rw[b];exact g1⟩,rfl,g2⟩⟩
theorem AG5 {N:Nat}(j:3000000<=N){h:A7}(l:U7 h){w w' : Sl Sound}(b:SE w w')(hw:okA w) :∃c,G1 N h w=some c/\S1 N h w' = some c/\(c=0->Bk N h/\wOk w/\wOk w'):=by
 unfold G1 S1;rw[Em j l,IG j l,AQ3,AQ3];by_cases i:hres N h=0
 case neg=>
  have d:(hres N h != 0)=true:=by simpa using i
  rw[if_pos d,if_pos d];exact⟨_,rfl,rfl,fun e=>absurd e i⟩
 have f:¬(hres N h != 0)=true:=by simp[i]
 rw[if_neg f,if_neg f];obtain⟨e',e3,g⟩:=Gg (N:=N) (by omega) hw;obtain⟨e'',e4,a⟩:=Cy (N:=N) (by omega) (YV b hw);obtain rfl:=IA (Xc b g) a;rw[e3,e4];exact⟨e',rfl,rfl,fun e=>⟨hres_zero.1 i,(T5 g).1 e,(T5 a).1 e⟩⟩
theorem Pc {N:Nat}(t:3000000<=N){h:A7}(u:U7 h){w w' : Sl Sound}(d:SE w w')(hw:okA w){c:Int}(hc:G1 N h w=some c)(v:c=0->Bk N h/\wOk w) :∃r,S3 N h w=some r/\(if c=0 then someR (DV N h w') h.Tree.n r else r=((Sl.nil:Sl (Sl Sound)),c)):=by
 unfold S3;refine B4 hc ?_;by_cases f:c=0
 case neg=>exact ifT (by simpa using f) ⟨_,rfl,by rw[if_neg f]⟩
 subst f;simp only[if_true];refine ifF (by decide) ?_;obtain⟨a,l⟩:=v rfl;obtain⟨X,x1,x2,x3⟩:=As6 t u a l d;refine B4 x1 ?_;have z:=a.tree.2.1;refine Q7 (fun i (x1:Sl (Sl Sound)) x2=>x2=(i:Int)/\x1.n=i/\∀j,j<i->∃x,DV N h w' j=some x/\SE (x1.g j) x/\wOk (x1.g j)) X.n _ (by omega) ⟨rfl,rfl,fun j b=>absurd b (by omega)⟩ ?_;rintro q i x1 x4 hle ⟨rfl,hx,b⟩ hs;by_cases m:i<X.n
 case neg=>exact ifF (by simp;omega) ⟨_,rfl,.inr ⟨by show x1.n=_;omega,rfl,fun j o=>b j (by omega)⟩⟩
 refine ifT (by simp;omega) (ifT (by omega) ?_);rw[AQ1];rcases x3 i (by omega)with⟨x,g1,g2,g3,g4⟩ | ⟨g1,g2⟩
 ·refine ifF (by rw[g2];decide) ?_;have s:=g4.1;unfold A5;rw[if_pos (by omega)];refine B4 rfl (ifT (by show (x1.n+1)*24<=_/\x1.n+1<=_;omega) (hs m _ _ ⟨C5 (by omega),by show x1.n+1=_;omega,fun j o=>?_⟩));show ∃y,_/\SE (if j<x1.n then x1.g j else (X.g i).w) y/\wOk (if j<x1.n then x1.g j else (X.g i).w);by_cases e:j=i
  ·subst e;rw[if_neg (by omega)];exact⟨x,g1,g3,g4⟩
  ·rw[if_pos (by omega)];exact b j (by omega)
 ·exact ifT (by rw[g2];decide) ⟨_,rfl,.inl ⟨⟨i,by omega,g1⟩,rfl,g2⟩⟩
theorem Zd {N:Nat}(t:3000000<=N){h:A7}(u:U7 h){w:Sl Sound}(hw:okA w){c:Int}(hc:S1 N h w=some c)(v:c=0->Bk N h/\wOk w) :∃r,CY N h w=some r/\(if c=0 then someR (DV N h w) h.Tree.n r else r=((Sl.nil:Sl (Sl Sound)),c)):=by
 unfold CY;refine B4 hc ?_;by_cases m:c=0
 case neg=>exact ifT (by simpa using m) ⟨_,rfl,by rw[if_neg m]⟩
 subst m;simp only[if_true];refine ifF (by decide) ?_;obtain⟨d,o⟩:=v rfl;have y:=d.tree.2.1;refine Q7 (fun i (x1:Sl Int) x2=>x2=(i:Int)/\x1.n=i/\∀j,j<i->x1.g j=(j:Int)) h.Tree.n _ (by omega) ⟨rfl,rfl,fun j b=>absurd b (by omega)⟩ ?_;rintro s i x1 x2 hle ⟨rfl,hx,b⟩ hs;by_cases q:i<h.Tree.n
 ·refine ifT (by simp;omega) (ifT (by show (x1.n+1)*8<=_/\x1.n+1<=_;omega) (hs q _ _ ⟨C5 (by omega),by show x1.n+1=_;omega,fun j a=>?_⟩));show (if j<x1.n then x1.g j else (i:Int))=(j:Int);by_cases e:j=i
  ·subst e;rw[if_neg (by omega)]
  ·rw[if_pos (by omega)];exact b j (by omega)
 ·refine ifF (by simp;omega) ?_;obtain⟨r,r1,r2⟩:=Xi t u d o hw (l:=x1) (by omega) (fun j a=>⟨j,by omega,b j (by omega)⟩);refine B4 r1 ⟨_,rfl,?_⟩;rcases r2 with⟨⟨j,a,f⟩,a1,a2⟩ | ⟨a1,a2,a3⟩
  ·replace f:DV N h w (x1.g j).toNat=none:=f;rw[b j (by omega),AQ1]at f;exact .inl ⟨⟨j,by omega,f⟩,a1,a2⟩
  ·refine .inr ⟨by show r.1.n=_;omega,a2,fun j a=>?_⟩;obtain⟨x,b1,b2⟩:=a3 j (by omega);replace b1:DV N h w (x1.g j).toNat=some x:=b1;rw[b j (by omega),AQ1]at b1;exact⟨x,b1,b2⟩
theorem Tz (t:Sl G7):∀i v,v<i->II t v->∃k,k<(AE t i).n/\(AE t i).g k=(v:Int)
 |0,v,h,_=>by omega
 |i+1,v,h,hv=>by
  by_cases e:v=i
  ·subst e;rw[Gj hv];exact⟨(AE t v).n,Bf6 _,by show (if (AE t v).n<(AE t v).n then _ else _)=_;rw[if_neg (by omega)]⟩
  ·obtain⟨k,k1,k2⟩:=Tz t i v (by omega) hv;by_cases hn:II t i
   ·rw[Gj hn];exact⟨k,Nat.lt_succ_of_lt k1,by show (if k<(AE t i).n then _ else _)=_;rw[if_pos k1];exact k2⟩
   ·rw[Kz hn];exact⟨k,k1,k2⟩
theorem Ah5 {N:Nat}{h:A7}{w:Sl Sound}(ht:AO h.Tree):∀(m v:Nat),h.Tree.n<=v+m->v<h.Tree.n->DV N h w v=none->∃u,u<h.Tree.n/\II h.Tree u/\DV N h w u=none
 |0,v,hm,hv,hd=>by omega
 |m+1,v,hm,hv,hd=>by
  by_cases hk:II h.Tree v
  ·exact⟨v,hv,hk,hd⟩
  ·simp only[II,Bg8,not_imp,Be9]at hk;obtain⟨u,u1,u2,u3⟩:=hk;have a:v<u:=by
    have:=((ht.2.2 u u2).2.1 u1).2
    rw[u3]at this;omega
   exact Ah5 ht m u (by omega) u2 (by rw[AG3 u3 a,hd];rfl)
theorem Ah6 {N:Nat}(hN:3000000<=N){h:A7}(d:U7 h){w w' : Sl Sound}(m:SE w w')(hw:okA w){c:Int}(hc:G1 N h w=some c)(o : S1 N h w' = some c)(hz:c=0->Bk N h/\wOk w/\wOk w') :∃r r',J2 N h w=some r/\X4 N h w' = some r' /\ r.2=r'.2/\Xh r.1 r'.1:=by
 obtain⟨f,f1,f2⟩:=Pc hN d m hw hc fun e=>⟨(hz e).1,(hz e).2.1⟩;by_cases h0:c=0
 case neg=>
  rw[if_neg h0]at f2;subst f2;have q:(c != 0)=true:=by simpa using h0
  refine⟨((Sl.nil:Sl (Sl Sound)),c),((Sl.nil:Sl (Sl Sound)),c),?_,?_,rfl,⟨rfl,AX0 _,fun i d=>absurd d (AT6 i)⟩⟩
  ·unfold J2;rw[f1,AQ3,if_pos q]
  ·unfold X4;rw[o,AQ3,if_pos q]
 subst h0;rw[if_pos rfl]at f2;obtain⟨a,hwk,t⟩:=hz rfl;have h63:=a.tree.2.1;obtain⟨s,e,l1,l2,l3⟩:=Zc hN d.tree;rcases l3 with⟨_,rfl,hs⟩ | ⟨l3,_⟩
 case inr=>exact absurd a.tree l3
 have hsn:=VN h.Tree h.Tree.n;have z:∀k,k<s.n->∃u:Nat,u<h.Tree.n/\s.g k=(u:Int):=fun k hk=>by rw[hs]at hk⊢;obtain⟨v,v1,v2⟩:=VO h.Tree h.Tree.n k hk;exact⟨v,v1,v2⟩
 have b : s.n<=1000:=by rw[hs];omega
 obtain⟨r',r1,r2⟩:=Xi hN d a t (YV m hw) (l:=s) b z;have a0:X4 N h w' = some (r'.1,r'.2):=by unfold X4;rw[o,AQ3,if_neg (by decide),l2,AQ3,r1];rfl
 suffices ∃r,J2 N h w=some r/\someR (fun i=>DV N h w' (s.g i).toNat) s.n r by obtain⟨r,a1,a2⟩:=this;obtain⟨b1,b2⟩:=a2.agree b r2;exact⟨r,_,a1,a0,b1,b2⟩
 unfold J2;refine B4 f1 ?_;rcases f2 with⟨⟨v,hv,hd⟩,g1,g2⟩ | ⟨g1,g2,g3⟩
 ·obtain⟨u,u1,u2,u3⟩:=Ah5 a.tree h.Tree.n v (by omega) hv hd;obtain⟨k,k1,k2⟩:=Tz h.Tree h.Tree.n u u1 u2;refine ifT (by rw[g2];decide) ⟨_,rfl,.inl ⟨⟨k,by rw[hs];exact k1,?_⟩,rfl,g2⟩⟩;show DV N h w' (s.g k).toNat=none;rw[hs,k2,AQ1];exact u3
 ·refine ifF (by rw[g2];decide) (B4 l1 ?_);refine Q7 (fun i (x1:Sl (Sl Sound)) x2=>x2=(i:Int)/\x1.n=i/\∀j,j<i->∃x,DV N h w' (s.g j).toNat=some x/\SE (x1.g j) x/\wOk (x1.g j)) s.n _ (by omega) ⟨rfl,rfl,fun j hj=>absurd hj (by omega)⟩ ?_;rintro self i x1 x2 hle ⟨rfl,hx,hj⟩ hs2;by_cases a3:i<s.n
  case neg=>exact ifF (by simp;omega) ⟨_,rfl,.inr ⟨by show x1.n=_;omega,rfl,fun j hjl=>hj j (by omega)⟩⟩
  obtain⟨u,hu,a4⟩:=z i a3;refine ifT (by simp;omega) ?_;rw[AQ1,a4,AQ1];refine ifT ⟨by show (((0<=(i:Int)/\(i:Int)<(s.n:Int))/\i<s.n)/\0<=(u:Int)/\(u:Int)<(f.1.n:Int))/\u<f.1.n;omega,by show (x1.n+1)*24<=_/\x1.n+1<=_;omega⟩ (hs2 a3 _ _ ⟨C5 (by omega),by show x1.n+1=_;omega,fun j hjl=>?_⟩);obtain⟨x,b1,b2,b3⟩:=g3 u hu;show ∃y,_/\SE (if j<x1.n then x1.g j else f.1.g u) y/\wOk (if j<x1.n then x1.g j else f.1.g u);by_cases e:j=i
  ·subst e;rw[if_neg (by omega),a4,AQ1];exact⟨x,b1,b2,b3⟩
  ·rw[if_pos (by omega)];exact hj j (by omega)
end Go.AM
namespace Go.AM
open Go.Proofs
theorem Ah7 {N:Nat}(t:3000000<=N)(h:A7):∃b,CW N h=some b/\True:=by
 unfold CW;by_cases hb:(((decide (70<(h.Tree.n:Int)))||(decide (70<(h.Laws.n:Int))))||(decide (70<(h.On.n:Int))))=true
 ·exact ifT hb ⟨_,rfl,trivial⟩
 refine ifF hb ?_;have o : h.Laws.n<=70/\h.On.n<=70:=by simp at hb;omega
 refine BB (fun i x=>x=(i:Int)) h.On.n _ (by omega) rfl ?_;rintro l i x q rfl hs;by_cases d:i<h.On.n
 ·refine ifT (by simp;omega) (ifT (by omega) ?_);by_cases m:(decide (70<((h.On.g (i:Int).toNat).n:Int)))=true
  ·exact ifT m ⟨_,rfl,trivial⟩
  ·exact ifF m (hs d _ (C5 (by omega)))
 ·refine ifF (by simp;omega) ?_;refine BB (fun i x=>x=(i:Int)) h.Laws.n _ (by omega) rfl ?_;rintro f i x q rfl j;by_cases d:i<h.Laws.n
  ·rw[C5 (by omega)];refine ifT (by simp;omega) (ifT (by omega) ?_);obtain⟨r,s⟩:=Ar9 (N:=N) (by omega) (h.Laws.sub (i:Int).toNat ((i+1:Nat):Int).toNat);refine B4 s ?_;have last:∀z3:Bool,∃r,(if z3 then some false else f ((i+1:Nat):Int))=some r/\True:=fun z=>by
    cases z
    ·exact ifF (by simp) (j d _ rfl)
    ·exact ifT rfl ⟨_,rfl,trivial⟩
   refine ltX ?_;by_cases g1:(decide (4<r))=true
   ·exact ifT g1 (last _)
   refine ifF g1 ?_;by_cases g2:(decide (20<((h.Laws.g (i:Int).toNat).If.n:Int)))=true
   ·exact ifT g2 (last _)
   refine ifF g2 ?_;by_cases g3:(decide (20<((h.Laws.g (i:Int).toNat).Out.n:Int)))=true
   ·exact ifT g3 (last _)
   refine ifF g3 ?_;obtain⟨a,ha,_⟩:=QM (N:=N) (by omega) (h.Laws.g (i:Int).toNat).Left;refine B4 ha ?_;by_cases g4:(decide (41<(a:Int)))=true
   ·exact ifT g4 (last _)
   refine ifF g4 ?_;obtain⟨c,hc,_⟩:=QM (N:=N) (by omega) (h.Laws.g (i:Int).toNat).Right;exact B4 hc (last _)
  ·exact ifF (by simp;omega) ⟨_,rfl,trivial⟩
theorem at_n {N:Nat}(i:3000000<=N){h:A7}(j:U7 h){w:Sl Sound}(b:okA w){c:Int}(c1:G1 N h w=some c)(c3:c=0->Bk N h/\wOk w){v:Int}{a:Sl Sound×Int}(ha:J1 N h w v=some a):a.1.n<=32:=by
 by_cases d:c=0
 ·obtain⟨f,g⟩:=c3 d;by_cases l:0<=v/\v<(h.Tree.n:Int)
  ·obtain⟨u,rfl⟩:∃u:Nat,v=(u:Int):=⟨v.toNat,by omega⟩;obtain⟨q,q1,_,q3⟩:=Ah4 i j f g b (u:=u) (by omega);obtain rfl:=AR1 (q1.symm.trans ha);exact q3
  ·have hb:(!((decide (0<=v))&&(decide (v<(h.Tree.n:Int)))))=true:=by simp;omega
   unfold J1 at ha;rw[c1,AQ3,if_neg (by simp[d]),I9,AQ3,if_pos hb]at ha;obtain rfl:=AR1 ha;exact AX0 _
 ·unfold J1 at ha;rw[c1,AQ3,if_pos (by simpa using d)]at ha;obtain rfl:=AR1 ha;exact AX0 _
theorem JZ {N:Nat}(o:3000000<=N)(hw:BA N=some true){h:A7}(q:U7 h){w:Sl Sound}(r:okA w)(v:Int):U6 N h w v=some true:=by
 refine eqR ?_;unfold U6;obtain⟨b,b1,_⟩:=Ah7 o h;refine B4 b1 ?_;by_cases hb:((!b)||(decide (50<(w.n:Int))))=true
 ·exact ifT hb (B4 hw ⟨_,rfl,rfl⟩)
 refine ifF hb ?_;have a6:w.n<=50:=by simp only[AS2,decide_eq_true_eq,not_or]at hb;omega
 have s:∀x:Sl Sound,SE ((Sl.of []:Sl Sound).app x) x:=fun x=>⟨AT2 _,fun i t=>by show (if i<0 then (Sl.of []:Sl Sound).g i else x.g (i-0))=_;rw[if_neg (AT6 i),Nat.sub_zero]⟩
 have j:=s w;generalize (Sl.of []:Sl Sound).app w=w1 at j⊢;have m:okA w1:=YV j.symm r;refine ifT (by show (0+w.n)*8<=_/\0+w.n<=_;omega) ?_;obtain⟨a,a',a1,a2,a3,a4,a5,_⟩:=Aw8 o q j m v;obtain⟨c,c1,c2,c3⟩:=AG5 o q j m;obtain⟨f,f1,f2⟩:=Pc o q j m c1 fun e=>⟨(c3 e).1,(c3 e).2.1⟩;obtain⟨f',f1',f2'⟩:=Zd o q r c2 fun e=>⟨(c3 e).1,(c3 e).2.2⟩;obtain⟨l,l',l1,l2,l3,l4⟩:=Ah6 o q j m c1 c2 c3;have hf:f.2=f'.2/\Xh f.1 f'.1:=by
  by_cases u:c=0
  ·rw[if_pos u]at f2 f2'
   have:=(c3 u).1.tree.2.1
   exact f2.agree (by omega) f2'
  ·rw[if_neg u]at f2 f2';subst f2;subst f2';exact⟨rfl,rfl,AX0 _,fun i t=>absurd t (AT6 i)⟩
 obtain⟨z,a0⟩:=hf;refine B4 a1 (B4 a2 (B4 f1 (B4 f1' (B4 l1 (B4 l2 ?_)))));have hn1:a.1.n<=32:=at_n o q m c1 (fun e=>⟨(c3 e).1,(c3 e).2.1⟩) a1;obtain⟨e,e1,e2⟩:=VF (N:=N) (x:=a.1) (y:=a'.1) (by omega) (by omega);obtain rfl:=e2.2 a3;refine B4 e1 (ltX (ifT rfl (ifT (by simp[a4]) (B4 (Ty o a0) (ifT rfl (ifT (by simp[z]) (B4 (Ty o l4) (ifT rfl (ifT (by simp[l3]) ?_)))))))));have hw1:=j.1;obtain⟨d,d1,d2⟩:=VF (N:=N) (x:=w1) (y:=w) (by omega) (by omega);obtain rfl:=d2.2 j;exact B4 d1 (ifT rfl (B4 hw ⟨_,rfl,rfl⟩))
end Go.AM
