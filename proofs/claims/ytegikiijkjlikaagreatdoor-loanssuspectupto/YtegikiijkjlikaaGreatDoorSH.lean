/- What a law's walk and its plain proof need, part 8: no condition of its own. -/
import Derived.Test.YtegikiijkjlikaaGreatDoorSG
import Derived.Test.YtegikiijkjlikaaGreatDoorSF
set_option linter.defProp false
set_option linter.unusedSimpArgs false
set_option linter.unusedVariables false
set_option linter.unusedSectionVars false
namespace Go.AM
open IntKind (wrap)
def Bc5:=@Nat.not_lt_zero
def Bl7:=@List.mem_reverse
def Bn3:=@Classical.not_not
open Go.Proofs
open Classical in
noncomputable def hitB (l:Law) (w:Sl Sound) (i:Nat):Bool:=decide (Qf l w i)
theorem hitB_iff {l:Law}{w:Sl Sound}{i:Nat}:hitB l w i=true↔Qf l w i:=by simp[hitB]
noncomputable def Ec (l:Law) (w:Sl Sound) (i:Nat):List Int:=((List.range' i (w.n+1-i)).filter (hitB l w)).map fun (j:Nat)=>(j:Int)
theorem JM {l:Law}{w:Sl Sound}{i:Nat}(h:w.n<i+l.If.n):Ec l w i=[]:=by
 unfold Ec;rw[Bo2.2 fun j hj hb=>by
  have:=Bj3.1 hj
  have:=(hitB_iff.1 hb).1
  omega]
 rfl
theorem Ja {l:Law}{w:Sl Sound}{i:Nat}(hi:i<=w.n)(h:Qf l w i):Ec l w i=(i:Int)::Ec l w (i+1):=by unfold Ec;rw[show w.n+1-i=(w.n+1-(i+1))+1 by omega,Bg8,Bk5 (hitB_iff.2 h)];rfl
theorem Jb {l:Law}{w:Sl Sound}{i:Nat}(h:¬Qf l w i):Ec l w i=Ec l w (i+1):=by
 unfold Ec;by_cases hi:i<=w.n
 ·rw[show w.n+1-i=(w.n+1-(i+1))+1 by omega,Bg8,Bk6 fun hb=>h (hitB_iff.1 hb)]
 ·rw[show w.n+1-i=0 by omega,show w.n+1-(i+1)=0 by omega];rfl
theorem Az1 {l:Law}{w:Sl Sound}{i:Nat}{y:Int}(h:y∈Ec l w i):(i:Int)<=y:=by
 obtain⟨j,hj,rfl⟩:=Bh0.1 h
 have:=Bj3.1 (Bk3.1 hj).1
 omega
theorem Yn {N:Nat}(hN:3000<=N){l:Law}(hl:okL l)(hk:l.If.n<=4){w:Sl Sound}(hw:okW w)(i:Nat)(hi:i<1500):X0 N l w (i:Int)=some (Ec l w i):=by
 unfold X0;show (some (l,w)).bind _=_;rw[AY7];simp only[]
 suffices h:∀(k i:Nat),i<1501->w.n+1-i<=k->∀F,k<F->∃r,R5 F (fun (self3:Int->Option (List Int)) (x2:Int)=>
  if (decide ((wrap .i64 (x2+(l.If.n:Int)))<=(w.n:Int))) then
   R5 N (fun (self4:Int->Option (List Int)) (x4:Int)=>
    if (decide (x4<(l.If.n:Int))) then
     if ((0:Int)<=x4/\x4<(l.If.n:Int))then
      if ((0:Int)<=(wrap .i64 (x2+x4))/\(wrap .i64 (x2+x4))<(w.n:Int))then
       (J1 N (w.g (wrap .i64 (x2+x4)).toNat) (l.If.g x4.toNat)).bind fun y12=>
       if (!y12) then
        self3 (wrap .i64 (x2+1))
       else
        self4 (wrap .i64 (x4+1))
      else none
     else none
    else
     (U2 N x2 l w).bind fun y13=>
     if y13 then
      Be x2 (
       self3 (wrap .i64 (x2+1))
       )
     else
      self3 (wrap .i64 (x2+1))
    ) 0
  else
   some []
  ) (i:Int)=some r/\r=Ec l w i by
  obtain⟨r,h1,rfl⟩:=h (w.n+1-i) i (by omega) (AZ0 _) N (by have:=hw.1;omega);exact h1
 intro k
 induction k with
 |zero=>
  intro i hi hk2 F hF
  match F,hF with
  |F+1,_=>rw[V8,Dy (by omega)];exact ifF (by simp;omega) ⟨_,rfl,(JM (by omega)).symm⟩
 |succ k ih=>
  intro i hi hk2 F hF
  match F,hF with
  |F+1,hF=>
   rw[V8,Dy (by omega)];by_cases hn:i+l.If.n<=w.n
   case neg=>exact ifF (by simp;omega) ⟨_,rfl,(JM (by omega)).symm⟩
   refine ifT (by simp;omega) ?_;have hw1:=hw.1;obtain⟨r,hr,hr2⟩:=ih (i+1) (by omega) (by omega) F (by omega);have hself:∀(Q:List Int->Prop),Q (Ec l w (i+1))->∃r,R5 F _ (IntKind.i64.wrap ((i:Int)+1))=some r/\Q r:=fun Q hQ=>⟨r,by rw[C0 (by omega)];exact hr,by rw[hr2];exact hQ⟩;refine BD (fun j x1=>x1=(j:Int)/\∀k,k<j->AP7 (w.g (i+k)) (l.If.g k)) l.If.n _ (by omega) ⟨rfl,fun k hk=>absurd hk (by omega)⟩ ?_;rintro self j x1 hj ⟨rfl,h⟩ hs;by_cases hlt:j<l.If.n
   ·rw[Dy (by omega)];refine ifT (by simp;omega) (ifT (by omega) (ifT (by omega) ?_));obtain⟨b,eb,hb⟩:=Ay9 (N:=N) (hw.2 (i+j) (by omega)) (hl.2.2 j hlt);refine B4 (by rw[AY3,AY3];exact eb) ?_;cases b
    ·refine ifT rfl (hself _ ?_);exact (Jb fun h2=>by have:=hb.2 (h2.2.1 j hlt);cases this).symm
    ·refine ifF (by simp) (hs hlt _ ⟨C0 (by omega),fun k hk2=>?_⟩);by_cases e:k=j
     ·subst e;exact hb.1 rfl
     ·exact h k (by omega)
   ·refine ifF (by simp;omega) ?_;obtain⟨b,eb,hb⟩:=Ab0 hN hl hk hw i (by omega);refine B4 eb ?_;cases b
    ·refine ifF (by simp) (hself _ ?_);exact (Jb fun h2=>by have:=hb.2 h2.2.2;cases this).symm
    ·refine ifT rfl ?_;have hh:Qf l w i:=⟨hn,fun k hk2=>h k (by omega),hb.1 rfl⟩;refine⟨(i:Int)::Ec l w (i+1),?_,(Ja (by omega) hh).symm⟩;rw[C0 (by omega),hr,hr2];rfl
theorem Am6 {N:Nat}(hN:3000<=N){l:Law}(hl:okL l)(hk:l.If.n<=4){w:Sl Sound}(hw:okW w)(i:Nat)(hi:i<1500) :∃b,Cs N l w (i:Int)=some b/\(b=true↔Qf l w i):=by
 unfold Cs;refine B4 (x:=(l,w,(i:Int))) rfl (B4 (Yn hN hl hk hw i hi) ?_);by_cases h:Qf l w i
 ·rw[Ja (by have:=h.1;omega) h];exact⟨true,by simp[P4],by simp[h]⟩
 ·rw[Jb h];rcases hL:Ec l w (i+1)with _|⟨t,L⟩
  ·exact⟨false,rfl,by simp[h]⟩
  ·have:((i+1:Nat):Int)<=t:=Az1 (l:=l) (w:=w) (by rw[hL];simp)
   exact⟨false,by show some (t==(i:Int))=some false;congr 1;simp;omega,by simp[h]⟩
end Go.AM
namespace Go.AM
open IntKind (wrap)
open Go.Proofs
def okO (x:Bj):Prop:=okS x.Set/\(∃c:BitVec 32,x.Clear=(c.toNat:Int))/\∃t:BitVec 32,x.Take=(t.toNat:Int)
theorem AE2 {p m a b s:BitVec 32}(h1:vB p m=true)(h2:vB a b=true):vB (RZ p a s) (RZ m b s)=true:=by rw[Fx]at *;intro i hi;have g1:=h1 i hi;have g2:=h2 i hi;simp only[RZ,AZ8,AZ9,Bd2];revert g1 g2;cases s.getLsbD i<;>cases p.getLsbD i<;>cases m.getLsbD i<;>cases a.getLsbD i<;>cases b.getLsbD i<;>simp[hi]
theorem vS0:vS (⟨0,0⟩:Sound):=⟨0#32,0#32,rfl,by decide +kernel⟩
theorem WM {N:Nat}(hN:1000<=N){s t:Sound}{c:Int}(hs:okS s)(hc:∃b:BitVec 32,c=(b.toNat:Int))(ht:okS t):∃y,N8 N s c t=some y/\Q3 N s c t=some y/\vS y.1:=by
 obtain⟨p,m,rfl⟩:=hs;obtain⟨a,b,rfl⟩:=ht;obtain⟨d,rfl⟩:=hc;refine⟨_,Aa6 p m d a b,Aa7 p m d a b hN,?_⟩;unfold Ay0;split
 ·rename_i h;split
  ·exact⟨_,_,rfl,AE2 h.1 h.2⟩
  ·exact vS0
 ·exact vS0
theorem Am7 {N:Nat}(hN:1000<=N){s t:Sound}{c:Int}(hs:okS s)(hc:∃b:BitVec 32,c=(b.toNat:Int))(ht:okS t):∃y,S7 N s t c=some y/\Y9 N s t c=some y/\vS y.1:=by
 obtain⟨p,m,rfl⟩:=hs;obtain⟨a,b,rfl⟩:=ht;obtain⟨d,rfl⟩:=hc;refine⟨_,Ay2 p m a b d,Ay3 p m a b d hN,?_⟩;unfold Ay1;split
 ·rename_i h;split
  ·exact⟨_,_,rfl,AE2 h.1 h.2⟩
  ·exact vS0
 ·exact vS0
def AP8 (l:Law):Prop:=l.Out.n<=6/\∀i,i<l.Out.n->okO (l.Out.g i)/\(l.Out.g i).From<l.If.n/\((l.Out.g i).Take≠0->0<=(l.Out.g i).Of/\(l.Out.g i).Of<l.If.n)
theorem eqX {R:Type}{Q:R->Prop}{o o' : Option R}(h:o=o')(h2:∃r,o' = some r/\Q r):∃r,o=some r/\Q r:=by rw[h];exact h2
def BJ (f:Nat->Sound):Nat->Sl Sound
 |0=>Sl.nil
 |m+1=>(BJ f m).push (f m)
theorem HS (f:Nat->Sound):∀m,(BJ f m).n=m
 |0=>rfl
 |m+1=>by show (BJ f m).n+1=_;rw[HS f m]
theorem WN (f:Nat->Sound):∀{m i:Nat},i<m->(BJ f m).g i=f i
 |0,i,h=>by omega
 |m+1,i,h=>by
  show (if i<(BJ f m).n then (BJ f m).g i else f m)=f i;rw[HS];by_cases e:i<m
  ·rw[if_pos e,WN f e]
  ·rw[if_neg e,show i=m by omega]
abbrev srcS (l:Law)(cut:Sl Sound)(i:Nat):Sound:=⟨(if (decide (0<=(l.Out.g i).From)) then (cut.g (l.Out.g i).From.toNat).Plus else 0),(if (decide (0<=(l.Out.g i).From)) then (cut.g (l.Out.g i).From.toNat).Minus else 0)⟩
theorem AM9 {N:Nat}(hN:1000<=N){l:Law}(ho:AP8 l){cut:Sl Sound}(hn:cut.n=l.If.n)(hc:∀i,i<cut.n->okS (cut.g i)) :∃s,N5 N l cut=some s/\Bu N l cut=some s/\s.n=l.Out.n/\∀i,i<s.n->vS (s.g i):=by
 have one:∀i,∃y:Sound,i<l.Out.n->vS y/\∀(R:Type) (k:Sound->Option R),
  (∀(Ch:Nat->Sound->Int->Sound->Option (Sound×Int)) (Ta:Nat->Sound->Sound->Int->Option (Sound×Int)),(Ch=N8/\Ta=S7) \/ (Ch=Q3/\Ta=Y9) ->
  (if ((decide (0<=(l.Out.g i).From))=true->((0:Int)<=(l.Out.g i).From/\(l.Out.g i).From<(cut.n:Int)))then
   (Ch N (⟨(if (decide (0<=(l.Out.g i).From)) then (cut.g (l.Out.g i).From.toNat).Plus else 0),(if (decide (0<=(l.Out.g i).From)) then (cut.g (l.Out.g i).From.toNat).Minus else 0)⟩:Sound) (l.Out.g i).Clear (l.Out.g i).Set).bind fun y5=>
   if ((l.Out.g i).Take != 0) then
    if ((0:Int)<=(l.Out.g i).Of/\(l.Out.g i).Of<(cut.n:Int))then
     (Ta N y5.1 (cut.g (l.Out.g i).Of.toNat) (l.Out.g i).Take).bind fun y6=>k y6.1
    else none
   else k y5.1
   else none)=k y):=by
  intro i;by_cases hi:i<l.Out.n
  case neg=>exact⟨default,fun h=>absurd h hi⟩
  obtain⟨⟨hset,hcl,hta⟩,hfr,hof⟩:=ho.2 i hi;have hs:okS (⟨(if (decide (0<=(l.Out.g i).From)) then (cut.g (l.Out.g i).From.toNat).Plus else 0),(if (decide (0<=(l.Out.g i).From)) then (cut.g (l.Out.g i).From.toNat).Minus else 0)⟩:Sound):=by
   by_cases hf:0<=(l.Out.g i).From
   ·simp only[hf,decide_true,if_true];exact hc _ (by omega)
   ·simp only[hf,decide_false,AZ2,if_false];exact⟨0#32,0#32,rfl⟩
  obtain⟨y,e1,e2,hy⟩:=WM hN hs hcl hset;by_cases ht:(l.Out.g i).Take=0
  ·refine⟨y.1,fun _=>⟨hy,fun R k Ch Ta h=>?_⟩⟩;rw[if_pos (fun h=>by have:=of_decide_eq_true h;omega)]
   have:Ch N (srcS l cut i) (l.Out.g i).Clear (l.Out.g i).Set=some y:=by
    rcases h with⟨rfl,rfl⟩ | ⟨rfl,rfl⟩
    ·exact e1
    ·exact e2
   rw[this,AY7,if_neg (by simp[ht])]
  ·obtain⟨g1,g2⟩:=hof ht;obtain⟨z,e3,e4,hz⟩:=Am7 hN hy.ok hta (hc (l.Out.g i).Of.toNat (by omega));refine⟨z.1,fun _=>⟨hz,fun R k Ch Ta h=>?_⟩⟩;rw[if_pos (fun h=>by have:=of_decide_eq_true h;omega)]
   have:Ch N (srcS l cut i) (l.Out.g i).Clear (l.Out.g i).Set=some y:=by
    rcases h with⟨rfl,rfl⟩ | ⟨rfl,rfl⟩
    ·exact e1
    ·exact e2
   rw[this,AY7,if_pos (by simp[ht]),if_pos (by omega)]
   have:Ta N y.1 (cut.g (l.Out.g i).Of.toNat) (l.Out.g i).Take=some z:=by
    rcases h with⟨rfl,rfl⟩ | ⟨rfl,rfl⟩
    ·exact e3
    ·exact e4
   rw[this,AY7]
 obtain⟨out,hout⟩:=Bg0 one;have hn6:=ho.1;have hbody:∀(Ch:Nat->Sound->Int->Sound->Option (Sound×Int)) (Ta:Nat->Sound->Sound->Int->Option (Sound×Int)),(Ch=N8/\Ta=S7) \/ (Ch=Q3/\Ta=Y9) ->
  ∀(self:Sl Sound->Int->Option (Sl Sound)) (i:Nat),i<l.Out.n->(∃r,self ((BJ out i).push (out i)) (wrap .i64 ((i:Int)+1))=some r/\r=BJ out l.Out.n) ->
  ∃r,(if ((decide (0<=(l.Out.g i).From))=true->((0:Int)<=(l.Out.g i).From/\(l.Out.g i).From<(cut.n:Int)))then
   (Ch N (srcS l cut i) (l.Out.g i).Clear (l.Out.g i).Set).bind fun y5=>
   if ((l.Out.g i).Take != 0) then
    if ((0:Int)<=(l.Out.g i).Of/\(l.Out.g i).Of<(cut.n:Int))then
     (Ta N y5.1 (cut.g (l.Out.g i).Of.toNat) (l.Out.g i).Take).bind fun y6=>
     if (((BJ out i).n+(Sl.of [y6.1]:Sl Sound).n)*8<=140737488355328/\(BJ out i).n+(Sl.of [y6.1]:Sl Sound).n<=140737488355328)then
      self ((BJ out i).push y6.1) (wrap .i64 ((i:Int)+1))
     else none
    else none
   else
    if (((BJ out i).n+(Sl.of [y5.1]:Sl Sound).n)*8<=140737488355328/\(BJ out i).n+(Sl.of [y5.1]:Sl Sound).n<=140737488355328)then
     self ((BJ out i).push y5.1) (wrap .i64 ((i:Int)+1))
    else none
   else none)=some r/\r=BJ out l.Out.n:=by
  intro Ch Ta h self i hi hr;have e:=(hout i hi).2 (Sl Sound) (fun y=>if (((BJ out i).n+(Sl.of [y]:Sl Sound).n)*8<=140737488355328/\(BJ out i).n+(Sl.of [y]:Sl Sound).n<=140737488355328)then self ((BJ out i).push y) (wrap .i64 ((i:Int)+1))else none) Ch Ta h;refine eqX e (ifT ?_ hr)
  have:=HS out i
  show ((BJ out i).n+1)*8<=_/\(BJ out i).n+1<=_;omega
 have h1:∃r,N5 N l cut=some r/\r=BJ out l.Out.n:=by
  unfold N5;refine P6 (fun i x1 x2=>x2=(i:Int)/\x1=BJ out i) l.Out.n _ (by omega) ⟨rfl,rfl⟩ ?_;rintro self i x1 x2 hi ⟨rfl,rfl⟩ hs;by_cases hlt:i<l.Out.n
  ·refine ifT (by simp;omega) (ifT (by omega) ?_);rw[AY3];exact hbody _ _ (.inl ⟨rfl,rfl⟩) self i hlt (hs hlt _ _ ⟨C0 (by omega),rfl⟩)
  ·exact ifF (by simp;omega) ⟨_,rfl,by congr 1;omega⟩
 have h2:∃r,Bu N l cut=some r/\r=BJ out l.Out.n:=by
  unfold Bu;refine P6 (fun i x1 x2=>x2=(i:Int)/\x1=BJ out i) l.Out.n _ (by omega) ⟨rfl,rfl⟩ ?_;rintro self i x1 x2 hi ⟨rfl,rfl⟩ hs;by_cases hlt:i<l.Out.n
  ·refine ifT (by simp;omega) (ifT (by omega) ?_);rw[AY3];exact hbody _ _ (.inr ⟨rfl,rfl⟩) self i hlt (hs hlt _ _ ⟨C0 (by omega),rfl⟩)
  ·exact ifF (by simp;omega) ⟨_,rfl,by congr 1;omega⟩
 obtain⟨r,e1,rfl⟩:=h1;obtain⟨r,e2,rfl⟩:=h2;exact⟨_,e1,e2,HS out _,fun i hi=>by rw[HS]at hi;rw[WN out hi];exact (hout i hi).1⟩
end Go.AM
namespace Go.AM
open Go.Proofs
theorem ne0 (x:BitVec 32):((x.toNat:Int) != 0)=decide (x≠0#32):=by rw[bne,eq0];simp
theorem or0 (x y:BitVec 32):x ||| y=0#32↔x=0#32/\y=0#32:=by
 constructor
 ·intro h;have h:=(z32 _).1 h;exact⟨(z32 _).2 fun i hi=>by have:=h i hi;rw[AZ8,Bh7]at this;exact this.1,(z32 _).2 fun i hi=>by have:=h i hi;rw[AZ8,Bh7]at this;exact this.2⟩
 ·rintro⟨rfl,rfl⟩;rfl
theorem AW1 (x y z:BitVec 32):x &&& (y ||| z)=(x &&& y) ||| (x &&& z):=by apply Bd6;intro i hi;simp only[AZ9,AZ8];cases x.getLsbD i<;>simp
theorem AW2 (x y z:BitVec 32):(x ||| y) &&& z=(x &&& z) ||| (y &&& z):=by apply Bd6;intro i hi;simp only[AZ9,AZ8];cases z.getLsbD i<;>simp
theorem Yo {N:Nat}(hN:1000<=N){x:Bj}(hx:okO x)(k:Int):∃b,U1 N x k=some b/\Ey N x k=some b:=by
 obtain⟨⟨a,b,hset⟩,⟨c,hc⟩,t,ht⟩:=hx;have h24:(16777215:Int)=((16777215#32).toNat:Int):=rfl;unfold U1 Ey;simp only[lt,hset,hc,ht,BF,Z6 a b hN,AY7];rw[h24];simp only[EK,Kf,Ep,ne0];by_cases h1:x.From < -1
 ·simp[h1]
 by_cases h2:k<=x.From
 ·simp[h1,h2]
 by_cases h3:vB a b=true
 case neg=>simp[h1,h2,h3]
 simp only[h1,h2,h3,decide_false,AZ2,if_false,Bk0];rw[AW2,AW1 t];generalize ~~~16777215#32=M;by_cases g1:c &&& M=0#32
 case neg=>simp[g1,or0]
 by_cases g2:t &&& M=0#32
 case neg=>simp[g1,g2,or0]
 by_cases g3:c &&& (a ||| b)=0#32
 case neg=>simp[g1,g2,g3,or0]
 by_cases g4:t &&& (a ||| b)=0#32
 case neg=>simp[g1,g2,g3,g4,or0]
 by_cases g5:t &&& c=0#32
 case neg=>simp[g1,g2,g3,g4,g5,or0]
 simp[g1,g2,g3,g4,g5,or0];by_cases g6:t.toNat=0
 ·simp only[g6,if_true];cases x.Of==0<;>simp
 ·simp only[g6,if_false];cases (decide (0<=x.Of)&&decide (x.Of<k))<;>simp
end Go.AM
namespace Go.AM
open Go.Proofs
abbrev nameC:Str:=[97,98,99,100,101,102,103,104,105,106,107,108,109,110,111,112,113,114,115,116,117,118,119,120,121,122,65,66,67,68,69,70,71,72,73,74,75,76,77,78,79,80,81,82,83,84,85,86,87,88,89,90,48,49,50,51,52,53,54,55,56,57,45]
theorem Am8 {p:UInt8->Bool}:∀{l:Str},l.dropWhile p=[] ↔ ∀x∈l,p x=true
 |[]=>by simp
 |a::l=>by
  rw[List.dropWhile_cons];by_cases h:p a=true
  ·rw[if_pos h,Am8];simp[h]
  ·rw[if_neg h];simp[h]
theorem Az2 (l cs:Str):Lib.trimS l cs=[] ↔ ∀b∈l,cs.contains b=true:=by
 unfold Lib.trimS Lib.trimLeftS Lib.trimRightS;rw[Am8];constructor
 ·intro h;have h:∀x∈l.reverse.dropWhile (cs.contains ·),cs.contains x=true:=fun x hx=>h x (Bl7.2 hx);have h2:l.reverse.dropWhile (cs.contains ·)=[]:=by
   rcases e:l.reverse.dropWhile (cs.contains ·)with _|⟨y,r⟩
   ·rfl
   ·have h3:=h y (by rw[e];simp);have h4:¬cs.contains y=true:=by
     have:=List.head_dropWhile_not (cs.contains ·) (l:=l.reverse) (by rw[e];simp)
     simp only[e,List.head_cons]at this;rw[this];exact Bool.false_ne_true
    exact absurd h3 h4
  rw[Am8]at h2;exact fun b hb=>h2 b (Bl7.2 hb)
 ·intro h x hx;have hx:=Bl7.1 hx;exact h x (Bl7.1 ((List.dropWhile_sublist _).mem hx))
abbrev RJ (y:Int):Bool:=((((decide (97<=y))&&(decide (y<=122)))||((decide (65<=y))&&(decide (y<=90))))||((decide (48<=y))&&(decide (y<=57))))||(y==45)
theorem Am9:∀k:Fin 256,nameC.contains (UInt8.ofNat k.val)=RJ ((k.val:Nat):Int):=by decide +kernel
theorem An0 (b:UInt8):nameC.contains b=RJ ((b.toNat:Nat):Int):=by
 have:=Am9 ⟨b.toNat,b.toNat_lt⟩
 rw[show UInt8.ofNat b.toNat=b by simp]at this;exact this
theorem Uo {N:Nat}{s:Str}(hN:s.length<N)(hs:s.length<1000000000):∃b,BW N s=some b/\BR N s=some b:=by
 have h2:∃b,BR N s=some b/\(b=true↔(∀c∈s,nameC.contains c=true)/\1<=s.length/\s.length<=24):=by
  unfold BR;refine BD (fun i x1=>x1=(i:Int)/\∀j (h:j<s.length),j<i->nameC.contains s[j]=true) s.length _ hN ⟨rfl,fun j _ hj=>absurd hj (by omega)⟩ ?_;rintro self i x1 hi ⟨rfl,h⟩ hs2;by_cases hl:i<s.length
  ·refine ifT (by simp;omega) (ifT (by omega) ?_);have eb:Z8 s (i:Int)=((s[i].toNat:Nat):Int):=by simp[Z8,hl]
   by_cases hb:nameC.contains s[i]=true
   ·refine ifF (by rw[eb];show ¬(!(RJ ((s[i].toNat:Nat):Int)))=true;rw[<- An0,hb];simp) (hs2 hl _ ⟨C0 (by omega),fun j hj hj2=>?_⟩);by_cases e:j=i
    ·subst e;exact hb
    ·exact h j hj (by omega)
   ·refine ifT ?_ ⟨false,rfl,by simp,fun hh=>absurd (hh.1 s[i] (Bn8 hl)) hb⟩;rw[eb];show (!(RJ ((s[i].toNat:Nat):Int)))=true;rw[<- An0];simpa using hb
  ·refine ifF (by simp;omega) ⟨_,rfl,?_⟩;simp only[AY9,decide_eq_true_eq];constructor
   ·rintro⟨g1,g2⟩;refine⟨fun c hc=>?_,by omega,by omega⟩;obtain⟨j,hj,rfl⟩:=Bm1 hc;exact h j hj (by omega)
   ·rintro⟨_,g1,g2⟩;exact⟨by omega,by omega⟩
 obtain⟨b,e,hb⟩:=h2;refine⟨b,?_,e⟩
 suffices h:∃r,BW N s=some r/\(r=true↔(∀c∈s,nameC.contains c=true)/\1<=s.length/\s.length<=24) by obtain⟨r,hr,hr2⟩:=h;rw[hr,show r=b by rw[Bb3,hr2,hb]]
 unfold BW;refine ltX ?_;by_cases h0:s=[]
 ·exact ifF (by simp[h0]) ⟨false,rfl,by simp[h0]⟩
 refine ifT (by simp[h0]) ?_;have hpos:0<s.length:=List.length_pos_iff.2 h0;by_cases h1:s.length<=24
 ·refine ifT (by simp;omega) (B4 (x:=Lib.trimS s nameC) ?_ ⟨_,rfl,?_⟩)
  ·unfold DV;rw[if_pos ⟨by omega,by decide,by decide⟩]
  ·rw[<- Az2];constructor
   ·intro h;exact⟨by simpa using h,by omega,h1⟩
   ·rintro⟨h,_⟩;simp[h]
 ·exact ifF (by simp;omega) ⟨false,rfl,by simp;intro _ _;omega⟩
end Go.AM
namespace Go.AM
open IntKind (wrap)
open Go.Proofs
theorem Up {N:Nat}{s:Sl Bj}(hN:s.n<N)(hs:s.n<1000000){f:Bj->Option Bool}{b:Nat->Bool}(hf:∀i,i<s.n->f (s.g i)=some (b i)) :∃r,C7 N s f=some r/\(r=true ↔ ∃i,i<s.n/\b i=true):=by
 unfold C7 E7
 have:∃y,R5 N (fun (self1:Int->Option Int) (x1:Int)=>
  if (decide (x1<(s.n:Int))) then
   if ((0:Int)<=x1/\x1<(s.n:Int))then
    (f (s.g x1.toNat)).bind fun y3=>
    if y3 then
     some x1
    else
     self1 (wrap .i64 (x1+1))
   else none
  else
   some (-1)) 0=some y/\(0<=y ↔ ∃i,i<s.n/\b i=true):=by
  refine BD (fun i x1=>x1=(i:Int)/\∀j,j<i->b j=false) s.n _ hN ⟨rfl,fun j hj=>absurd hj (by omega)⟩ ?_;rintro self i x1 hi ⟨rfl,h⟩ hs2;by_cases hl:i<s.n
  ·refine ifT (by simp;omega) (ifT (by omega) (B4 (by rw[AY3];exact hf i hl) ?_));cases hb:b i
   ·refine ifF (by simp) (hs2 hl _ ⟨C0 (by omega),fun j hj=>?_⟩);by_cases e:j=i
    ·subst e;exact hb
    ·exact h j (by omega)
   ·exact ifT rfl ⟨i,rfl,fun _=>⟨i,hl,hb⟩,fun _=>by omega⟩
  ·refine ifF (by simp;omega) ⟨-1,rfl,fun h=>absurd h (by decide),?_⟩;rintro⟨j,hj,hb⟩;rw[h j (by omega)]at hb;cases hb
 obtain⟨y,e,hy⟩:=this;exact B4 e ⟨_,rfl,by rw[decide_eq_true_eq];exact hy⟩
def La (l:Law):Prop:=okL l/\l.Name.length<1100000/\l.If.n<1100000/\l.Out.n<1100000/\∀i,i<l.Out.n->okO (l.Out.g i)
theorem Ab1 {N:Nat}{s:Sound}(hs:okS s):∃b,G1 N s=some b/\(b=true↔vS s):=by obtain⟨p,m,e⟩:=hs;exact⟨vB p m,by rw[e];exact BF p m,(WH e).symm⟩
theorem Ab2 {N:Nat}(hN:1000<=N){s:Sound}(hs:okS s):∃b,H4 N s=some b/\(b=true↔vS s):=by obtain⟨p,m,e⟩:=hs;exact⟨vB p m,by rw[e];exact Z6 p m hN,(WH e).symm⟩
theorem Az3 {N:Nat}{x:Bj}(hx:okO x){k:Int}(h:U1 N x k=some true):x.From<k/\(x.Take≠0->0<=x.Of/\x.Of<k):=by
 obtain⟨⟨a,b,hset⟩,_,_⟩:=hx;unfold U1 at h;simp only[lt,hset,BF,AY7]at h;by_cases h1:x.From < -1
 ·simp[h1]at h
 by_cases h2:k<=x.From
 ·simp[h1,h2]at h
 refine⟨by omega,fun ht=>?_⟩;simp only[h1,h2,decide_false,AZ2,if_false]at h;by_cases h3:(!vB a b)=true
 ·rw[if_pos h3]at h;cases h
 rw[if_neg h3]at h;split at h
 ·cases h
 ·rw[if_neg (by simp[ht])]at h;simpa using h
def chkAll (N:Nat)(l:Law):Prop:=BR N l.Name=some true/\chk 40 [l.Left]/\chk 40 [l.Right]/\l.If.n<=4/\l.Out.n<=6/\l.If.n+l.Out.n≠0/\1<=l.Mode/\l.Mode<=3/\(∀i,i<l.If.n->vS (l.If.g i))/\∀i,i<l.Out.n->U1 N (l.Out.g i) l.If.n=some true
def AN0 (N:Nat)(l:Law)(e:Int):Prop:=(e=0/\chkAll N l) \/ (e=17/\¬chkAll N l)
def AP9 (l:Law):Prop:=okL l/\chk 40 [l.Left]/\chk 40 [l.Right]/\l.If.n<=4/\AP8 l/\l.If.n+l.Out.n≠0/\1<=l.Mode/\l.Mode<=3
theorem chkAll.f {N:Nat}{l:Law}(hl:La l)(h:chkAll N l):AP9 l:=by obtain⟨_,h1,h2,h3,h4,h5,h6,h7,h8,h9⟩:=h;exact⟨hl.1,h1,h2,h3,⟨h4,fun i hi=>⟨hl.2.2.2.2 i hi,Az3 (hl.2.2.2.2 i hi) (h9 i hi)⟩⟩,h5,h6,h7⟩
theorem Ab3 {N:Nat}(hN:3000000<=N){l:Law}(hl:La l):∃e,W9 N l=some e/\AN0 N l e:=by
 have hb1:=hl.2.1;have hb2:=hl.2.2.1;have hb3:=hl.2.2.2.1;unfold W9;obtain⟨b0,e0,e0'⟩:=Uo (N:=N) (s:=l.Name) (by omega) (by omega);refine B4 e0 ?_;cases b0
 ·exact ifT rfl ⟨17,rfl,.inr ⟨rfl,fun h=>by have:=h.1;rw[e0']at this;cases this⟩⟩
 refine ifF (by simp) ?_;obtain⟨y2,e2,h2⟩:=RH (N:=N) (by omega) hl.1.1;refine B4 e2 ?_;by_cases c2:y2=0
 case neg=>exact ifT (by simpa using c2) ⟨17,rfl,.inr ⟨rfl,fun h=>c2 (h2.2 h.2.1)⟩⟩
 refine ifF (by simp[c2]) ?_;obtain⟨y3,e3,h3⟩:=RH (N:=N) (by omega) hl.1.2.1;refine B4 e3 ?_;by_cases c3:y3=0
 case neg=>exact ifT (by simpa using c3) ⟨17,rfl,.inr ⟨rfl,fun h=>c3 (h3.2 h.2.2.1)⟩⟩
 refine ifF (by simp[c3]) ?_;by_cases c4:4<l.If.n
 ·exact ifT (by simp;omega) ⟨17,rfl,.inr ⟨rfl,fun h=>by have:=h.2.2.2.1;omega⟩⟩
 refine ifF (by simp;omega) ?_;by_cases c5:6<l.Out.n
 ·exact ifT (by simp;omega) ⟨17,rfl,.inr ⟨rfl,fun h=>by have:=h.2.2.2.2.1;omega⟩⟩
 refine ifF (by simp;omega) ?_;rw[Dy (by omega)];by_cases c6:l.If.n+l.Out.n=0
 ·exact ifT (by rw[c6];rfl) ⟨17,rfl,.inr ⟨rfl,fun h=>h.2.2.2.2.2.1 c6⟩⟩
 refine ifF (by simp;omega) ?_;by_cases c7:l.Mode<1 \/ 3<l.Mode
 ·exact ifT (by simp;omega) ⟨17,rfl,.inr ⟨rfl,fun h=>by have g1:=h.2.2.2.2.2.2.1;have g2:=h.2.2.2.2.2.2.2.1;omega⟩⟩
 refine ifF (by simp;omega) ?_;have hv:∀i,∃b,i<l.If.n->Z5 N (l.If.g i)=some b/\(b=true ↔ ¬vS (l.If.g i)):=by
  intro i;by_cases hi:i<l.If.n
  ·obtain⟨b,eb,hb⟩:=Ab1 (N:=N) (hl.1.2.2 i hi);refine⟨!b,fun _=>⟨by unfold Z5;rw[eb];rfl,?_⟩⟩;rw[<- hb];simp
  ·exact⟨false,fun h=>absurd h hi⟩
 obtain⟨f,hf⟩:=Bg0 hv;obtain⟨y4,e4,h4⟩:=KE (N:=N) (w:=l.If) (by omega) (by omega) (f:=fun u1=>Z5 N u1) (fun i hi=>(hf i hi).1);refine B4 e4 ?_;cases hy4:y4
 case true=>obtain⟨i,hi,hb⟩:=h4.1 hy4;exact ifT rfl ⟨17,rfl,.inr ⟨rfl,fun h=>(hf i hi).2.1 hb (h.2.2.2.2.2.2.2.2.1 i hi)⟩⟩
 refine ifF (by simp) ?_;have ho:∀i,∃b,i<l.Out.n->Z4 N (l.Out.g i) (l.If.n:Int)=some b/\(b=true ↔ ¬U1 N (l.Out.g i) l.If.n=some true):=by
  intro i;by_cases hi:i<l.Out.n
  ·obtain⟨b,eb,_⟩:=Yo (N:=N) (by omega) (hl.2.2.2.2 i hi) (l.If.n:Int);refine⟨!b,fun _=>⟨by unfold Z4;rw[eb];rfl,?_⟩⟩;rw[eb];simp
  ·exact⟨false,fun h=>absurd h hi⟩
 obtain⟨g,hg⟩:=Bg0 ho;obtain⟨y5,e5,h5⟩:=Up (N:=N) (s:=l.Out) (by omega) (by omega) (f:=fun u2=>Z4 N u2 (l.If.n:Int)) (fun i hi=>(hg i hi).1);refine B4 e5 ?_;cases hy5:y5
 case true=>obtain⟨i,hi,hb⟩:=h5.1 hy5;exact ifT rfl ⟨17,rfl,.inr ⟨rfl,fun h=>(hg i hi).2.1 hb (h.2.2.2.2.2.2.2.2.2 i hi)⟩⟩
 refine ifF (by simp) ⟨0,rfl,.inl ⟨rfl,e0',h2.1 c2,h3.1 c3,by omega,by omega,c6,by omega,by omega,fun i hi=>?_,fun i hi=>?_⟩⟩
 ·refine Bb0 fun hn=>?_
  have:=h4.2 ⟨i,hi,(hf i hi).2.2 hn⟩
  rw[hy4]at this;cases this
 ·refine Bb0 fun hn=>?_
  have:=h5.2 ⟨i,hi,(hg i hi).2.2 hn⟩
  rw[hy5]at this;cases this
theorem Ab4 {N:Nat}(hN:3000000<=N){l:Law}(hl:La l):∃e,W5 N l=some e/\AN0 N l e:=by
 have hb1:=hl.2.1;have hb2:=hl.2.2.1;have hb3:=hl.2.2.2.1;unfold W5;obtain⟨b0,e0,e0'⟩:=Uo (N:=N) (s:=l.Name) (by omega) (by omega);refine B4 e0' (ltX ?_);cases b0
 ·exact ifT rfl (ifT rfl ⟨17,rfl,.inr ⟨rfl,fun h=>by have:=h.1;rw[e0']at this;cases this⟩⟩)
 refine ifF (by simp) ?_;obtain⟨y2,e2,h2⟩:=Nv (N:=N) (by omega) hl.1.1;refine B4 e2 ?_;by_cases c2:y2=0
 case neg=>exact ifT (by simpa using c2) (ifT rfl ⟨17,rfl,.inr ⟨rfl,fun h=>c2 (h2.2 h.2.1)⟩⟩)
 refine ifF (by simp[c2]) ?_;obtain⟨y3,e3,h3⟩:=Nv (N:=N) (by omega) hl.1.2.1;refine B4 e3 ?_;by_cases c3:y3=0
 case neg=>exact ifT (by simpa using c3) ⟨17,rfl,.inr ⟨rfl,fun h=>c3 (h3.2 h.2.2.1)⟩⟩
 refine ifF (by simp[c3]) ?_;rw[Dy (by omega)];by_cases hall:l.If.n<=4/\l.Out.n<=6/\l.If.n+l.Out.n≠0/\1<=l.Mode/\l.Mode<=3
 case neg=>refine ifT ?_ ⟨17,rfl,.inr ⟨rfl,fun h=>hall ⟨h.2.2.2.1,h.2.2.2.2.1,h.2.2.2.2.2.1,h.2.2.2.2.2.2.1,h.2.2.2.2.2.2.2.1⟩⟩⟩;simp only[Ba5,decide_eq_true_eq,beq_iff_eq];omega
 refine ifF (by simp only[Ba5,decide_eq_true_eq,beq_iff_eq];omega) ?_;obtain⟨c4,c5,c6,c7,c8⟩:=hall;refine BD (fun i x1=>x1=(i:Int)/\∀j,j<i->vS (l.If.g j)) l.If.n _ (by omega) ⟨rfl,fun j hj=>absurd hj (by omega)⟩ ?_;rintro self i x1 hi ⟨rfl,h⟩ hs;by_cases hlt:i<l.If.n
 ·obtain⟨b,eb,hb⟩:=Ab2 (N:=N) (by omega) (hl.1.2.2 i hlt);refine ifT (by simp;omega) (ifT (by omega) (B4 (by rw[AY3];exact eb) ?_));cases b
  ·exact ifT rfl ⟨17,rfl,.inr ⟨rfl,fun h=>by have:=hb.2 (h.2.2.2.2.2.2.2.2.1 i hlt);cases this⟩⟩
  ·refine ifF (by simp) (hs hlt _ ⟨C0 (by omega),fun j hj=>?_⟩);by_cases e:j=i
   ·subst e;exact hb.1 rfl
   ·exact h j (by omega)
 refine ifF (by simp;omega) ?_;have hV:∀j,j<l.If.n->vS (l.If.g j):=fun j hj=>h j (by omega);refine BD (fun i x1=>x1=(i:Int)/\∀j,j<i->U1 N (l.Out.g j) l.If.n=some true) l.Out.n _ (by omega) ⟨rfl,fun j hj=>absurd hj (by omega)⟩ ?_;rintro self2 k x2 hk ⟨rfl,h'⟩ hs2;by_cases hlk:k<l.Out.n
 ·obtain⟨b,eb,eb'⟩:=Yo (N:=N) (by omega) (hl.2.2.2.2 k hlk) (l.If.n:Int);refine ifT (by simp;omega) (ifT (by omega) (B4 (by rw[AY3];exact eb') ?_));cases b
  ·exact ifT rfl ⟨17,rfl,.inr ⟨rfl,fun h=>by have:=h.2.2.2.2.2.2.2.2.2 k hlk;rw[eb]at this;cases this⟩⟩
  ·refine ifF (by simp) (hs2 hlk _ ⟨C0 (by omega),fun j hj=>?_⟩);by_cases e:j=k
   ·subst e;exact eb
   ·exact h' j (by omega)
 ·exact ifF (by simp;omega) ⟨0,rfl,.inl ⟨rfl,e0',h2.1 c2,h3.1 c3,c4,c5,c6,c7,c8,hV,fun j hj=>h' j (by omega)⟩⟩
theorem Uq {N:Nat}{l:Law}{e e' : Int}(h:AN0 N l e)(h' : AN0 N l e'):e=e':=by
 rcases h with⟨rfl,h⟩ | ⟨rfl,h⟩<;>rcases h' with⟨rfl,h'⟩ | ⟨rfl,h'⟩
 ·rfl
 ·exact absurd h h'
 ·exact absurd h' h
 ·rfl
theorem ED {N:Nat}(hN:3000000<=N){l:Law}(hl:La l):∃e,W9 N l=some e/\W5 N l=some e/\AN0 N l e:=by obtain⟨e,h,c⟩:=Ab3 hN hl;obtain⟨e',h',c'⟩:=Ab4 hN hl;obtain rfl:=Uq c c';exact⟨_,h,h',c⟩
end Go.AM
namespace Go.AM
open Go.Proofs
def PE:Pat->Pat->Prop
 |.nil,q=>q.Kind=0/\q.Is=default/\q.Not=false/\q.Min=0/\q.Max=0/\q.L.n=0
 |.mk k is no mn mx n g,q=>q.Kind=k/\q.Is=is/\q.Not=no/\q.Min=mn/\q.Max=mx/\q.L.n=n/\∀i,i<n->PE (g i) (q.L.g i)
theorem PE_of {p q:Pat}:PE p q↔q.Kind=p.Kind/\q.Is=p.Is/\q.Not=p.Not/\q.Min=p.Min/\q.Max=p.Max/\q.L.n=p.L.n/\∀i,i<p.L.n->PE (p.L.g i) (q.L.g i):=by
 cases p with
 |nil=>exact⟨fun h=>⟨h.1,h.2.1,h.2.2.1,h.2.2.2.1,h.2.2.2.2.1,h.2.2.2.2.2,fun i hi=>absurd hi (Bc5 i)⟩,fun h=>⟨h.1,h.2.1,h.2.2.1,h.2.2.2.1,h.2.2.2.2.1,h.2.2.2.2.2.1⟩⟩
 |mk k is no mn mx n g=>exact Bi7
theorem WO:∀p:Pat,PE p p
 |.nil=>⟨rfl,rfl,rfl,rfl,rfl,rfl⟩
 |.mk k is no mn mx n g=>⟨rfl,rfl,rfl,rfl,rfl,rfl,fun i _=>WO (g i)⟩
theorem WQ:∀{p q:Pat},PE p q->PE q p
 |.nil,q,h=>PE_of.2 ⟨h.1.symm,h.2.1.symm,h.2.2.1.symm,h.2.2.2.1.symm,h.2.2.2.2.1.symm,h.2.2.2.2.2.symm,fun i hi=>absurd hi (by rw[h.2.2.2.2.2];exact Bc5 i)⟩
 |.mk k is no mn mx n g,q,h=>PE_of.2 ⟨h.1.symm,h.2.1.symm,h.2.2.1.symm,h.2.2.2.1.symm,h.2.2.2.2.1.symm,h.2.2.2.2.2.1.symm,fun i hi=>WQ (h.2.2.2.2.2.2 i (by rw[<- h.2.2.2.2.2.1];exact hi))⟩
theorem Qg {n:Nat}{Q Q' : Nat->Nat->Nat->Prop}:∀{m:Nat},(∀i,i<m->Q i=Q' i)->ZO n Q m=ZO n Q' m
 |0,_=>rfl
 |m+1,h=>by funext a b;simp only[ZO];rw[Qg fun i hi=>h i (by omega),h m (by omega)]
theorem AN1 {w:Sl Sound}:∀(d:Nat) {p q:Pat},okP d p->PE p q->PR w p=PR w q
 |0,p,q,h,_=>h.elim
 |d+1,p,q,h,e=>by
  obtain⟨e1,e2,e3,e4,e5,e6,e7⟩:=PE_of.1 e;have ih:∀i,i<p.L.n->PR w (p.L.g i)=PR w (q.L.g i):=fun i hi=>AN1 d (h.2.2 i hi) (e7 i hi);funext a b;apply propext;rw[KZ,KZ,e1,e2,e3,e4,e5,e6];have h3:ZO w.n (fun i=>PR w (p.L.g i)) p.L.n=ZO w.n (fun i=>PR w (q.L.g i)) p.L.n:=Qg ih;have h4:(∃i,i<p.L.n/\PR w (p.L.g i) a b) ↔ ∃i,i<p.L.n/\PR w (q.L.g i) a b:=⟨fun⟨i,hi,g⟩=>⟨i,hi,by rw[<- ih i hi];exact g⟩,fun⟨i,hi,g⟩=>⟨i,hi,by rw[ih i hi];exact g⟩⟩;rw[h3,h4];by_cases h5:p.Kind=5
  ·have:=(h.2.1 h5).1
   rw[ih 0 (by omega)]
  ·simp[h5]
theorem Az4 {p q:Pat}(e:PE p q):GO p↔GO q:=by obtain⟨e1,e2,e3,e4,e5,e6,_⟩:=PE_of.1 e;unfold GO;rw[e1,e2,e3,e4,e5,e6]
def PEs:List Pat->List Pat->Prop
 |[],[]=>True
 |p::l,q::m=>PE p q/\PEs l m
 |_,_=>False
theorem An1:∀{a b c d:List Pat},PEs a b->PEs c d->PEs (a++c) (b++d)
 |[],[],_,_,_,h=>h
 |_::_,_::_,_,_,⟨h1,h2⟩,h=>⟨h1,An1 h2 h⟩
 |[],_::_,_,_,h,_=>h.elim
 |_::_,[],_,_,h,_=>h.elim
theorem Ur {f g:Nat->Pat}:∀(l:List Nat),(∀i∈l,PE (f i) (g i))->PEs (l.map f) (l.map g)
 |[],_=>trivial
 |i::l,h=>⟨h i (by simp),Ur l fun j hj=>h j (by simp[hj])⟩
theorem AE3:∀(k:Nat) (l m:List Pat),PEs l m->(chk k l↔chk k m)
 |0,[],[],_=>Bi7
 |0,p::l,q::m,_=>⟨fun h=>(by cases h),fun h=>by cases h⟩
 |k+1,[],[],_=>Bi7
 |k+1,p::l,q::m,⟨h1,h2⟩=>by
  obtain⟨_,_,_,_,_,e6,e7⟩:=PE_of.1 h1;show GO p/\chk k (p.L.toList++l)↔GO q/\chk k (q.L.toList++m);rw[Az4 h1,AE3 k _ _ (An1 (c:=l) (d:=m) (show PEs p.L.toList q.L.toList by unfold Sl.toList;rw[e6];exact Ur _ fun i hi=>e7 i (Bf0.1 hi)) h2)]
 |_,[],_::_,h=>h.elim
 |_,_::_,[],h=>h.elim
theorem JN {p q:Pat}(h:PE p q):chk 40 [p]↔chk 40 [q]:=AE3 40 [p] [q] ⟨h,trivial⟩
theorem okPS_of {p:Pat}:okPS p↔okS p.Is/\∀i,i<p.L.n->okPS (p.L.g i):=by
 cases p with
 |nil=>exact⟨fun _=>⟨⟨0#32,0#32,rfl⟩,fun i hi=>absurd hi (Bc5 i)⟩,fun _=>trivial⟩
 |mk k is no mn mx n g=>exact Bi7
theorem Nz:∀{p q:Pat},PE p q->okPS p->okPS q
 |.nil,q,h,_=>okPS_of.2 ⟨by rw[h.2.1];exact⟨0#32,0#32,rfl⟩,fun i hi=>absurd hi (by rw[h.2.2.2.2.2];exact Bc5 i)⟩
 |.mk k is no mn mx n g,q,h,hp=>okPS_of.2 ⟨by rw[h.2.1];exact hp.1,fun i hi=>by
  have hi:i<n:=by rw[<- h.2.2.2.2.2.1];exact hi
  exact Nz (h.2.2.2.2.2.2 i hi) (hp.2 i hi)⟩
end Go.AM
namespace Go.AM
open IntKind (wrap)
open Go.Proofs
theorem nf:(!false)=true:=rfl
theorem Az5 {α : Type}{s t:Sl α}(h:s.n=0):s.app t=t:=by cases t;simp[Sl.app,h]
def An2 {α : Type}[Inhabited α](s:Sl (Sl α)):Nat->Sl α
 |0=>Sl.nil
 |k+1=>(An2 s k).app (s.g k)
theorem An3 {α : Type}[Inhabited α](s:Sl (Sl α)){B:Nat}:∀k,(∀i,i<k->(s.g i).n<=B)->(An2 s k).n<=k*B
 |0,_=>by simp[An2]
 |k+1,h=>by
  have:=An3 s k fun i hi=>h i (by omega)
  have:=h k (by omega)
  show (An2 s k).n+(s.g k).n<=_;rw[Bl1];omega
theorem WR {N:Nat}{s:Sl (Sl Sound)}(hn:s.n<1000)(hN:1000<=N)(hs:∀i,i<s.n->(s.g i).n<=3000000) :B0 N s=some (An2 s s.n):=by
 suffices h:∃r,B0 N s=some r/\r=An2 s s.n by obtain⟨r,h,rfl⟩:=h;exact h
 unfold B0;refine P6 (fun (i:Nat) (x1 x2:Int)=>x2=(i:Int)/\0<=x1/\x1<=(i:Int)*3000000) s.n _ (by omega) ⟨rfl,Int.le_refl 0,by simp⟩ ?_;rintro self i x1 x2 hi ⟨rfl,h0,h1⟩ hs2;by_cases hl:i<s.n
 ·have:=hs i hl
  refine ifT (by simp;omega) (ifT (by omega) ?_);rw[AY3,F0 (by omega) (by omega)];exact ifF (by simp;omega) (hs2 hl _ _ ⟨C0 (by omega),by omega,by omega⟩)
 refine ifF (by simp;omega) (B4 (x:=Sl.nil) ?_ ?_)
 ·unfold G9;rw[if_pos (by omega)]
 refine P6 (fun i x1 x2=>x2=(i:Int)/\x1=An2 s i) s.n _ (by omega) ⟨rfl,rfl⟩ ?_;rintro self i x1 x2 hi ⟨rfl,rfl⟩ hs2;by_cases hl:i<s.n
 ·have g1:=hs i hl;have g2:=An3 s i (B:=3000000) fun j hj=>hs j (by omega);refine ifT (by simp;omega) (ifT ⟨by omega,?_⟩ (hs2 hl _ _ ⟨C0 (by omega),?_⟩))
  ·rw[AY3];omega
  ·rw[AY3];rfl
 ·exact ifF (by simp;omega) ⟨_,rfl,by congr 1;omega⟩
def AQ0 (w:Sl Sound)(i k:Nat)(y:Sl Sound):Sl Sound:=((w.take i).app y).app (w.drop (i+k))
theorem An4 {w y:Sl Sound}{i k:Nat}(hi:i+k<=w.n)(hw:∀j,j<w.n->vS (w.g j))(hy:∀j,j<y.n->vS (y.g j)):(AQ0 w i k y).n=w.n-k+y.n/\∀j,j<(AQ0 w i k y).n->vS ((AQ0 w i k y).g j):=by
 have hn:(AQ0 w i k y).n=w.n-k+y.n:=by show i+y.n+(w.n-(i+k))=_;omega
 refine⟨hn,fun j hj=>?_⟩;rw[hn]at hj;show vS (if j<i+y.n then (if j<i then w.g j else y.g (j-i))else w.g (i+k+(j-(i+y.n))));split
 ·split
  ·exact hw _ (by omega)
  ·exact hy _ (by omega)
 ·exact hw _ (by omega)
def GP (N:Nat)(l:Law)(w:Sl Sound)(i:Nat):Sl Sound:=(N5 N l (w.sub i (i+l.If.n))).getD Sl.nil
def Y0 (N:Nat)(l:Law)(w:Sl Sound)(i:Nat):Sl Sound:=AQ0 w i l.If.n (GP N l w i)
theorem vOk {w:Sl Sound}(h:wOk w):okW w:=⟨by have:=h.1;omega,fun i hi=>(h.2 i hi).ok⟩
theorem Gv {N:Nat}(hN:1000<=N){l:Law}(ho:AP8 l){w:Sl Sound}(hw:∀j,j<w.n->vS (w.g j)){i:Nat}(hi:i+l.If.n<=w.n) :N5 N l (w.sub i (i+l.If.n))=some (GP N l w i)/\Bu N l (w.sub i (i+l.If.n))=some (GP N l w i)/\(GP N l w i).n=l.Out.n/\∀j,j<(GP N l w i).n->vS ((GP N l w i).g j):=by
 obtain⟨s,h1,h2,h3,h4⟩:=AM9 hN ho (cut:=w.sub i (i+l.If.n)) (by show i+l.If.n-i=_;omega) fun j hj=>(hw (i+j) (by have:j<i+l.If.n-i:=hj;omega)).ok;have e:GP N l w i=s:=by unfold GP;rw[h1];rfl
 rw[e];exact⟨h1,h2,h3,h4⟩
theorem cat3 (a b c:Sl Sound):An2 (Sl.of [a,b,c]:Sl (Sl Sound)) 3=(a.app b).app c:=by show (((Sl.nil:Sl Sound).app a).app b).app c=_;rw[Az5 (s:=(Sl.nil:Sl Sound)) rfl]
theorem An5 {N:Nat}(hN:1000<=N){a b c:Sl Sound}(ha:a.n<=3000000)(hb:b.n<=3000000)(hc:c.n<=3000000):B0 N (Sl.of [a,b,c]:Sl (Sl Sound))=some ((a.app b).app c):=by
 have h:=WR (N:=N) (s:=(Sl.of [a,b,c]:Sl (Sl Sound))) (by show 3<1000;omega) hN fun i hi=>by
  match i,hi with
  |0,_=>exact ha
  |1,_=>exact hb
  |2,_=>exact hc
 rw[h];exact congrArg some (cat3 a b c)
theorem Fh {N:Nat}(hN:1000<=N){l:Law}(ho:AP8 l){w:Sl Sound}(hwn:w.n<1000)(hw:∀j,j<w.n->vS (w.g j)){i:Nat}(hi:i+l.If.n<=w.n) :Q5 N l w i=some (Y0 N l w i)/\Q4 N l w i=some (Y0 N l w i):=by
 obtain⟨h1,h2,h3,h4⟩:=Gv hN ho hw hi;have h6:=ho.1;constructor
 ·unfold Q5;rw[Dy (by omega),if_pos (by omega),AY3,AY3,h1,AY7,if_pos (by omega),
   An5 hN (by show i<=_;omega) (by omega) (by show w.n-(i+l.If.n)<=_;omega)]
  rfl
 ·unfold Q4;rw[Dy (by omega),AY3,AY3,Az5 (s:=(Sl.of []:Sl Sound)) rfl,if_pos ⟨by omega,by show (0+i)*8<=_/\0+i<=_;omega⟩,if_pos (by omega),h2,AY7,
   if_pos (by show (i+(GP N l w i).n)*8<=_/\i+(GP N l w i).n<=_;omega),if_pos ⟨by omega,by show (i+(GP N l w i).n+(w.n-(i+l.If.n)))*8<=_/\i+(GP N l w i).n+(w.n-(i+l.If.n))<=_;omega⟩]
  rfl
def SE {α : Type}(s t:Sl α):Prop:=s.n=t.n/\∀i,i<s.n->s.g i=t.g i
theorem SE.refl {α : Type}(s:Sl α):SE s s:=⟨rfl,fun _ _=>rfl⟩
theorem SE.symm {α : Type}{s t:Sl α}(h:SE s t):SE t s:=⟨h.1.symm,fun i hi=>(h.2 i (by rw[h.1];exact hi)).symm⟩
theorem SE.trans {α : Type}{s t u:Sl α}(h:SE s t)(h' : SE t u):SE s u:=⟨h.1.trans h'.1,fun i hi=>(h.2 i hi).trans (h'.2 i (by rw[<- h.1];exact hi))⟩
theorem SE.app {α : Type}{s t u v:Sl α}(h:SE s t)(h' : SE u v):SE (s.app u) (t.app v):=⟨by show s.n+u.n=t.n+v.n;rw[h.1,h'.1],fun i hi=>by
 show (if i<s.n then s.g i else u.g (i-s.n))=if i<t.n then t.g i else v.g (i-t.n)
 have hi:i<s.n+u.n:=hi;rw[<- h.1];split
 ·exact h.2 i (by assumption)
 ·exact h'.2 _ (by omega)⟩
theorem SE.drop {α : Type}{s t:Sl α}(h:SE s t)(k:Nat):SE (s.drop k) (t.drop k):=⟨by show s.n-k=t.n-k;rw[h.1],fun i hi=>by have hi:i<s.n-k:=hi;exact h.2 _ (by omega)⟩
theorem SE.take {α : Type}{s t:Sl α}(h:SE s t){k:Nat}(hk:k<=s.n):SE (s.take k) (t.take k):=⟨rfl,fun i hi=>h.2 i (by have hi:i<k:=hi;omega)⟩
theorem SE.sub {α : Type}{s t:Sl α}(h:SE s t){a b:Nat}(hk:b<=s.n):SE (s.sub a b) (t.sub a b):=⟨rfl,fun i hi=>h.2 _ (by have hi:i<b-a:=hi;omega)⟩
theorem SE.v {s t:Sl Sound}(h:SE s t)(hv:∀j,j<s.n->vS (s.g j)):∀j,j<t.n->vS (t.g j):=fun j hj=>by rw[<- h.2 j (by rw[h.1];exact hj)];exact hv j (by rw[h.1];exact hj)
theorem SE.wOk {s t:Sl Sound}(h:SE s t)(hv:wOk s):wOk t:=⟨by rw[<- h.1];exact hv.1,h.v hv.2⟩
theorem RK {w w' : Sl Sound}(h:SE w w'):∀p:Pat,PR w p=PR w' p
 |.nil=>rfl
 |.mk kind is no mn mx m g=>by
  have ih:(fun i=>PR w (g i))=fun i=>PR w' (g i):=funext fun i=>RK h (g i);have ih1:∀i,PR w (g i)=PR w' (g i):=fun i=>congrFun ih i;have e1:∀a,(a<w.n↔a<w'.n):=fun a=>by rw[h.1]
  funext a b;unfold PR;rw[ih];simp only[ih1,<- h.1];by_cases ha:a<w.n
  ·rw[h.2 a ha]
  ·simp[ha]
theorem Ab5 {l:Law}{w w' : Sl Sound}(h:SE w w'){i:Nat}:Qf l w i↔Qf l w' i:=by
 suffices H:∀{w w' : Sl Sound},SE w w' -> Qf l w i->Qf l w' i by exact⟨H h,H h.symm⟩
 intro w w' h;rintro⟨h1,h2,h3,h4,h5,h6,⟨a,ha,ha2⟩,b,hb,hb2⟩;have hn:=h.1;refine⟨by omega,fun j hj=>?_,h3,h4,h.wOk h5,by omega,⟨a,by omega,?_⟩,b,by omega,?_⟩
 ·rw[<- h.2 (i+j) (by omega)];exact h2 j hj
 ·rw[<- RK h];exact ha2
 ·rw[<- RK h];exact hb2
structure LE (l l' : Law):Prop where
 name:l'.Name=l.Name
 left:PE l.Left l'.Left
 right:PE l.Right l'.Right
 cond:SE l.If l'.If
 out:SE l.Out l'.Out
 mode:l'.Mode=l.Mode
theorem LE.refl (l:Law):LE l l:=⟨rfl,WO _,WO _,SE.refl _,SE.refl _,rfl⟩
theorem LE.symm {l l' : Law}(h:LE l l'):LE l' l:=⟨h.name.symm,WQ h.left,WQ h.right,h.cond.symm,h.out.symm,h.mode.symm⟩
theorem AN2 {l l' : Law}(h:LE l l'){w:Sl Sound}{i:Nat}:Qf l w i↔Qf l' w i:=by
 suffices H:∀{l l' : Law},LE l l' -> Qf l w i->Qf l' w i by exact⟨H h,H h.symm⟩
 intro l l' h;rintro⟨h1,h2,h3,h4,h5,h6,⟨a,ha,ha2⟩,b,hb,hb2⟩;have hn:=h.cond.1;refine⟨by omega,fun j hj=>?_,(JN h.left).1 h3,(JN h.right).1 h4,h5,by omega,⟨a,ha,?_⟩,b,hb,?_⟩
 ·rw[<- h.cond.2 j (by omega)];exact h2 j (by omega)
 ·rw[<- AN1 40 (Nu 40 _ (by omega) h3 _ (by simp)) h.left];exact ha2
 ·rw[<- hn,<- AN1 40 (Nu 40 _ (by omega) h4 _ (by simp)) h.right];exact hb2
theorem HT {l l' : Law}(e:LE l l'){w w' : Sl Sound}(h:SE w w'){i:Nat}:Qf l w i↔Qf l' w' i:=(AN2 e).trans (Ab5 h)
theorem Yp {l l' : Law}(h:LE l l')(hl:La l):La l':=by obtain⟨⟨h1,h2,h3⟩,h4,h5,h6,h7⟩:=hl;have hi:=h.cond.1;have ho:=h.out.1;exact⟨⟨Nz h.left h1,Nz h.right h2,fun i hj=>by rw[<- h.cond.2 i (by omega)];exact h3 i (by omega)⟩,by rw[h.name];exact h4,by omega,by omega,fun i hj=>by rw[<- h.out.2 i (by omega)];exact h7 i (by omega)⟩
theorem AN3 {l l' : Law}(h:LE l l')(hl:AP8 l):AP8 l':=by have hi:=h.cond.1;have ho:=h.out.1;exact⟨by rw[<- ho];exact hl.1,fun i hj=>by rw[<- h.out.2 i (by omega),<- hi];exact hl.2 i (by omega)⟩
theorem WS {l l' : Law}(h:LE l l')(hl:AP9 l):AP9 l':=by obtain⟨⟨h1,h2,h3⟩,h4,h5,h6,h7,h8,h9,h10⟩:=hl;have hi:=h.cond.1;have ho:=h.out.1;have hm:=h.mode;exact⟨⟨Nz h.left h1,Nz h.right h2,fun i hj=>by rw[<- h.cond.2 i (by omega)];exact h3 i (by omega)⟩,(JN h.left).1 h4,(JN h.right).1 h5,by omega,AN3 h h7,by omega,by omega,by omega⟩
theorem Jc {N:Nat}{l l' : Law}(h:LE l l'):chkAll N l↔chkAll N l':=by
 suffices H:∀{l l' : Law},LE l l' -> chkAll N l->chkAll N l' by exact⟨H h,H h.symm⟩
 rintro l l' h ⟨h1,h2,h3,h4,h5,h6,h7,h8,h9,h10⟩;have hi:=h.cond.1;have ho:=h.out.1;have hm:=h.mode;exact⟨by rw[h.name];exact h1,(JN h.left).1 h2,(JN h.right).1 h3,by omega,by omega,by omega,by omega,by omega,
  fun i hj=>by rw[<- h.cond.2 i (by omega)];exact h9 i (by omega),fun i hj=>by rw[<- h.out.2 i (by omega),<- hi];exact h10 i (by omega)⟩
theorem AN4 {N:Nat}{l l' : Law}(h:LE l l'){e:Int}(he:AN0 N l e):AN0 N l' e:=by
 rcases he with⟨h1,h2⟩ | ⟨h1,h2⟩
 ·exact .inl ⟨h1,(Jc h).1 h2⟩
 ·exact .inr ⟨h1,fun g=>h2 ((Jc h).2 g)⟩
theorem An6 {N:Nat}{l:Law}{c c' : Sl Sound}(h:SE c c'):N5 N l c=N5 N l c':=by
 unfold N5;congr 1;funext self x1 x2;by_cases h1:(decide (x2<(l.Out.n:Int)))=true
 case neg=>rw[if_neg h1,if_neg h1]
 rw[if_pos h1,if_pos h1,<- h.1];have e1:∀y:Int,(0:Int)<=y->y<(c.n:Int)->c.g y.toNat=c'.g y.toNat:=fun y h0 h1=>h.2 _ (by omega);by_cases h2:(0:Int)<=x2/\x2<(l.Out.n:Int)
 case neg=>rw[if_neg h2,if_neg h2]
 rw[if_pos h2,if_pos h2];split
 ·rename_i h3;have e2:(⟨(if (decide (0<=(l.Out.g x2.toNat).From)) then (c.g (l.Out.g x2.toNat).From.toNat).Plus else 0),(if (decide (0<=(l.Out.g x2.toNat).From)) then (c.g (l.Out.g x2.toNat).From.toNat).Minus else 0)⟩:Sound) =
   ⟨(if (decide (0<=(l.Out.g x2.toNat).From)) then (c'.g (l.Out.g x2.toNat).From.toNat).Plus else 0),(if (decide (0<=(l.Out.g x2.toNat).From)) then (c'.g (l.Out.g x2.toNat).From.toNat).Minus else 0)⟩:=by
   by_cases h4:decide (0<=(l.Out.g x2.toNat).From)=true
   ·have:=h3 h4
    rw[if_pos h4,if_pos h4,if_pos h4,if_pos h4,e1 _ this.1 this.2]
   ·rw[if_neg h4,if_neg h4,if_neg h4,if_neg h4]
  rw[e2];congr 1;funext y5;split
  ·split
   ·rename_i h5;rw[e1 _ h5.1 h5.2]
   ·rfl
  ·rfl
 ·rfl
theorem Ab6 {N:Nat}{l l' : Law}(h:SE l.Out l'.Out)(c:Sl Sound):N5 N l c=N5 N l' c:=by
 unfold N5;congr 1;funext self x1 x2;rw[<- h.1];by_cases h1:(0:Int)<=x2/\x2<(l.Out.n:Int)
 ·rw[h.2 x2.toNat (by omega)]
 ·by_cases h2:(decide (x2<(l.Out.n:Int)))=true
  ·rw[if_pos h2,if_pos h2,if_neg h1,if_neg h1]
  ·rw[if_neg h2,if_neg h2]
theorem NA {N:Nat}{l l' : Law}(e:LE l l'){w w' : Sl Sound}(h:SE w w'){i:Nat}(hi:i+l.If.n<=w.n):GP N l w i=GP N l' w' i:=by unfold GP;rw[An6 (h.sub hi),Ab6 e.out,<- e.cond.1]
theorem KF {N:Nat}{l l' : Law}(e:LE l l'){w w' : Sl Sound}(h:SE w w'){i:Nat}(hi:i+l.If.n<=w.n):SE (Y0 N l w i) (Y0 N l' w' i):=by unfold Y0 AQ0;rw[NA e h hi,<- e.cond.1];exact ((h.take (by omega)).app (SE.refl _)).app (h.drop _)
def RL:List (Int×Sl Sound)->List (Int×Sl Sound)->Prop
 |[],[]=>True
 |(p,v)::L,(q,u)::M=>p=q/\SE v u/\RL L M
 |_,_=>False
def JO:Sl Int->Sl (Sl Sound)->List (Int×Sl Sound)->Sl Int×Sl (Sl Sound)×Int
 |x,y,[]=>(x,y,0)
 |x,y,(p,v)::L=>if 32<v.n then (Sl.nil,Sl.nil,11)else JO (x.push p) (y.push v) L
abbrev Us:=List (Int×Sl Sound)
def vL (L:Us):Prop:=∀x∈L,∀j,j<x.2.n->vS (x.2.g j)
theorem Ut:vL []:=fun x hx=>absurd hx (by simp)
theorem WT {x:Int×Sl Sound}{L:Us}(h:∀j,j<x.2.n->vS (x.2.g j))(hL:vL L):vL (x::L):=fun y hy=>by
 rcases Bc6.1 hy with rfl|hy
 ·exact h
 ·exact hL y hy
def Uu (N:Nat)(l:Law)(self2:Sl Sound->Int->Option Us)(x5:Sl Sound)(x6:Int):Option Us:=
 if (decide ((wrap .i64 (x6+(l.If.n:Int)))<=(x5.n:Int))) then
  (Cs N l x5 x6).bind fun y12=>
  if (!y12) then
   self2 x5 (wrap .i64 (x6+1))
  else
   (Q5 N l x5 x6).bind fun y13=>
   Be (x6,y13) (
    if ((l.If.n:Int)==0) then
     self2 y13 (wrap .i64 ((wrap .i64 (x6+(l.Out.n:Int)))+1))
    else
     self2 y13 (wrap .i64 (x6+(l.Out.n:Int)))
    )
 else
  some []
abbrev Az6:=(Sl Int)×(Sl (Sl Sound))×Int
def Uv (N:Nat)(l:Law)(self1:Sl Sound->Sl Int->Sl (Sl Sound)->Int->Option Az6)(x1:Sl Sound)(x2:Sl Int)(x3:Sl (Sl Sound))(x4:Int):Option Az6:=
 if (decide ((wrap .i64 (x4+(l.If.n:Int)))<=(x1.n:Int))) then
  (Ar N l x1 x4).bind fun y5=>
  if (!y5) then
   self1 x1 x2 x3 (wrap .i64 (x4+1))
  else
   (Q4 N l x1 x4).bind fun y6=>
   if (decide (32<(y6.n:Int))) then
    some ((Sl.nil:Sl Int),(Sl.nil:Sl (Sl Sound)),11)
   else
    if (((x2.n+(Sl.of [x4]:Sl Int).n)*8<=140737488355328/\x2.n+(Sl.of [x4]:Sl Int).n<=140737488355328)/\((x3.n+(Sl.of [y6]:Sl (Sl Sound)).n)*24<=140737488355328/\x3.n+(Sl.of [y6]:Sl (Sl Sound)).n<=140737488355328))then
     if ((l.If.n:Int)==0) then
      self1 y6 (x2.push x4) (x3.push y6) (wrap .i64 ((wrap .i64 (x4+(l.Out.n:Int)))+1))
     else
      self1 y6 (x2.push x4) (x3.push y6) (wrap .i64 (x4+(l.Out.n:Int)))
    else none
 else
  some (x2,x3,0)
theorem An7 {N:Nat}(hN:3000<=N){l l' : Law}(hf:AP9 l)(he:LE l l'):∀(m:Nat) (w w' : Sl Sound) (i:Nat),SE w w' -> w.n<=100->(∀j,j<w.n->vS (w.g j))->i<=200->w.n+1<=i+m ->
 ∃L L',(∀M,m<M->S4 M (Uu N l) w i=some L)/\vL L/\L.length<=m/\RL L L' /\ ∀M x2 x3,m<M->x2.n+m<=1000->x3.n+m<=1000->Aq4 M (Uv N l') w' x2 x3 i=some (JO x2 x3 L'):=by
 obtain⟨hl,_,_,hk,ho,hko,_,_⟩:=hf;have h6:=ho.1;obtain⟨hl',_,_,hk',ho',_,_,_⟩:=WS he ⟨hl,‹_›, ‹_›,hk,ho,hko,‹_›, ‹_›⟩;have hif:l'.If.n=l.If.n:=he.cond.1.symm;have hof:l'.Out.n=l.Out.n:=he.out.1.symm;intro m
 induction m with
 |zero=>
  intro w w' i hse hn hv hi hm;have hn':=hse.1;refine⟨[],[],fun M hM=>?_,Ut,AZ0 _,trivial,fun M x2 x3 hM _ _=>?_⟩
  ·obtain⟨M,rfl⟩:∃K,M=K+1:=⟨M-1,by omega⟩;rw[F3,Uu,Dy (by omega),if_neg (by simp;omega)]
  ·obtain⟨M,rfl⟩:∃K,M=K+1:=⟨M-1,by omega⟩;rw[T3,Uv,hif,hof,Dy (by omega),if_neg (by simp;omega),JO]
 |succ m ih=>
  intro w w' i hse hn hv hi hm;have hn':=hse.1;by_cases hle:i+l.If.n<=w.n
  case neg=>
   refine⟨[],[],fun M hM=>?_,Ut,by simp,trivial,fun M x2 x3 hM _ _=>?_⟩
   ·obtain⟨M,rfl⟩:∃K,M=K+1:=⟨M-1,by omega⟩;rw[F3,Uu,Dy (by omega),if_neg (by simp;omega)]
   ·obtain⟨M,rfl⟩:∃K,M=K+1:=⟨M-1,by omega⟩;rw[T3,Uv,hif,hof,Dy (by omega),if_neg (by simp;omega),JO]
  have hw:okW w:=⟨by omega,fun j hj=>(hv j hj).ok⟩;have hv':=hse.v hv;have hw' : okW w':=⟨by omega,fun j hj=>(hv' j hj).ok⟩;obtain⟨b,e1,h1⟩:=Am6 hN hl hk hw i (by omega);obtain⟨b',e2,h2⟩:=RI hN hl' hk' hw' i (by omega);obtain rfl:b' = b:=by rw[Bb3,h1,h2,HT he hse]
  cases b'
  ·obtain⟨L,L',g1,g2,g3,g5,g4⟩:=ih w w' (i+1) hse hn hv (by omega) (by omega);refine⟨L,L',fun M hM=>?_,g2,by omega,g5,fun M x2 x3 hM hx hy=>?_⟩
   ·obtain⟨M,rfl⟩:∃K,M=K+1:=⟨M-1,by omega⟩;rw[F3,Uu,Dy (by omega),if_pos (by simp;omega),e1,AY7,if_pos nf,C0 (by omega)];exact g1 M (by omega)
   ·obtain⟨M,rfl⟩:∃K,M=K+1:=⟨M-1,by omega⟩;rw[T3,Uv,hif,hof,Dy (by omega),if_pos (by simp;omega),e2,AY7,if_pos nf,C0 (by omega)];exact g4 M x2 x3 (by omega) (by omega) (by omega)
  ·have hit:=h1.1 rfl;have hw32:=hit.2.2.2.2.1.1;have r1:=(Fh (N:=N) (by omega) ho (by omega) hv hle).1;have r2:=(Fh (N:=N) (l:=l') (w:=w') (i:=i) (by omega) ho' (by omega) hv' (by omega)).2;have hrc:=KF (N:=N) he hse hle;have hrn:=hrc.1;obtain⟨_,_,p3,p4⟩:=Gv (N:=N) (by omega) ho hv hle;obtain⟨q1,q2⟩:=An4 hle hv p4;have q1:(Y0 N l w i).n=w.n-l.If.n+l.Out.n:=by rw[<- p3];exact q1
   have q2:∀j,j<(Y0 N l w i).n->vS ((Y0 N l w i).g j):=q2;obtain⟨L,L',g1,g2,g3,g5,g4⟩:=ih (Y0 N l w i) (Y0 N l' w' i) (if l.If.n=0 then i+l.Out.n+1 else i+l.Out.n) hrc (by omega) q2 (by split<;>omega) (by split<;>omega);refine⟨((i:Int),Y0 N l w i)::L,((i:Int),Y0 N l' w' i)::L',fun M hM=>?_,WT q2 g2,by simp;omega,⟨rfl,hrc,g5⟩,fun M x2 x3 hM hx hy=>?_⟩
   ·obtain⟨M,rfl⟩:∃K,M=K+1:=⟨M-1,by omega⟩;rw[F3,Uu,Dy (by omega),if_pos (by simp;omega),e1,AY7,if_neg (by simp),r1,AY7,Dy (by omega),C0 (by omega)];have g1:=g1 M (by omega);by_cases h0:l.If.n=0
    ·rw[if_pos h0]at g1;rw[if_pos (by simp[h0]),g1];rfl
    ·rw[if_neg h0]at g1;rw[if_neg (by simp[h0]),g1];rfl
   ·obtain⟨M,rfl⟩:∃K,M=K+1:=⟨M-1,by omega⟩;rw[T3,Uv,hif,hof,Dy (by omega),if_pos (by simp;omega),e2,AY7,if_neg (by simp),r2,AY7,Dy (by omega),C0 (by omega),JO];by_cases h32:32<(Y0 N l' w' i).n
    ·rw[if_pos (by simp;omega),if_pos h32]
    rw[if_neg (by simp;omega),if_neg h32,if_pos (by show ((x2.n+1)*8<=_/\x2.n+1<=_)/\(x3.n+1)*24<=_/\x3.n+1<=_;omega)];have g4:=g4 M (x2.push (i:Int)) (x3.push (Y0 N l' w' i)) (by omega) (by show x2.n+1+m<=_;omega) (by show x3.n+1+m<=_;omega);by_cases h0:l.If.n=0
    ·rw[if_pos h0]at g4;rw[if_pos (by simp[h0]),g4]
    ·rw[if_neg h0]at g4;rw[if_neg (by simp[h0]),g4]
def An8 (N:Nat)(l:Law)(self3:Sl Sound->Int->Option Us)(x7:Sl Sound)(x8:Int):Option Us:=
 if (decide (0<=x8)) then
  (Cs N l x7 x8).bind fun y18=>
  if (!y18) then
   self3 x7 (wrap .i64 (x8-1))
  else
   (Q5 N l x7 x8).bind fun y19=>
   Be (x8,y19) (
    self3 y19 (wrap .i64 (x8-(if (l.If.n:Int)<1 then 1 else (l.If.n:Int))))
    )
 else
  some []
def An9 (N:Nat)(l:Law)(self1:Sl Sound->Sl Int->Sl (Sl Sound)->Int->Option Az6)(x1:Sl Sound)(x2:Sl Int)(x3:Sl (Sl Sound))(x4:Int):Option Az6:=
 if (decide (0<=x4)) then
  (Ar N l x1 x4).bind fun y5=>
  if (!y5) then
   self1 x1 x2 x3 (wrap .i64 (x4-1))
  else
   (Q4 N l x1 x4).bind fun y6=>
   if (decide (32<(y6.n:Int))) then
    some ((Sl.nil:Sl Int),(Sl.nil:Sl (Sl Sound)),11)
   else
    if (((x2.n+(Sl.of [x4]:Sl Int).n)*8<=140737488355328/\x2.n+(Sl.of [x4]:Sl Int).n<=140737488355328)/\((x3.n+(Sl.of [y6]:Sl (Sl Sound)).n)*24<=140737488355328/\x3.n+(Sl.of [y6]:Sl (Sl Sound)).n<=140737488355328))then
     if ((l.If.n:Int)==0) then
      self1 y6 (x2.push x4) (x3.push y6) (wrap .i64 ((wrap .i64 (x4-(l.If.n:Int)))-1))
     else
      self1 y6 (x2.push x4) (x3.push y6) (wrap .i64 (x4-(l.If.n:Int)))
    else none
 else
  some (x2,x3,0)
theorem Az7 {N:Nat}(hN:3000<=N){l l' : Law}(hf:AP9 l)(he:LE l l'):∀(m:Nat) (w w' : Sl Sound) (i:Int),SE w w' -> w.n<=100->(∀j,j<w.n->vS (w.g j)) -> -100<=i->i+1<=m->m<=200 ->
 ∃L L',(∀M,m<M->S4 M (An8 N l) w i=some L)/\vL L/\L.length<=m/\RL L L' /\ ∀M x2 x3,m<M->x2.n+m<=1000->x3.n+m<=1000->Aq4 M (An9 N l') w' x2 x3 i=some (JO x2 x3 L'):=by
 obtain⟨hl,_,_,hk,ho,hko,_,_⟩:=hf;have h6:=ho.1;obtain⟨hl',_,_,hk',ho',_,_,_⟩:=WS he ⟨hl,‹_›, ‹_›,hk,ho,hko,‹_›, ‹_›⟩;have hif:l'.If.n=l.If.n:=he.cond.1.symm;have hof:l'.Out.n=l.Out.n:=he.out.1.symm;intro m
 induction m with
 |zero=>
  intro w w' i hse hn hv hi hm hm2;have hn':=hse.1;refine⟨[],[],fun M hM=>?_,Ut,AZ0 _,trivial,fun M x2 x3 hM _ _=>?_⟩
  ·obtain⟨M,rfl⟩:∃K,M=K+1:=⟨M-1,by omega⟩;rw[F3,An8,if_neg (by simp;omega)]
  ·obtain⟨M,rfl⟩:∃K,M=K+1:=⟨M-1,by omega⟩;rw[T3,An9,hif,if_neg (by simp;omega),JO]
 |succ m ih=>
  intro w w' i hse hn hv hi hm hm2;have hn':=hse.1;by_cases hle:0<=i
  case neg=>
   refine⟨[],[],fun M hM=>?_,Ut,by simp,trivial,fun M x2 x3 hM _ _=>?_⟩
   ·obtain⟨M,rfl⟩:∃K,M=K+1:=⟨M-1,by omega⟩;rw[F3,An8,if_neg (by simp;omega)]
   ·obtain⟨M,rfl⟩:∃K,M=K+1:=⟨M-1,by omega⟩;rw[T3,An9,hif,if_neg (by simp;omega),JO]
  obtain⟨k,rfl⟩:∃k:Nat,i=(k:Int):=⟨i.toNat,by omega⟩;have hw:okW w:=⟨by omega,fun j hj=>(hv j hj).ok⟩;have hv':=hse.v hv;have hw' : okW w':=⟨by omega,fun j hj=>(hv' j hj).ok⟩;obtain⟨b,e1,h1⟩:=Am6 hN hl hk hw k (by omega);obtain⟨b',e2,h2⟩:=RI hN hl' hk' hw' k (by omega);obtain rfl:b' = b:=by rw[Bb3,h1,h2,HT he hse]
  cases b'
  ·obtain⟨L,L',g1,g2,g3,g5,g4⟩:=ih w w' ((k:Int)-1) hse hn hv (by omega) (by omega) (by omega);refine⟨L,L',fun M hM=>?_,g2,by omega,g5,fun M x2 x3 hM hx hy=>?_⟩
   ·obtain⟨M,rfl⟩:∃K,M=K+1:=⟨M-1,by omega⟩;rw[F3,An8,if_pos (by simp),e1,AY7,if_pos nf,F0 (by omega) (by omega)];exact g1 M (by omega)
   ·obtain⟨M,rfl⟩:∃K,M=K+1:=⟨M-1,by omega⟩;rw[T3,An9,hif,if_pos (by simp),e2,AY7,if_pos nf,F0 (by omega) (by omega)];exact g4 M x2 x3 (by omega) (by omega) (by omega)
  ·have hit:=h1.1 rfl;have hle:=hit.1;have hw32:=hit.2.2.2.2.1.1;have r1:=(Fh (N:=N) (by omega) ho (by omega) hv hle).1;have r2:=(Fh (N:=N) (l:=l') (w:=w') (i:=k) (by omega) ho' (by omega) hv' (by omega)).2;have hrc:=KF (N:=N) he hse hle;have hrn:=hrc.1;obtain⟨_,_,p3,p4⟩:=Gv (N:=N) (by omega) ho hv hle;obtain⟨q1,q2⟩:=An4 hle hv p4;have q1:(Y0 N l w k).n=w.n-l.If.n+l.Out.n:=by rw[<- p3];exact q1
   have q2:∀j,j<(Y0 N l w k).n->vS ((Y0 N l w k).g j):=q2;obtain⟨L,L',g1,g2,g3,g5,g4⟩:=ih (Y0 N l w k) (Y0 N l' w' k) (if l.If.n=0 then (k:Int)-1 else (k:Int)-l.If.n) hrc (by omega) q2 (by split<;>omega) (by split<;>omega) (by omega);refine⟨((k:Int),Y0 N l w k)::L,((k:Int),Y0 N l' w' k)::L',fun M hM=>?_,WT q2 g2,by simp;omega,⟨rfl,hrc,g5⟩,fun M x2 x3 hM hx hy=>?_⟩
   ·obtain⟨M,rfl⟩:∃K,M=K+1:=⟨M-1,by omega⟩;rw[F3,An8,if_pos (by simp),e1,AY7,if_neg (by simp),r1,AY7];have g1:=g1 M (by omega);by_cases h0:l.If.n=0
    ·rw[if_pos h0]at g1;rw[if_pos (by omega),F0 (by omega) (by omega),g1];rfl
    ·rw[if_neg h0]at g1;rw[if_neg (by omega),F0 (by omega) (by omega),g1];rfl
   ·obtain⟨M,rfl⟩:∃K,M=K+1:=⟨M-1,by omega⟩;rw[T3,An9,hif,if_pos (by simp),e2,AY7,if_neg (by simp),r2,AY7,JO];by_cases h32:32<(Y0 N l' w' k).n
    ·rw[if_pos (by simp;omega),if_pos h32]
    rw[if_neg (by simp;omega),if_neg h32,if_pos (by show ((x2.n+1)*8<=_/\x2.n+1<=_)/\(x3.n+1)*24<=_/\x3.n+1<=_;omega)];have g4:=g4 M (x2.push (k:Int)) (x3.push (Y0 N l' w' k)) (by omega) (by show x2.n+1+m<=_;omega) (by show x3.n+1+m<=_;omega);rw[F0 (n:=(k:Int)-(l.If.n:Int)) (by omega) (by omega)];by_cases h0:l.If.n=0
    ·rw[if_pos h0]at g4;rw[if_pos (by simp[h0]),F0 (by omega) (by omega),show (k:Int)-(l.If.n:Int)-1=(k:Int)-1 by omega,g4]
    ·rw[if_neg h0]at g4;rw[if_neg (by simp[h0]),g4]
end Go.AM
namespace Go.AM
open IntKind (wrap)
open Go.Proofs
abbrev AllS:=Sl Sound×Int×Int
def Lb (N:Nat)(l:Law)(q0:Sl Sound)(self1:AllS->Option Us)(x1:Int)(z1:AllS):Option Us:=
 if (decide (x1<z1.2.1)) then
  self1 (z1.1,z1.2.1,z1.2.2)
 else
  if (((0:Int)<=(wrap .i64 (x1+z1.2.2))/\(wrap .i64 (x1+z1.2.2))<=(z1.1.n:Int))/\((0:Int)<=x1/\x1<=(wrap .i64 (x1+(l.If.n:Int)))/\(wrap .i64 (x1+(l.If.n:Int)))<=(q0.n:Int)))then
   (N5 N l (q0.sub x1.toNat (wrap .i64 (x1+(l.If.n:Int))).toNat)).bind fun y6=>
   if ((0:Int)<=(wrap .i64 (x1+(l.If.n:Int)))/\(wrap .i64 (x1+(l.If.n:Int)))<=(q0.n:Int))then
    (B0 N (Sl.of [z1.1.take (wrap .i64 (x1+z1.2.2)).toNat,y6,q0.drop (wrap .i64 (x1+(l.If.n:Int))).toNat]:Sl (Sl Sound))).bind fun y7=>
    Be (x1,y7) (
     self1 (y7,wrap .i64 (x1+(if (l.If.n:Int)<1 then 1 else (l.If.n:Int))),wrap .i64 ((wrap .i64 (z1.2.2+(l.Out.n:Int)))-(l.If.n:Int)))
     )
   else none
  else none
def AQ1 (N:Nat)(p_l:Law)(p_w:Sl Sound)(self1:Sl Int->Sl (Sl Sound)->Sl Sound->Int->Option Az6)(x2:Sl Int)(x3:Sl (Sl Sound))(x4:Sl Sound)(x5:Int):Option Az6:=
 if (decide (x5<=(p_w.n:Int))) then
  (Ar N p_l p_w x5).bind fun y5=>
  if (!y5) then
   lt (fun (z3:Sl Sound)=>
    self1 x2 x3 z3 (wrap .i64 (x5+1))
    ) fun k3=>
    if (decide (x5<(p_w.n:Int))) then
     if (((0:Int)<=x5/\x5<(p_w.n:Int))/\((x4.n+(Sl.of [p_w.g x5.toNat]:Sl Sound).n)*8<=140737488355328/\x4.n+(Sl.of [p_w.g x5.toNat]:Sl Sound).n<=140737488355328))then
      k3 (x4.push (p_w.g x5.toNat))
     else none
    else
     k3 x4
  else
   if ((0:Int)<=x5/\x5<=(wrap .i64 (x5+(p_l.If.n:Int)))/\(wrap .i64 (x5+(p_l.If.n:Int)))<=(p_w.n:Int))then
    (Bu N p_l (p_w.sub x5.toNat (wrap .i64 (x5+(p_l.If.n:Int))).toNat)).bind fun y6=>
    if ((x4.n+y6.n)*8<=140737488355328/\x4.n+y6.n<=140737488355328)then
     if ((x2.n+(Sl.of [x5]:Sl Int).n)*8<=140737488355328/\x2.n+(Sl.of [x5]:Sl Int).n<=140737488355328)then
      if (((((Sl.of []:Sl Sound).n+(x4.app y6).n)*8<=140737488355328/\(Sl.of []:Sl Sound).n+(x4.app y6).n<=140737488355328)/\((0:Int)<=(wrap .i64 (x5+(p_l.If.n:Int)))/\(wrap .i64 (x5+(p_l.If.n:Int)))<=(p_w.n:Int)))/\((((Sl.of []:Sl Sound).app (x4.app y6)).n+(p_w.drop (wrap .i64 (x5+(p_l.If.n:Int))).toNat).n)*8<=140737488355328/\((Sl.of []:Sl Sound).app (x4.app y6)).n+(p_w.drop (wrap .i64 (x5+(p_l.If.n:Int))).toNat).n<=140737488355328))then
       if (decide (32<((((Sl.of []:Sl Sound).app (x4.app y6)).app (p_w.drop (wrap .i64 (x5+(p_l.If.n:Int))).toNat)).n:Int))) then
        some ((Sl.nil:Sl Int),(Sl.nil:Sl (Sl Sound)),11)
       else
        if ((x3.n+(Sl.of [((Sl.of []:Sl Sound).app (x4.app y6)).app (p_w.drop (wrap .i64 (x5+(p_l.If.n:Int))).toNat)]:Sl (Sl Sound)).n)*24<=140737488355328/\x3.n+(Sl.of [((Sl.of []:Sl Sound).app (x4.app y6)).app (p_w.drop (wrap .i64 (x5+(p_l.If.n:Int))).toNat)]:Sl (Sl Sound)).n<=140737488355328)then
         if ((p_l.If.n:Int)==0) then
          if (decide ((wrap .i64 (x5+(p_l.If.n:Int)))<(p_w.n:Int))) then
           if (((0:Int)<=(wrap .i64 (x5+(p_l.If.n:Int)))/\(wrap .i64 (x5+(p_l.If.n:Int)))<(p_w.n:Int))/\(((x4.app y6).n+(Sl.of [p_w.g (wrap .i64 (x5+(p_l.If.n:Int))).toNat]:Sl Sound).n)*8<=140737488355328/\(x4.app y6).n+(Sl.of [p_w.g (wrap .i64 (x5+(p_l.If.n:Int))).toNat]:Sl Sound).n<=140737488355328))then
            self1 (x2.push x5) (x3.push (((Sl.of []:Sl Sound).app (x4.app y6)).app (p_w.drop (wrap .i64 (x5+(p_l.If.n:Int))).toNat))) ((x4.app y6).push (p_w.g (wrap .i64 (x5+(p_l.If.n:Int))).toNat)) (wrap .i64 ((wrap .i64 (x5+(p_l.If.n:Int)))+1))
           else none
          else
           self1 (x2.push x5) (x3.push (((Sl.of []:Sl Sound).app (x4.app y6)).app (p_w.drop (wrap .i64 (x5+(p_l.If.n:Int))).toNat))) (x4.app y6) (wrap .i64 ((wrap .i64 (x5+(p_l.If.n:Int)))+1))
         else
          self1 (x2.push x5) (x3.push (((Sl.of []:Sl Sound).app (x4.app y6)).app (p_w.drop (wrap .i64 (x5+(p_l.If.n:Int))).toNat))) (x4.app y6) (wrap .i64 (x5+(p_l.If.n:Int)))
        else none
      else none
     else none
    else none
   else none
 else
  some (x2,x3,0)
abbrev vW (s:Sl Sound):Prop:=∀j,j<s.n->vS (s.g j)
theorem AE4 {s t:Sl Sound}(h:vW s)(h' : vW t):vW (s.app t):=fun j hj=>by
 have hj:j<s.n+t.n:=hj;show vS (if j<s.n then s.g j else t.g (j-s.n));split
 ·exact h j (by assumption)
 ·exact h' _ (by omega)
theorem AN5 {s:Sl Sound}(h:vW s)(k:Nat):vW (s.drop k):=fun j hj=>h _ (by have hj:j<s.n-k:=hj;omega)
theorem AN6 {s:Sl Sound}(h:vW s){k:Nat}(hk:k<=s.n):vW (s.take k):=fun j hj=>h _ (by have hj:j<k:=hj;omega)
theorem Uw {x s:Sl Sound}{i:Nat}(hi:i<s.n):SE (x.app (s.drop i)) ((x.push (s.g i)).app (s.drop (i+1))):=⟨by show x.n+(s.n-i)=x.n+1+(s.n-(i+1));omega,fun j _=>by
 show (if j<x.n then x.g j else s.g (i+(j-x.n)))=if j<x.n+1 then (if j<x.n then x.g j else s.g i)else s.g (i+1+(j-(x.n+1)))
 by_cases h1:j<x.n
 ·rw[if_pos h1,if_pos (by omega),if_pos h1]
 ·rw[if_neg h1];by_cases h2:j=x.n
  ·rw[if_pos (by omega),if_neg h1,h2];simp
  ·rw[if_neg (by omega)];congr 1;omega⟩
theorem Az8 {a x t:Sl Sound}(h:SE a (x.app t)):SE (a.take x.n) x:=⟨rfl,fun j hj=>by
 have hj:j<x.n:=hj;have hn:a.n=x.n+t.n:=h.1;have e:a.g j=if j<x.n then x.g j else t.g (j-x.n):=h.2 j (by omega)
 rw[if_pos hj]at e;exact e⟩
theorem Yq {N:Nat}{l:Law}{w:Sl Sound}{K:AllS->Option Us}{acc:Sl Sound}{next sh:Int}:∀(d i:Nat),((i+d:Nat):Int)<=next->P4 (Ec l w i) (Lb N l w) K (acc,next,sh)=P4 (Ec l w (i+d)) (Lb N l w) K (acc,next,sh)
 |0,i,_=>rfl
 |d+1,i,h=>by
  have ih:=Yq (N:=N) (l:=l) (w:=w) (K:=K) (acc:=acc) (next:=next) (sh:=sh) d (i+1) (by omega);rw[show i+(d+1)=i+1+d by omega,<- ih];by_cases hh:Qf l w i
  ·rw[Ja (by have:=hh.1;omega) hh];show Lb N l w (P4 (Ec l w (i+1)) (Lb N l w) K) (i:Int) (acc,next,sh)=_;unfold Lb;rw[if_pos (by simp;omega)]
  ·rw[Jb hh]
theorem AN7 {N:Nat}(hN:3000<=N){l l' : Law}(hf:AP9 l)(he:LE l l'){w w' : Sl Sound}(hse:SE w w')(hn:w.n<=32)(hv:vW w):∀(m i:Nat) (x4 acc:Sl Sound) (sh next:Int),i<=w.n+1->w.n+1<=i+m ->
 (i<=w.n->SE acc (x4.app (w'.drop i))/\(x4.n:Int)=i+sh)->next<=i->x4.n<=7*i->vW acc -> -1000<=sh->sh<=1000 ->
 ∃L L',P4 (Ec l w i) (Lb N l w) (fun _=>some []) (acc,next,sh)=some L/\vL L/\L.length<=m/\RL L L' /\ ∀M x2 x3,m<M->x2.n+m<=1000->x3.n+m<=1000->Aq4 M (AQ1 N l' w') x2 x3 x4 i=some (JO x2 x3 L'):=by
 obtain⟨hl,_,_,hk,ho,hko,_,_⟩:=hf;have h6:=ho.1;obtain⟨hl',_,_,hk',ho',_,_,_⟩:=WS he ⟨hl,‹_›, ‹_›,hk,ho,hko,‹_›, ‹_›⟩;have hif:l'.If.n=l.If.n:=he.cond.1.symm;have hn':=hse.1;have hw:okW w:=⟨by omega,fun j hj=>(hv j hj).ok⟩;have hv' : vW w':=hse.v hv;have hw' : okW w':=⟨by omega,fun j hj=>(hv' j hj).ok⟩;have fin:∀(m i:Nat) (x4 acc:Sl Sound) (sh next:Int),w.n<i->∃L L',P4 (Ec l w i) (Lb N l w) (fun _=>some []) (acc,next,sh)=some L/\vL L/\L.length<=m/\RL L L' /\ ∀M x2 x3,m<M->x2.n+m<=1000->x3.n+m<=1000->Aq4 M (AQ1 N l' w') x2 x3 x4 i=some (JO x2 x3 L'):=by
  intro m i x4 acc sh next hi
  refine⟨[],[],by rw[JM (by omega)];rfl,Ut,by simp,trivial,fun M x2 x3 hM _ _=>?_⟩;obtain⟨M,rfl⟩:∃K,M=K+1:=⟨M-1,by omega⟩;rw[T3,AQ1,if_neg (by simp;omega),JO]
 intro m
 induction m with
 |zero=>exact fun i x4 acc sh next h1 h2 _ _ _ _ _ _=>fin 0 i x4 acc sh next (by omega)
 |succ m ih=>
  intro i x4 acc sh next hi hm hx hnx h7 hva hs1 hs2
  by_cases hle:i<=w.n
  case neg=>exact fin _ i x4 acc sh next (by omega)
  obtain⟨hsx,hnn⟩:=hx hle;have han:acc.n=x4.n+(w.n-i):=by rw[hsx.1];show x4.n+(w'.n-i)=_;omega
  obtain⟨b',e2,h2⟩:=RI hN hl' hk' hw' i (by omega);have h2:=h2.trans (HT he hse).symm;cases b'
  ·have hno:¬Qf l w i:=fun h=>by have:=h2.2 h;cases this
   rw[Jb hno];by_cases hlt:i<w.n
   ·obtain⟨L,L',g1,g2,g3,g5,g4⟩:=ih (i+1) (x4.push (w'.g i)) acc sh next (by omega) (by omega) (fun _=>⟨hsx.trans (Uw (by omega)),by show ((x4.n+1:Nat):Int)=_;omega⟩) (by omega) (by show x4.n+1<=_;omega) hva hs1 hs2
    refine⟨L,L',g1,g2,by omega,g5,fun M x2 x3 hM hx hy=>?_⟩;obtain⟨M,rfl⟩:∃K,M=K+1:=⟨M-1,by omega⟩;rw[T3,AQ1,hif,if_pos (by simp;omega),e2,AY7,if_pos nf,lt,if_pos (by simp;omega),if_pos ⟨by omega,by show (x4.n+1)*8<=_/\x4.n+1<=_;omega⟩,C0 (by omega),AY3];exact g4 M x2 x3 (by omega) (by omega) (by omega)
   ·obtain⟨L,L',g1,g2,g3,g5,g4⟩:=ih (i+1) x4 acc sh next (by omega) (by omega) (fun h=>by omega) (by omega) (by omega) hva hs1 hs2
    refine⟨L,L',g1,g2,by omega,g5,fun M x2 x3 hM hx hy=>?_⟩;obtain⟨M,rfl⟩:∃K,M=K+1:=⟨M-1,by omega⟩;rw[T3,AQ1,hif,if_pos (by simp;omega),e2,AY7,if_pos nf,lt,if_neg (by simp;omega),C0 (by omega)];exact g4 M x2 x3 (by omega) (by omega) (by omega)
  ·have hit:=h2.1 rfl;have hik:=hit.1;rw[Ja hle hit];obtain⟨p1,_,p3,p4⟩:=Gv (N:=N) (by omega) ho hv hik;obtain⟨_,p2,_,_⟩:=Gv (N:=N) (l:=l') (i:=i) (by omega) ho' hv' (by omega);rw[<- NA he hse hik,hif]at p2;generalize hY:GP N l w i=Y at p1 p2 p3 p4;have hYw:SE (((acc.take x4.n).app Y).app (w.drop (i+l.If.n))) ((x4.app Y).app (w'.drop (i+l.If.n))):=((Az8 hsx).app (SE.refl _)).app (hse.drop _);have hvY:vW (((acc.take x4.n).app Y).app (w.drop (i+l.If.n))):=AE4 (AE4 (AN6 hva (by omega)) p4) (AN5 hv _);generalize hZ:(((acc.take x4.n).app Y).app (w.drop (i+l.If.n)))=Z at hYw hvY;have hZn:Z.n=x4.n+Y.n+(w.n-(i+l.If.n)):=by rw[<- hZ]
   obtain⟨L,L',g1,g2,g3,g5,g4⟩:=ih (if l.If.n=0 then i+1 else i+l.If.n) (if l.If.n=0/\i<w.n then (x4.app Y).push (w'.g i)else x4.app Y) Z (sh+l.Out.n-l.If.n) (if l.If.n=0 then i+1 else i+l.If.n:Nat)
    (by split<;>omega) (by split<;>omega)
    (fun h=>by
     by_cases h0:l.If.n=0
     ·rw[if_pos h0]at h;rw[if_pos h0,if_pos ⟨h0,by omega⟩];rw[h0]at hYw;exact⟨hYw.trans (Uw (by omega)),by show ((x4.n+Y.n+1:Nat):Int)=_;omega⟩
     ·rw[if_neg h0,if_neg (by omega)];exact⟨hYw,by show ((x4.n+Y.n:Nat):Int)=_;omega⟩)
    (by omega)
    (by
     by_cases h0:l.If.n=0
     ·rw[if_pos h0];split
      ·show x4.n+Y.n+1<=_;omega
      ·show x4.n+Y.n<=_;omega
     ·rw[if_neg h0,if_neg (by omega)];show x4.n+Y.n<=_;omega)
    hvY (by omega) (by omega)
   refine⟨((i:Int),Z)::L,((i:Int),(x4.app Y).app (w'.drop (i+l.If.n)))::L', ?_,WT hvY g2,by simp;omega,⟨rfl,hYw,g5⟩,fun M x2 x3 hM hx hy=>?_⟩
   ·show Lb N l w (P4 (Ec l w (i+1)) (Lb N l w) fun _=>some []) (i:Int) (acc,next,sh)=_;unfold Lb;have es:wrap .i64 ((i:Int)+sh)=((x4.n:Nat):Int):=by rw[F0 (by omega) (by omega),hnn]
    simp only[es];rw[Dy (by omega),if_neg (by simp;omega),if_pos (by omega)];simp only[AY3];rw[p1,AY7,if_pos (by omega),An5 (by omega) (by show x4.n<=_;omega) (by omega) (by show w.n-(i+l.If.n)<=_;omega),AY7,hZ];have en:wrap .i64 ((i:Int)+(if (l.If.n:Int)<1 then 1 else (l.If.n:Int)))=((if l.If.n=0 then i+1 else i+l.If.n:Nat):Int):=by
     by_cases h0:l.If.n=0
     ·rw[if_pos (by omega),if_pos h0,F0 (by omega) (by omega)];omega
     ·rw[if_neg (by omega),if_neg h0,F0 (by omega) (by omega)];omega
    have eh:wrap .i64 ((wrap .i64 (sh+(l.Out.n:Int)))-(l.If.n:Int))=sh+l.Out.n-l.If.n:=by rw[F0 (n:=sh+(l.Out.n:Int)) (by omega) (by omega),F0 (by omega) (by omega)]
    rw[en,eh];have sk:=Yq (N:=N) (l:=l) (w:=w) (K:=fun _=>some []) (acc:=Z) (next:=((if l.If.n=0 then i+1 else i+l.If.n:Nat):Int)) (sh:=sh+l.Out.n-l.If.n) (if l.If.n=0 then 0 else l.If.n-1) (i+1) (by split<;>omega);rw[show i+1+(if l.If.n=0 then 0 else l.If.n-1)=(if l.If.n=0 then i+1 else i+l.If.n) by split<;>omega]at sk;show Be _ (P4 (Ec l w (i+1)) (Lb N l w) (fun _=>some []) (Z,_,_))=_;rw[sk,g1];rfl
   ·obtain⟨M,rfl⟩:∃K,M=K+1:=⟨M-1,by omega⟩;have hdn:((x4.app Y).app (w'.drop (i+l.If.n))).n=x4.n+Y.n+(w'.n-(i+l.If.n)):=rfl;rw[T3,AQ1,hif,if_pos (by simp;omega),e2,AY7,if_neg (by simp),Dy (by omega),if_pos (by omega)];simp only[AY3];rw[p2,AY7,if_pos (by omega),if_pos (by show (x2.n+1)*8<=_/\x2.n+1<=_;omega)];rw[if_pos ⟨⟨by show (0+(x4.n+Y.n))*8<=_/\0+(x4.n+Y.n)<=_;omega,by omega⟩,by simp only[Bj0];omega⟩,JO];by_cases h32:32<((x4.app Y).app (w'.drop (i+l.If.n))).n
    ·rw[if_pos (by simp only[decide_eq_true_eq,Bj0];omega),if_pos h32]
    rw[if_neg (by simp only[decide_eq_true_eq,Bj0];omega),if_neg h32,Az5 (s:=(Sl.of []:Sl Sound)) rfl,if_pos (by show (x3.n+1)*24<=_/\x3.n+1<=_;omega)];have g4:=g4 M (x2.push (i:Int)) (x3.push ((x4.app Y).app (w'.drop (i+l.If.n)))) (by omega) (by show x2.n+1+m<=_;omega) (by show x3.n+1+m<=_;omega);by_cases h0:l.If.n=0
    ·rw[if_pos (by simp[h0])];rw[if_pos h0]at g4;by_cases hlt:i<w.n
     ·rw[if_pos ⟨h0,hlt⟩]at g4;rw[if_pos (by simp only[decide_eq_true_eq];omega),if_pos ⟨by omega,by show (x4.n+Y.n+1)*8<=_/\x4.n+Y.n+1<=_;omega⟩,C0 (by omega),show w'.g (i+l.If.n)=w'.g i by rw[h0];rfl,show i+l.If.n+1=i+1 by omega];exact g4
     ·rw[if_neg (by omega)]at g4;rw[if_neg (by simp only[decide_eq_true_eq];omega),C0 (by omega),show i+l.If.n+1=i+1 by omega];exact g4
    ·rw[if_neg (by simp[h0])];rw[if_neg h0,if_neg (by omega)]at g4;exact g4
def trS (r r' : Az6):Prop:=r.1=r'.1/\r.2.1.n=r'.2.1.n/\(∀i,i<r.2.1.n->SE (r.2.1.g i) (r'.2.1.g i))/\r.2.2=r'.2.2
theorem AE5:∀(L L' : Us) (x:Sl Int) (y y' : Sl (Sl Sound)),RL L L' -> y.n=y'.n->(∀i,i<y.n->SE (y.g i) (y'.g i))->trS (JO x y L) (JO x y' L')
 |[],[],x,y,y',_,h1,h2=>⟨rfl,h1,h2,rfl⟩
 |(p,v)::L,(q,u)::M,x,y,y',⟨h3,h4,h5⟩,h1,h2=>by
  subst h3;unfold JO;rw[<- h4.1];split
  ·exact⟨rfl,rfl,fun i hi=>absurd hi (Bc5 i),rfl⟩
  ·refine AE5 L M _ _ _ h5 (by show y.n+1=y'.n+1;omega) fun i hi=>?_;have hi:i<y.n+1:=hi;show SE (if i<y.n then y.g i else v) (if i<y'.n then y'.g i else u);rw[<- h1];split
   ·exact h2 i (by assumption)
   ·exact h4
 |[],_::_,_,_,_,h,_,_=>h.elim
 |_::_,[],_,_,_,h,_,_=>h.elim
theorem Ao0:∀(L:Us) (x:Sl Int) (y:Sl (Sl Sound)),vL L->(∀i,i<y.n->wOk (y.g i))->(JO x y L).2.2=11 \/ ((JO x y L).2.2=0/\(JO x y L).2.1.n<=y.n+L.length/\∀i,i<(JO x y L).2.1.n->wOk ((JO x y L).2.1.g i))
 |[],x,y,_,h=>.inr ⟨rfl,AZ0 _,h⟩
 |(p,v)::L,x,y,hv,h=>by
  unfold JO;split
  ·exact .inl rfl
  ·have:=Ao0 L (x.push p) (y.push v) (fun z hz=>hv z (Bb2 _ hz)) fun i hi=>by
    show wOk (if i<y.n then y.g i else v);split
    ·exact h i (by assumption)
    ·exact⟨by omega,hv (p,v) (by simp)⟩
   rcases this with h|⟨h1,h2,h3⟩
   ·exact .inl h
   ·refine .inr ⟨h1,?_,h3⟩;have h2:_<=y.n+1+L.length:=h2;simp only[Bb6];omega
theorem Ux:∀(L:Us) (x:Sl Int) (y:Sl (Sl Sound)),x.n+L.length<=100000->y.n+L.length<=100000 ->
 P4 L (fun (self1:Sl Int×Sl (Sl Sound)->Option Az6) (x1:Int×(Sl Sound)) (z1:(Sl Int)×(Sl (Sl Sound)))=>
  if (decide (32<(x1.2.n:Int))) then
   some ((Sl.nil:Sl Int),(Sl.nil:Sl (Sl Sound)),11)
  else
   if ((z1.1.n+(Sl.of [x1.1]:Sl Int).n)*8<=140737488355328/\z1.1.n+(Sl.of [x1.1]:Sl Int).n<=140737488355328)then
    if ((z1.2.n+(Sl.of [x1.2]:Sl (Sl Sound)).n)*24<=140737488355328/\z1.2.n+(Sl.of [x1.2]:Sl (Sl Sound)).n<=140737488355328)then
     self1 (z1.1.push x1.1,z1.2.push x1.2)
    else none
   else none
  ) (fun (z1:(Sl Int)×(Sl (Sl Sound)))=>
   some (z1.1,z1.2,0)
  ) (x,y)=some (JO x y L)
 |[],x,y,_,_=>rfl
 |(p,v)::L,x,y,hx,hy=>by
  simp only[Bb6]at hx hy;have ih:=Ux L (x.push p) (y.push v) (by show x.n+1+_<=_;omega) (by show y.n+1+_<=_;omega);rw[P4,JO];by_cases h:32<v.n
  ·rw[if_pos (by simp;omega),if_pos h]
  ·rw[if_neg (by simp;omega),if_neg h,if_pos (by show (x.n+1)*8<=_/\x.n+1<=_;omega),if_pos (by show (y.n+1)*24<=_/\y.n+1<=_;omega)];exact ih
def trE (N:Nat)(l:Law)(w:Sl Sound)(r:Az6):Prop:=(r.2.2=17/\¬chkAll N l) \/ (chkAll N l/\Yl w r.2.2/\r.2.2≠0) \/ (chkAll N l/\wOk w/\(r.2.2=11 \/ (r.2.2=0/\r.2.1.n<=1000/\∀i,i<r.2.1.n->wOk (r.2.1.g i))))
theorem Ao1 (e:Int):trS ((Sl.nil:Sl Int),(Sl.nil:Sl (Sl Sound)),e) ((Sl.nil:Sl Int),(Sl.nil:Sl (Sl Sound)),e):=⟨rfl,rfl,fun i hi=>absurd hi (Bc5 i),rfl⟩
theorem AE6 {w w' : Sl Sound}(h:SE w w'){e:Int}(hw:Yl w e):Yl w' e:=by
 rcases hw with⟨h1,h2⟩ | ⟨h1,⟨i,hi,h2⟩,h3⟩ | ⟨h1,h2⟩
 ·exact .inl ⟨by rw[<- h.1];exact h1,h2⟩
 ·exact .inr (.inl ⟨by rw[<- h.1];exact h1,⟨i,by rw[<- h.1];exact hi,by rw[<- h.2 i hi];exact h2⟩,h3⟩)
 ·exact .inr (.inr ⟨h.wOk h1,h2⟩)
theorem AN8 {w w' : Sl Sound}(h:SE w w')(hw:∀i,i<w.n->okS (w.g i)):∀i,i<w'.n->okS (w'.g i):=fun i hi=>by rw[<- h.2 i (by rw[h.1];exact hi)];exact hw i (by rw[h.1];exact hi)
theorem Ao2 {N:Nat}(hN:3000000<=N){l l' : Law}(hl:La l)(hle:LE l l'){w w' : Sl Sound}(hse:SE w w')(hw:∀i,i<w.n->okS (w.g i)) :∃r r',Du N l w=some r/\Ds N l' w' = some r' /\ trS r r' /\ trE N l w r:=by
 obtain⟨e,e1,_,he⟩:=ED hN hl;obtain⟨e0,_,e2,he0⟩:=ED hN (Yp hle hl);obtain rfl:=Uq (AN4 hle he) he0;unfold Du Ds Fd Fb;rw[e1,e2,AY7,AY7];rcases he with⟨rfl,hc⟩ | ⟨rfl,hc⟩
 case inr=>rw[if_pos (by decide),if_pos (by decide)];exact⟨_,_,rfl,rfl,Ao1 17,.inl ⟨rfl,hc⟩⟩
 rw[if_neg (by decide),if_neg (by decide)];obtain⟨e',e3,he'⟩:=Ny (N:=N) (by omega) hw;obtain⟨e'',e4,he''⟩:=GJ (N:=N) (by omega) (AN8 hse hw);obtain rfl:=Nx (AE6 hse he') he'';rw[e3,e4];simp only[AY7];by_cases h0:e' = 0
 case neg=>rw[if_pos (by simpa using h0),if_pos (by simpa using h0)];exact⟨_,_,rfl,rfl,Ao1 e', .inr (.inl ⟨hc,he',h0⟩)⟩
 rw[if_neg (by simp[h0]),if_neg (by simp[h0])];have hok:wOk w:=(Gu he').1 h0;have hf:=hc.f hl;obtain⟨hol,_,_,hk,ho,hko,hm1,hm3⟩:=id hf;have hn:=hok.1;have hn':=hse.1;have key:∃L L',BX N w l (l.If.n:Int) (l.Out.n:Int)=some L/\vL L/\L.length<=100/\RL L L' /\
  (if (l'.Mode==1) then (Ge N l' w').bind fun y2=>some (y2.1,y2.2.1,y2.2.2)
   else if (l'.Mode==2) then (Dr N l' w').bind fun y3=>some (y3.1,y3.2.1,y3.2.2)
   else (CW N l' w').bind fun y4=>some (y4.1,y4.2.1,y4.2.2))=some (JO (Sl.nil:Sl Int) (Sl.nil:Sl (Sl Sound)) L'):=by
  unfold BX;rw[hle.mode];by_cases c1:l.Mode=1
  ·rw[if_pos (show (l.Mode==1)=true by simp[c1]),if_pos (show (l.Mode==1)=true by simp[c1])];obtain⟨L,L',g1,g2,g3,g5,g4⟩:=AN7 (N:=N) (by omega) hf hle hse hn hok.2 (w.n+1) 0 (Sl.nil:Sl Sound) w 0 0 (by omega) (by omega) (fun _=>⟨by rw[Az5 rfl];exact⟨hse.1,fun i hi=>by rw[hse.2 i hi];show _=w'.g (0+i);rw[Bb7]⟩,rfl⟩) (by omega) (by show 0<=_;omega) hok.2 (by omega) (by omega);have hh:=Yn (N:=N) (by omega) hol hk (w:=w) (vOk hok) 0 (by omega);refine⟨L,L', ?_,g2,by omega,g5,?_⟩
   ·show ((X0 N l w ((0:Nat):Int)).bind fun L1=>P4 L1 (Lb N l w) (fun _=>some []) (w,0,0))=_;rw[hh,AY7];exact g1
   ·have:Ge N l' w' = some _:=g4 N (Sl.nil:Sl Int) (Sl.nil:Sl (Sl Sound)) (by omega) (by show 0+_<=_;omega) (by show 0+_<=_;omega)
    rw[this];rfl
  rw[if_neg (show ¬(l.Mode==1)=true by simp[c1]),if_neg (show ¬(l.Mode==1)=true by simp[c1])];by_cases c2:l.Mode=2
  ·rw[if_pos (show (l.Mode==2)=true by simp[c2]),if_pos (show (l.Mode==2)=true by simp[c2])];obtain⟨L,L',g1,g2,g3,g5,g4⟩:=An7 (N:=N) (by omega) hf hle (w.n+1) w w' 0 hse (by omega) hok.2 (by omega) (by omega);refine⟨L,L',g1 N (by omega),g2,by omega,g5,?_⟩
   have:Dr N l' w' = some _:=g4 N (Sl.nil:Sl Int) (Sl.nil:Sl (Sl Sound)) (by omega) (by show 0+_<=_;omega) (by show 0+_<=_;omega)
   rw[this];rfl
  ·have c3:l.Mode=3:=by omega
   rw[if_neg (show ¬(l.Mode==2)=true by simp[c2]),if_neg (show ¬(l.Mode==2)=true by simp[c2]),if_pos (show (l.Mode==3)=true by simp[c3])];obtain⟨L,L',g1,g2,g3,g5,g4⟩:=Az7 (N:=N) (by omega) hf hle (w.n+1) w w' ((w.n:Int)-(l.If.n:Int)) hse (by omega) hok.2 (by omega) (by omega) (by omega);refine⟨L,L', ?_,g2,by omega,g5,?_⟩
   ·rw[F0 (by omega) (by omega)];exact g1 N (by omega)
   ·have g4:=g4 N (Sl.nil:Sl Int) (Sl.nil:Sl (Sl Sound)) (by omega) (by show 0+_<=_;omega) (by show 0+_<=_;omega)
    have:CW N l' w' = some (JO (Sl.nil:Sl Int) (Sl.nil:Sl (Sl Sound)) L'):=by unfold CW;rw[show wrap .i64 ((w'.n:Int)-(l'.If.n:Int))=(w.n:Int)-(l.If.n:Int) by rw[<- hn', <- hle.cond.1,F0 (by omega) (by omega)]];exact g4
    rw[this];rfl
 obtain⟨L,L',g1,g2,g3,g5,g4⟩:=key;refine⟨JO (Sl.nil:Sl Int) (Sl.nil:Sl (Sl Sound)) L,_,?_,g4,AE5 L L' _ _ _ g5 rfl fun i hi=>absurd hi (Bc5 i),.inr (.inr ⟨hc,hok,?_⟩)⟩
 ·rw[IU,AY7];show ((BX N w l (l.If.n:Int) (l.Out.n:Int)).bind _)=_;rw[g1,AY7];exact Ux L _ _ (by show 0+_<=_;omega) (by show 0+_<=_;omega)
 ·rcases Ao0 L (Sl.nil:Sl Int) (Sl.nil:Sl (Sl Sound)) g2 fun i hi=>absurd hi (Bc5 i)with h|⟨h1,h2,h3⟩
  ·exact .inl h
  ·exact .inr ⟨h1,by have h2:_<=0+L.length:=h2;omega,h3⟩
end Go.AM
namespace Go.AM
open IntKind (wrap)
open Go.Proofs
def apE (N:Nat)(l:Law)(w:Sl Sound)(r:Sl Sound×Int):Prop:=(r.2=17/\¬chkAll N l) \/ (chkAll N l/\Yl w r.2/\r.2≠0) \/ (chkAll N l/\wOk w/\(r.2=11 \/ (r.2=0/\wOk r.1)))
theorem Ao3 {N:Nat}(hN:3000000<=N){l l' : Law}(hl:La l)(hle:LE l l'){w w' : Sl Sound}(hse:SE w w')(hw:∀i,i<w.n->okS (w.g i)) :∃r r',AS N l w=some r/\BV N l' w' = some r' /\ SE r.1 r'.1/\r.2=r'.2/\apE N l w r:=by
 obtain⟨⟨x,y,e⟩,⟨x',y',e'⟩,h1,h2,⟨_,hn,hs,he⟩,ht⟩:=Ao2 hN hl hle hse hw;dsimp only at hn hs he;subst he;have hn':=hse.1;unfold trE at ht;dsimp only at ht;unfold AS BV;rw[h1,h2,AY7,AY7];dsimp only;by_cases h0:e=0
 case neg=>
  rw[if_pos (show (e != 0)=true by simpa using h0),if_pos (show (e != 0)=true by simpa using h0)];refine⟨_,_,rfl,rfl,SE.refl _,rfl,?_⟩;rcases ht with h|h|⟨h3,h4,h5⟩
  ·exact .inl h
  ·exact .inr (.inl h)
  ·exact .inr (.inr ⟨h3,h4,.inl (h5.resolve_right fun h=>h0 h.1)⟩)
 rw[if_neg (show ¬(e != 0)=true by simp[h0]),if_neg (show ¬(e != 0)=true by simp[h0])];rcases ht with h|h|⟨h3,h4,h5⟩
 ·exact absurd (h.1.symm.trans h0) (by decide)
 ·exact absurd h0 h.2.2
 rcases h5 with h5|⟨_,h6,h7⟩
 ·exact absurd (h5.symm.trans h0) (by decide)
 have h32:=h4.1;by_cases hy:y.n=0
 ·rw[if_neg (show ¬decide ((0:Int)<(y.n:Int))=true by simp[hy]),if_pos (show ((y'.n:Int)==0)=true by simp[<- hn,hy]),if_pos (by show (0+w'.n)*8<=_/\0+w'.n<=_;omega),Az5 (s:=(Sl.of []:Sl Sound)) rfl];unfold A7;rw[if_pos (by omega)];exact⟨_,_,rfl,rfl,hse,rfl,.inr (.inr ⟨h3,h4,.inr ⟨rfl,h4⟩⟩)⟩
 ·have hk:=h7 (y.n-1) (by omega);have hk2:=hs (y.n-1) (by omega);have hb:=hk.1;have hb2:=hk2.1;have e1:wrap .i64 ((y.n:Int)-1)=((y.n-1:Nat):Int):=wrapP (by omega) (by omega);have e2:wrap .i64 ((y'.n:Int)-1)=((y.n-1:Nat):Int):=by rw[<- hn];exact e1
  rw[e1,e2,AY3,if_pos (show decide ((0:Int)<(y.n:Int))=true by simp;omega),if_pos (by omega),if_neg (show ¬((y'.n:Int)==0)=true by simp;omega),if_pos ⟨by omega,by show (0+(y'.g (y.n-1)).n)*8<=_/\0+(y'.g (y.n-1)).n<=_;omega⟩,Az5 (s:=(Sl.of []:Sl Sound)) rfl];exact⟨_,_,rfl,rfl,hk2,rfl,.inr (.inr ⟨h3,h4,.inr ⟨rfl,hk⟩⟩)⟩
theorem Uy {N:Nat}{s:Sl Law}(hN:s.n<N)(hs:s.n<1000000){f:Law->Option Bool}{b:Nat->Bool}(hf:∀i,i<s.n->f (s.g i)=some (b i)) :∃r,C8 N s f=some r/\(r=true ↔ ∃i,i<s.n/\b i=true):=by
 unfold C8 E8
 have:∃y,R5 N (fun (self1:Int->Option Int) (x1:Int)=>
  if (decide (x1<(s.n:Int))) then
   if ((0:Int)<=x1/\x1<(s.n:Int))then
    (f (s.g x1.toNat)).bind fun y3=>
    if y3 then
     some x1
    else
     self1 (wrap .i64 (x1+1))
   else none
  else
   some (-1)) 0=some y/\(0<=y ↔ ∃i,i<s.n/\b i=true):=by
  refine BD (fun i x1=>x1=(i:Int)/\∀j,j<i->b j=false) s.n _ hN ⟨rfl,fun j hj=>absurd hj (by omega)⟩ ?_;rintro self i x1 hi ⟨rfl,h⟩ hs2;by_cases hl:i<s.n
  ·refine ifT (by simp;omega) (ifT (by omega) (B4 (by rw[AY3];exact hf i hl) ?_));cases hb:b i
   ·refine ifF (by simp) (hs2 hl _ ⟨C0 (by omega),fun j hj=>?_⟩);by_cases e:j=i
    ·subst e;exact hb
    ·exact h j (by omega)
   ·exact ifT rfl ⟨i,rfl,fun _=>⟨i,hl,hb⟩,fun _=>by omega⟩
  ·refine ifF (by simp;omega) ⟨-1,rfl,fun h=>absurd h (by decide),?_⟩;rintro⟨j,hj,hb⟩;rw[h j (by omega)]at hb;cases hb
 obtain⟨y,e,hy⟩:=this;exact B4 e ⟨_,rfl,by rw[decide_eq_true_eq];exact hy⟩
def Lc (N:Nat)(laws:Sl Law)(e:Int):Prop:=(64<laws.n/\e=12) \/ (laws.n<=64/\(∃i,i<laws.n/\¬chkAll N (laws.g i))/\e=17) \/ ((laws.n<=64/\∀i,i<laws.n->chkAll N (laws.g i))/\e=0)
theorem JP {N:Nat}{laws:Sl Law}{e e' : Int}(h:Lc N laws e)(h' : Lc N laws e'):e=e':=by rcases h with⟨h,rfl⟩ | ⟨h,⟨i,hi,h2⟩,rfl⟩ | ⟨⟨h,h2⟩,rfl⟩<;>rcases h' with⟨g,rfl⟩ | ⟨g,⟨j,hj,g2⟩,rfl⟩ | ⟨⟨g,g2⟩,rfl⟩<;>first|rfl|(exfalso;omega)|exact absurd (g2 i hi) h2|exact absurd (h2 j hj) g2
def LS (s t:Sl Law):Prop:=s.n=t.n/\∀i,i<s.n->LE (s.g i) (t.g i)
theorem LS.refl (s:Sl Law):LS s s:=⟨rfl,fun _ _=>LE.refl _⟩
theorem Ao4 {N:Nat}{laws laws' : Sl Law}(h:LS laws laws'){e:Int}(hw:Lc N laws e):Lc N laws' e:=by
 have hn:=h.1;rcases hw with⟨h1,h2⟩ | ⟨h1,⟨i,hi,h2⟩,h3⟩ | ⟨⟨h1,h2⟩,h3⟩
 ·exact .inl ⟨by omega,h2⟩
 ·exact .inr (.inl ⟨by omega,⟨i,by omega,fun g=>h2 ((Jc (h.2 i hi)).2 g)⟩,h3⟩)
 ·exact .inr (.inr ⟨⟨by omega,fun i hi=>(Jc (h.2 i (by omega))).1 (h2 i (by omega))⟩,h3⟩)
def AE (laws:Sl Law):Prop:=∀i,i<laws.n->La (laws.g i)
theorem RM {laws laws' : Sl Law}(h:LS laws laws')(hl:AE laws):AE laws':=fun i hi=>by exact Yp (h.2 i (by rw[h.1];exact hi)) (hl i (by rw[h.1];exact hi))
theorem Qh {N:Nat}(hN:3000000<=N){laws:Sl Law}(hl:AE laws):∃e,O1 N laws=some e/\BS N laws=some e/\Lc N laws e:=by
 have h1:∃e,O1 N laws=some e/\Lc N laws e:=by
  unfold O1;by_cases hn:64<laws.n
  ·exact ifT (by simp;omega) ⟨12,rfl,.inl ⟨hn,rfl⟩⟩
  refine ifF (by simp;omega) ?_;have hv:∀i,∃b,i<laws.n->P9 N (laws.g i)=some b/\(b=true ↔ ¬chkAll N (laws.g i)):=by
   intro i;by_cases hi:i<laws.n
   ·obtain⟨e,e1,_,he⟩:=ED hN (hl i hi);refine⟨e != 0,fun _=>⟨by unfold P9;rw[e1];rfl,?_⟩⟩;rcases he with⟨rfl,h⟩ | ⟨rfl,h⟩
    ·exact⟨fun h=>absurd h (by decide),fun g=>absurd h g⟩
    ·exact⟨fun _=>h,fun _=>by decide⟩
   ·exact⟨false,fun h=>absurd h hi⟩
  obtain⟨f,hf⟩:=Bg0 hv;obtain⟨r,e1,h1⟩:=Uy (N:=N) (s:=laws) (by omega) (by omega) (f:=fun u1=>P9 N u1) (fun i hi=>(hf i hi).1);refine B4 e1 ?_;cases hr:r
  ·refine ifF (by simp) ⟨0,rfl,.inr (.inr ⟨⟨by omega,fun i hi=>Bb0 fun hn=>?_⟩,rfl⟩)⟩
   have:=h1.2 ⟨i,hi,(hf i hi).2.2 hn⟩
   rw[hr]at this;cases this
  ·obtain⟨i,hi,hb⟩:=h1.1 hr;exact ifT rfl ⟨17,rfl,.inr (.inl ⟨by omega,⟨i,hi,(hf i hi).2.1 hb⟩,rfl⟩)⟩
 have h2:∃e,BS N laws=some e/\Lc N laws e:=by
  unfold BS;by_cases hn:64<laws.n
  ·exact ifT (by simp;omega) ⟨12,rfl,.inl ⟨hn,rfl⟩⟩
  refine ifF (by simp;omega) ?_;refine BD (fun i x1=>x1=(i:Int)/\∀j,j<i->chkAll N (laws.g j)) laws.n _ (by omega) ⟨rfl,fun j hj=>absurd hj (by omega)⟩ ?_;rintro self i x1 hi ⟨rfl,h⟩ hs;by_cases hlt:i<laws.n
  ·obtain⟨e,_,e1,he⟩:=ED hN (hl i hlt);refine ifT (by simp;omega) (ifT (by omega) (B4 (by rw[AY3];exact e1) ?_));rcases he with⟨rfl,hc⟩ | ⟨rfl,hc⟩
   ·refine ifF (by decide) (hs hlt _ ⟨C0 (by omega),fun j hj=>?_⟩);by_cases e:j=i
    ·subst e;exact hc
    ·exact h j (by omega)
   ·exact ifT (by decide) ⟨17,rfl,.inr (.inl ⟨by omega,⟨i,hlt,hc⟩,rfl⟩)⟩
  ·exact ifF (by simp;omega) ⟨0,rfl,.inr (.inr ⟨⟨by omega,fun j hj=>h j (by omega)⟩,rfl⟩)⟩
 obtain⟨e,e1,g1⟩:=h1;obtain⟨e',e2,g2⟩:=h2;obtain rfl:=JP g1 g2;exact⟨_,e1,e2,g1⟩
def AE7 (l:Sl (Sl Sound))(e:Int):Prop:=(e=0/\∀i,i<l.n->wOk (l.g i)) \/ (∃i,i<l.n/\(∀j,j<i->wOk (l.g j))/\Yl (l.g i) e/\e≠0)
theorem Ab7 {N:Nat}(hN:3000000<=N){l:Sl (Sl Sound)}(hn:l.n<2000000)(hw:∀i,i<l.n->∀j,j<(l.g i).n->okS ((l.g i).g j)) :∃e,R5 N (fun (self1:Int->Option Int) (x1:Int)=>
  if (decide (x1<(l.n:Int))) then
   if ((0:Int)<=x1/\x1<(l.n:Int))then
    (N9 N (l.g x1.toNat)).bind fun y4=>
    if (y4 != 0) then
     some y4
    else
     self1 (wrap .i64 (x1+1))
   else none
  else
   some 0
  ) 0=some e/\AE7 l e:=by
 refine BD (fun i x1=>x1=(i:Int)/\∀j,j<i->wOk (l.g j)) l.n _ (by omega) ⟨rfl,fun j hj=>absurd hj (by omega)⟩ ?_;rintro self i x1 hi ⟨rfl,h⟩ hs;by_cases hlt:i<l.n
 ·obtain⟨e,e1,he⟩:=Ny (N:=N) (by omega) (hw i hlt);refine ifT (by simp;omega) (ifT (by omega) (B4 (by rw[AY3];exact e1) ?_));by_cases h0:e=0
  ·refine ifF (by simp[h0]) (hs hlt _ ⟨C0 (by omega),fun j hj=>?_⟩);by_cases e:j=i
   ·subst e;exact (Gu he).1 h0
   ·exact h j (by omega)
  ·exact ifT (by simpa using h0) ⟨e,rfl,.inr ⟨i,hlt,h,he,h0⟩⟩
 ·exact ifF (by simp;omega) ⟨0,rfl,.inl ⟨rfl,fun j hj=>h j (by omega)⟩⟩
theorem AN9 {w:Sl Sound}{e:Int}(h:AE7 (Sl.of [w]:Sl (Sl Sound)) e):Yl w e:=by
 rcases h with⟨rfl,h⟩ | ⟨i,hi,_,h,_⟩
 ·exact .inr (.inr ⟨h 0 (by show 0<1;omega),rfl⟩)
 ·match i,hi with
  |0,_=>exact h
theorem WU {N:Nat}(hN:3000000<=N){laws:Sl Law}(hl:AE laws){w:Sl Sound}(hw:∀i,i<w.n->okS (w.g i)) :∃e,Ay N laws (Sl.of [w]:Sl (Sl Sound))=some e/\((Lc N laws e/\e≠0) \/ (Lc N laws 0/\Yl w e)):=by
 unfold Ay;obtain⟨e,e1,_,h1⟩:=Qh hN hl;refine B4 e1 ?_;by_cases h0:e=0
 case neg=>exact ifT (by simpa using h0) ⟨e,rfl,.inl ⟨h1,h0⟩⟩
 refine ifF (by simp[h0]) (ifF (by show ¬decide ((256:Int)<((1:Nat):Int))=true;decide) ?_);obtain⟨e2,e3,h3⟩:=Ab7 (N:=N) hN (l:=(Sl.of [w]:Sl (Sl Sound))) (by show 1<_;omega) fun i hi=>by
  match i,hi with
  |0,_=>exact hw
 exact⟨e2,e3,.inr ⟨h0 ▸ h1,AN9 h3⟩⟩
def DP (N:Nat)(c:Int)(q1:Sl Law)(self1:Sl Sound->Int->Option Us)(x1:Sl Sound)(x2:Int):Option Us:=
 if (decide (x2<(q1.n:Int))) then
  if ((0:Int)<=x2/\x2<(q1.n:Int))then
   (AS N (q1.g x2.toNat) x1).bind fun y4=>
   if (y4.2 != 0) then
    if y4.2=c then some []else none
   else
    Be (wrap .i64 (x2+1),y4.1) (
     self1 y4.1 (wrap .i64 (x2+1))
     )
  else none
 else
  if c=0 then some []else none
theorem Dw {N:Nat}{c:Int}{laws:Sl Law}{self1:Sl Sound->Int->Option Us}{w:Sl Sound}{i:Nat}(hi:i<laws.n)(h64:laws.n<=64){y:Sl Sound×Int}(h:AS N (laws.g i) w=some y) :DP N c laws self1 w (i:Int)=if (y.2 != 0) then (if y.2=c then some []else none)else Be (((i+1:Nat):Int),y.1) (self1 y.1 ((i+1:Nat):Int)):=by unfold DP;rw[if_pos (show decide ((i:Int)<(laws.n:Int))=true by simp;omega),if_pos (by omega),AY3,h,AY7,C0 (by omega)]
abbrev AW3:=(Sl (Sl Sound))×Int
def Gw (N:Nat)(p_laws:Sl Law)(self1:Sl (Sl Sound)->Int->Option AW3)(x2:Sl (Sl Sound))(x3:Int):Option AW3:=
 if (decide (x3<(p_laws.n:Int))) then
  if ((((0:Int)<=x3/\x3<(p_laws.n:Int))/\((0:Int)<=x3/\x3<(x2.n:Int)))/\x3.toNat<x2.n)then
   (BV N (p_laws.g x3.toNat) (x2.g x3.toNat)).bind fun y7=>
   if (y7.2 != 0) then
    some ((Sl.nil:Sl (Sl Sound)),y7.2)
   else
    if ((x2.n+(Sl.of [y7.1]:Sl (Sl Sound)).n)*24<=140737488355328/\x2.n+(Sl.of [y7.1]:Sl (Sl Sound)).n<=140737488355328)then
     self1 (x2.push y7.1) (wrap .i64 (x3+1))
    else none
  else none
 else
  some (x2,0)
def WV:Sl Sound->Us->Sl Sound
 |w,[]=>w
 |_,(_,v)::L=>WV v L
theorem RN:∀(L:Us) (w:Sl Sound),P4 L (fun (self1:Sl Sound->Option (Sl Sound)) (x1:Int×(Sl Sound)) (z1:Sl Sound)=>self1 x1.2) (fun (z1:Sl Sound)=>some z1) w=some (WV w L)
 |[],w=>rfl
 |(p,v)::L,w=>RN L v
def NB (N:Nat)(laws:Sl Law):Prop:=laws.n<=64/\∀i,i<laws.n->chkAll N (laws.g i)
theorem Ao5 {N:Nat}(hN:3000000<=N){laws laws' : Sl Law}(hl:AE laws)(hls:LS laws laws')(hok:NB N laws):∀(m i:Nat) (w w' : Sl Sound),SE w w' -> wOk w->i<=laws.n->laws.n<=i+m ->
 (∃L v',SE (WV w L) v' /\ wOk (WV w L)/\(∀M,m<M->S4 M (DP N 0 laws) w i=some L)/\∀M x2,m<M->x2.n=i+1->x2.g i=w' -> ∃y,S4 M (Gw N laws') x2 i=some (y,0)/\y.n=laws.n+1/\y.g laws.n=v') \/
 ((∃L,∀M,m<M->S4 M (DP N 0 laws) w i=none/\S4 M (DP N 11 laws) w i=some L)/\∀M x2,m<M->x2.n=i+1->x2.g i=w' -> S4 M (Gw N laws') x2 i=some ((Sl.nil:Sl (Sl Sound)),11)):=by
 have hn':=hls.1;have h64:=hok.1;intro m
 induction m with
 |zero=>
  intro i w w' hse hw hi hm;refine .inl ⟨[],w',hse,hw,fun M hM=>?_,fun M x2 hM hx hg=>⟨x2,?_,by omega,by rw[<- hg];congr 1;omega⟩⟩
  ·obtain⟨M,rfl⟩:∃K,M=K+1:=⟨M-1,by omega⟩;rw[F3,DP,if_neg (by simp;omega),if_pos rfl]
  ·obtain⟨M,rfl⟩:∃K,M=K+1:=⟨M-1,by omega⟩;rw[F3,Gw,if_neg (by simp;omega)]
 |succ m ih=>
  intro i w w' hse hw hi hm;by_cases hlt:i<laws.n
  case neg=>
   refine .inl ⟨[],w',hse,hw,fun M hM=>?_,fun M x2 hM hx hg=>⟨x2,?_,by omega,by rw[<- hg];congr 1;omega⟩⟩
   ·obtain⟨M,rfl⟩:∃K,M=K+1:=⟨M-1,by omega⟩;rw[F3,DP,if_neg (by simp;omega),if_pos rfl]
   ·obtain⟨M,rfl⟩:∃K,M=K+1:=⟨M-1,by omega⟩;rw[F3,Gw,if_neg (by simp;omega)]
  obtain⟨⟨v,e⟩,⟨v',e'⟩,h1,h2,h3,h4,h5⟩:=Ao3 hN (hl i hlt) (hls.2 i hlt) hse fun j hj=>(hw.2 j hj).ok;simp only at h3 h4;subst h4;rcases h5 with⟨_,h5⟩ | ⟨_,h5,h6⟩ | ⟨_,_,h5⟩
  ·exact absurd (hok.2 i hlt) h5
  ·exact absurd ((Gu h5).2 hw) h6
  rcases h5 with rfl|⟨rfl,hv⟩
  ·refine .inr ⟨⟨[],fun M hM=>?_⟩,fun M x2 hM hx hg=>?_⟩
   ·obtain⟨M,rfl⟩:∃K,M=K+1:=⟨M-1,by omega⟩;rw[F3,F3,Dw hlt h64 h1,Dw hlt h64 h1];exact⟨rfl,rfl⟩
   ·obtain⟨M,rfl⟩:∃K,M=K+1:=⟨M-1,by omega⟩;rw[F3,Gw,if_pos (by simp;omega),if_pos (by omega),AY3,hg,h2,AY7,if_pos (by simp)]
  ·rcases ih (i+1) v v' h3 hv (by omega) (by omega)with⟨L,u,g1,g2,g3,g4⟩ | ⟨⟨L,g1⟩,g2⟩
   ·refine .inl ⟨((i+1:Nat),v)::L,u,g1,g2,fun M hM=>?_,fun M x2 hM hx hg=>?_⟩
    ·obtain⟨M,rfl⟩:∃K,M=K+1:=⟨M-1,by omega⟩;rw[F3,Dw hlt h64 h1,if_neg (by simp)];show Be _ (S4 M (DP N 0 laws) v _)=_;rw[g3 M (by omega)];rfl
    ·obtain⟨M,rfl⟩:∃K,M=K+1:=⟨M-1,by omega⟩;rw[F3,Gw,if_pos (by simp;omega),if_pos (by omega),AY3,hg,h2,AY7,if_neg (by simp),if_pos (by show (x2.n+1)*24<=_/\x2.n+1<=_;omega),C0 (by omega)];exact g4 M (x2.push v') (by omega) (by show x2.n+1=_;omega) (by show (if i+1<x2.n then x2.g (i+1)else v')=v';rw[if_neg (by omega)])
   ·refine .inr ⟨⟨((i+1:Nat),v)::L,fun M hM=>?_⟩,fun M x2 hM hx hg=>?_⟩
    ·obtain⟨M,rfl⟩:∃K,M=K+1:=⟨M-1,by omega⟩;obtain⟨a1,a2⟩:=g1 M (by omega);rw[F3,F3,Dw hlt h64 h1,Dw hlt h64 h1,if_neg (by simp),if_neg (by simp)];refine⟨?_,?_⟩
     ·show Be _ (S4 M (DP N 0 laws) v _)=_;rw[a1];rfl
     ·show Be _ (S4 M (DP N 11 laws) v _)=_;rw[a2];rfl
    ·obtain⟨M,rfl⟩:∃K,M=K+1:=⟨M-1,by omega⟩;rw[F3,Gw,if_pos (by simp;omega),if_pos (by omega),AY3,hg,h2,AY7,if_neg (by simp),if_pos (by show (x2.n+1)*24<=_/\x2.n+1<=_;omega),C0 (by omega)];exact g2 M (x2.push v') (by omega) (by show x2.n+1=_;omega) (by show (if i+1<x2.n then x2.g (i+1)else v')=v';rw[if_neg (by omega)])
theorem Az9 {N:Nat}{w:Sl Sound}(hN:w.n<N)(hs:w.n<10000000):∃y,CQ N w=some y/\SE w y:=by
 suffices h:∃y,CQ N w=some y/\y=BJ w.g w.n by obtain⟨y,h,rfl⟩:=h;exact⟨_,h,(HS _ _).symm,fun i hi=>(WN w.g hi).symm⟩
 unfold CQ;refine P6 (fun i x1 x2=>x2=(i:Int)/\x1=BJ w.g i) w.n _ hN ⟨rfl,rfl⟩ ?_;rintro self i x1 x2 hi ⟨rfl,rfl⟩ hs2;by_cases hl:i<w.n
 ·have:=HS w.g i
  refine ifT (by simp;omega) (ifT ⟨by omega,by show ((BJ w.g i).n+1)*8<=_/\(BJ w.g i).n+1<=_;omega⟩ (hs2 hl _ _ ⟨C0 (by omega),by rw[AY3];rfl⟩))
 ·exact ifF (by simp;omega) ⟨_,rfl,by congr 1;omega⟩
def deE (N:Nat)(laws:Sl Law)(w:Sl Sound)(r:Sl Sound×Int):Prop:=(Lc N laws r.2/\r.2≠0) \/ (Lc N laws 0/\Yl w r.2/\r.2≠0) \/ (NB N laws/\wOk w/\(r.2=11 \/ (r.2=0/\wOk r.1)))
theorem lawsE_zero {N:Nat}{laws:Sl Law}:Lc N laws 0↔NB N laws:=by
 constructor
 ·rintro (⟨_,h⟩ | ⟨_,_,h⟩ | ⟨h,_⟩)
  ·cases h
  ·cases h
  ·exact h
 ·exact fun h=>.inr (.inr ⟨h,rfl⟩)
theorem Ab8 {N:Nat}(hN:3000000<=N){laws laws' : Sl Law}(hl:AE laws)(hls:LS laws laws'){w w' : Sl Sound}(hse:SE w w')(hw:∀i,i<w.n->okS (w.g i)) :∃r r',P1 N laws w=some r/\Cp N laws' w' = some r' /\ SE r.1 r'.1/\r.2=r'.2/\deE N laws w r:=by
 obtain⟨e,e1,h1⟩:=WU hN hl hw;obtain⟨a,_,a1,ha⟩:=Qh hN (RM hls hl);unfold P1 Cp Fc;rw[e1,a1,AY7,AY7];rcases h1 with⟨h1,h0⟩ | ⟨h1,h2⟩
 ·obtain rfl:=JP (Ao4 hls h1) ha;have hne:(e != 0)=true:=by simpa using h0
  have hnz:¬(e==0)=true:=by simpa using h0
  rw[if_pos hne,lt,if_neg hnz];dsimp only;rw[if_pos hne,AY7];dsimp only;rw[if_pos hne];exact⟨_,_,rfl,rfl,SE.refl _,rfl,.inl ⟨h1,h0⟩⟩
 obtain rfl:=JP (Ao4 hls h1) ha;rw[lt,if_pos (show ((0:Int)==0)=true from rfl)];obtain⟨b,b1,hb⟩:=GJ (N:=N) (by omega) (AN8 hse hw);obtain rfl:=Nx (AE6 hse h2) hb;rw[b1,AY7];dsimp only;by_cases h0:e=0
 case neg=>
  have hne:(e != 0)=true:=by simpa using h0
  rw[if_pos hne,if_pos hne,AY7];dsimp only;rw[if_pos hne];exact⟨_,_,rfl,rfl,SE.refl _,rfl,.inr (.inl ⟨h1,h2,h0⟩)⟩
 have hnz:¬(e != 0)=true:=by simp[h0]
 rw[if_neg hnz,if_neg hnz];have hok:=lawsE_zero.1 h1;have hwk:wOk w:=(Gu h2).1 h0;have h32:=hwk.1;have hnn:=hse.1;have h64:=hok.1;have hn':=hls.1;obtain⟨y4,c1,c2⟩:=Az9 (N:=N) (w:=w') (by omega) (by omega);have hclone:A7 N w=some w:=by unfold A7;rw[if_pos (by omega)]
 have hout:∀c,E9 N c laws w=(Be (0,w) (S4 N (DP N c laws) w 0)).bind fun L1=>P4 L1 (fun (self1:Sl Sound->Option (Sl Sound)) (x1:Int×(Sl Sound)) (z1:Sl Sound)=>self1 x1.2) (fun (z1:Sl Sound)=>some z1) (Sl.nil:Sl Sound):=by intro c;unfold E9 Cf AK;rw[AY7,hclone,AY7];rfl
 have hdoc:∀(x2:Sl (Sl Sound)),(S4 N (fun self1 (x2:Sl (Sl Sound)) (x3:Int)=>Gw N laws' self1 x2 x3) x2 0)=S4 N (Gw N laws') x2 ((0:Nat):Int):=fun _=>rfl;rw[c1,AY7];rcases Ao5 hN hl hls hok laws.n 0 w y4 (hse.trans c2) hwk (by omega) (by omega)with⟨L,v',g1,g2,g3,g4⟩ | ⟨⟨L,g1⟩,g2⟩
 ·obtain⟨y,d1,d2,d3⟩:=g4 N (Sl.of [y4]:Sl (Sl Sound)) (by omega) rfl rfl
  have:L0 N laws w=some (WV w L,true):=by
   have e0:E9 N 0 laws w=some (WV w L):=by rw[hout];have g3:S4 N (DP N 0 laws) w 0=some L:=g3 N (by omega);rw[g3];exact RN _ _
   unfold L0;rw[e0]
  rw[this,AY7,if_neg (by simp)];refine⟨_,(v',0),rfl,?_,g1,rfl,.inr (.inr ⟨hok,hwk,.inr ⟨rfl,g2⟩⟩)⟩;show Option.bind (S4 N (Gw N laws') (Sl.of [y4]:Sl (Sl Sound)) ((0:Nat):Int)) _=_;rw[d1,AY7,if_neg (by simp)];have ew:wrap .i64 ((y.n:Int)-1)=((laws.n:Nat):Int):=by rw[d2,F0 (by omega) (by omega)];omega
  simp only[ew,AY3];rw[if_pos (by omega),d3]
 ·have:L0 N laws w=some ((Sl.nil:Sl Sound),false):=by
   obtain⟨g3,g4⟩:=g1 N (by omega);have g3:S4 N (DP N 0 laws) w 0=none:=g3;have g4:S4 N (DP N 11 laws) w 0=some L:=g4;have e0:E9 N 0 laws w=none:=by rw[hout,g3];rfl
   have e11:E9 N 11 laws w=some (WV w L):=by rw[hout,g4];exact RN _ _
   unfold L0;rw[e0,e11];rfl
  rw[this,AY7,if_pos (by simp)];refine⟨_,((Sl.nil:Sl Sound),11),rfl,?_,SE.refl _,rfl,.inr (.inr ⟨hok,hwk,.inl rfl⟩)⟩;show Option.bind (S4 N (Gw N laws') (Sl.of [y4]:Sl (Sl Sound)) ((0:Nat):Int)) _=_;rw[g2 N (Sl.of [y4]:Sl (Sl Sound)) (by omega) rfl rfl,AY7,if_pos (by decide)]
end Go.AM
namespace Go.AM
open IntKind (wrap)
open Go.Proofs
theorem WW {α : Type}(s:Sl α)(a : α):(s.push a).toList=s.toList++[a]:=by
 show (List.range (s.n+1)).map (fun i=>if i<s.n then s.g i else a)=_;rw[Bh9,Bk4];congr 1
 ·exact Bc4 fun i hi=>if_pos (Bf0.1 hi)
 ·simp
theorem sEq (x y:Sound):((x.Plus==y.Plus)&&(x.Minus==y.Minus))=decide (x=y):=by cases x;cases y;rw[Bb3];simp
theorem Ao6 {N:Nat}{x y:Sl Sound}(hN:x.n<N)(hs:x.n<10000000) :∃b,(if ((x.n:Int) != (y.n:Int)) then
 some false
 else
  R5 N (fun (self1:Int->Option Bool) (x1:Int)=>
   if (decide (x1<(x.n:Int))) then
    if (((0:Int)<=x1/\x1<(x.n:Int))/\((0:Int)<=x1/\x1<(y.n:Int)))then
     if ((((x.g x1.toNat).Plus==(y.g x1.toNat).Plus)&&((x.g x1.toNat).Minus==(y.g x1.toNat).Minus)) != true) then
      some false
     else
      self1 (wrap .i64 (x1+1))
    else none
   else
    some true
   ) 0)=some b/\(b=true↔SE x y):=by
 by_cases hn:x.n=y.n
 case neg=>exact ifT (by simp;omega) ⟨false,rfl,by simp,fun h=>absurd h.1 hn⟩
 refine ifF (by simp[hn]) ?_;refine BD (fun i x1=>x1=(i:Int)/\∀j,j<i->x.g j=y.g j) x.n _ hN ⟨rfl,fun j hj=>absurd hj (by omega)⟩ ?_;rintro self i x1 hi ⟨rfl,h⟩ hs2;by_cases hl:i<x.n
 ·refine ifT (by simp;omega) (ifT (by omega) ?_);rw[AY3,sEq];by_cases e:x.g i=y.g i
  ·refine ifF (by simp[e]) (hs2 hl _ ⟨C0 (by omega),fun j hj=>?_⟩);by_cases e2:j=i
   ·subst e2;exact e
   ·exact h j (by omega)
  ·exact ifT (by simp[e]) ⟨false,rfl,by simp,fun h=>absurd (h.2 i hl) e⟩
 ·exact ifF (by simp;omega) ⟨true,rfl,fun _=>⟨hn,fun j hj=>h j (by omega)⟩,fun _=>rfl⟩
theorem AO0 {N:Nat}{x y:Sl Sound}(hN:x.n<N)(hs:x.n<10000000):∃b,Cn N x y=some b/\(b=true↔SE x y):=by obtain⟨b,h,hb⟩:=Ao6 (N:=N) (x:=x) (y:=y) hN hs;exact⟨b,by unfold Cn;rw[show E6 N x y=some b from h];rfl,hb⟩
theorem AO1 {N:Nat}{x y:Sl Sound}(hN:x.n<N)(hs:x.n<10000000):∃b,Fa N x y=some b/\(b=true↔SE x y):=Ao6 hN hs
abbrev okA (w:Sl Sound):Prop:=∀i,i<w.n->okS (w.g i)
theorem Ao7 {N:Nat}(hN:3000000<=N){laws laws' : Sl Law}(hl:AE laws)(hls:LS laws laws'){v v' w w' : Sl Sound}(hv:SE v v')(hvo:okA v)(hw:SE w w') :∃b,H3 N laws v w=some b/\M0 N laws' v' w' = some b/\(b=true ↔ ∃r,P1 N laws v=some r/\r.2=0/\SE r.1 w):=by
 obtain⟨r,r',h1,h2,h3,h4,h5⟩:=Ab8 hN hl hls hv hvo;unfold H3 M0;rw[h1,h2,AY7,AY7,lt,lt,<- h4];by_cases h0:r.2=0
 ·rw[if_pos (by simp[h0]),if_pos (by simp[h0])];have hk:wOk r.1:=by
   rcases h5 with⟨_,h⟩ | ⟨_,_,h⟩ | ⟨_,_,h|⟨_,h⟩⟩
   ·exact absurd h0 h
   ·exact absurd h0 h
   ·rw[h]at h0;cases h0
   ·exact h
  have h32:=hk.1;have hn:=h3.1;obtain⟨b,e1,hb⟩:=AO0 (N:=N) (x:=r.1) (y:=w) (by omega) (by omega);obtain⟨b',e2,hb'⟩:=AO1 (N:=N) (x:=r'.1) (y:=w') (by omega) (by omega)
  have:b=b':=by rw[Bb3,hb,hb'];exact⟨fun h=>h3.symm.trans (h.trans hw),fun h=>h3.trans (h.trans hw.symm)⟩
  subst this;rw[e1,e2];refine⟨b,rfl,rfl,hb.trans ⟨fun h=>⟨r,rfl,h0,h⟩,?_⟩⟩;rintro⟨q,hq,_,hq2⟩;obtain rfl:=Bg1 hq;exact hq2
 ·rw[if_neg (by simp[h0]),if_neg (by simp[h0])];refine⟨false,rfl,rfl,by simp,?_⟩;rintro⟨q,hq,hq1,_⟩;obtain rfl:=Bg1 hq;exact absurd hq1 h0
def gv (N:Nat)(laws:Sl Law)(v w:Sl Sound):Bool:=(H3 N laws v w).getD false
theorem Uz {N:Nat}(hN:3000000<=N){laws laws' : Sl Law}(hl:AE laws)(hls:LS laws laws'){v v' w w' : Sl Sound}(hv:SE v v')(hvo:okA v)(hw:SE w w') :H3 N laws v w=some (gv N laws v w)/\M0 N laws' v' w' = some (gv N laws v w)/\(gv N laws v w=true ↔ ∃r,P1 N laws v=some r/\r.2=0/\SE r.1 w):=by
 obtain⟨b,h1,h2,h3⟩:=Ao7 hN hl hls hv hvo hw;have e:gv N laws v w=b:=by unfold gv;rw[h1];rfl
 rw[e];exact⟨h1,h2,h3⟩
theorem gv_S {N:Nat}(hN:3000000<=N){laws laws' : Sl Law}(hl:AE laws)(hls:LS laws laws'){v v' w w' : Sl Sound}(hv:SE v v')(hvo:okA v)(hw:SE w w'):gv N laws v w=gv N laws' v' w':=by have h1:=(Uz hN hl hls hv hvo hw).2.1;have h2:=(Uz hN (RM hls hl) (LS.refl laws') (SE.refl v') (AN8 hv hvo) (SE.refl w')).2.1;exact Bg1 (h1.symm.trans h2)
def WX (P:Nat->Bool)(n i:Nat):List Int:=((List.range' i (n-i)).filter P).map fun (j:Nat)=>(j:Int)
theorem Lo {P:Nat->Bool}{n i:Nat}(h:n<=i):WX P n i=[]:=by unfold WX;rw[show n-i=0 by omega];rfl
theorem Yr {P:Nat->Bool}{n i:Nat}(h:i<n)(hp:P i=true):WX P n i=(i:Int)::WX P n (i+1):=by unfold WX;rw[show n-i=n-(i+1)+1 by omega,Bg8,Bk5 hp];rfl
theorem Ao8 {P:Nat->Bool}{n i:Nat}(h:i<n)(hp:P i=false):WX P n i=WX P n (i+1):=by unfold WX;rw[show n-i=n-(i+1)+1 by omega,Bg8,Bk6 (by simp[hp])]
theorem Ab9 {P Q:Nat->Bool}{n i:Nat}(h:∀j,i<=j->j<n->P j=Q j):WX P n i=WX Q n i:=by unfold WX;congr 1;exact List.filter_congr fun j hj=>h j (Bj3.1 hj).1 (by have:=Bj3.1 hj;omega)
theorem filI {P:Nat->Bool}{n:Nat}{body:(Int->Option (List Int))->Int->Option (List Int)}
 (hend:∀self i,n<=i->body self ((i:Nat):Int)=some []) (hyes:∀self i,i<n->P i=true->body self ((i:Nat):Int)=Be (i:Int) (self ((i+1:Nat):Int))) (hno:∀self i,i<n->P i=false->body self ((i:Nat):Int)=self ((i+1:Nat):Int)) :
 ∀(m i N:Nat),n<=i+m->m<N->R5 N body (i:Int)=some (WX P n i)
 |0,i,N,h,hN=>by obtain⟨M,rfl⟩:∃K,N=K+1:=⟨N-1,by omega⟩;rw[V8,hend _ i (by omega),Lo (by omega)]
 |m+1,i,N,h,hN=>by
  obtain⟨M,rfl⟩:∃K,N=K+1:=⟨N-1,by omega⟩;rw[V8];by_cases hi:i<n
  ·have ih:=filI hend hyes hno m (i+1) M (by omega) (by omega);cases hp:P i
   ·rw[hno _ i hi hp,ih,Ao8 hi hp]
   ·rw[hyes _ i hi hp,ih,Yr hi hp];rfl
  ·rw[hend _ i (by omega),Lo (by omega)]
theorem AY0 {R:Type}{P:Nat->Bool}{n:Nat}{body:(Sl Int->Int->Option R)->Sl Int->Int->Option R}{k:Sl Int->Option R}
 (hend:∀self x i,n<=i->x.n<=3000000->body self x ((i:Nat):Int)=k x) (hyes:∀self x i,i<n->x.n<=3000000->P i=true->body self x ((i:Nat):Int)=self (x.push (i:Int)) ((i+1:Nat):Int)) (hno:∀self x i,i<n->x.n<=3000000->P i=false->body self x ((i:Nat):Int)=self x ((i+1:Nat):Int)) :
 ∀(m i:Nat) (x:Sl Int) (N:Nat),n<=i+m->m<N->x.n+m<=3000000->∃y,S4 N body x (i:Int)=k y/\y.toList=x.toList++WX P n i
 |0,i,x,N,h,hN,hx=>by obtain⟨M,rfl⟩:∃K,N=K+1:=⟨N-1,by omega⟩;exact⟨x,by rw[F3,hend _ x i (by omega) (by omega)],by rw[Lo (by omega),Bf3]⟩
 |m+1,i,x,N,h,hN,hx=>by
  obtain⟨M,rfl⟩:∃K,N=K+1:=⟨N-1,by omega⟩;rw[F3];by_cases hi:i<n
  ·cases hp:P i
   ·obtain⟨y,h1,h2⟩:=AY0 hend hyes hno m (i+1) x M (by omega) (by omega) (by omega);exact⟨y,by rw[hno _ x i hi (by omega) hp,h1],by rw[h2,Ao8 hi hp]⟩
   ·obtain⟨y,h1,h2⟩:=AY0 hend hyes hno m (i+1) (x.push (i:Int)) M (by omega) (by omega) (by show x.n+1+m<=_;omega);exact⟨y,by rw[hyes _ x i hi (by omega) hp,h1],by rw[h2,WW,Yr hi hp];simp⟩
  ·exact⟨x,by rw[hend _ x i (by omega) (by omega)],by rw[Lo (by omega),Bf3]⟩
end Go.AM
namespace Go.AM
open IntKind (wrap)
open Go.Proofs
def dep:Nat->Pat->Prop
 |0,_=>False
 |d+1,p=>p.L.n<=40/\∀i,i<p.L.n->dep d (p.L.g i)
theorem AE8:∀(d:Nat) (p:Pat),dep d p->∀e,d<=e->dep e p
 |0,_,h,_,_=>h.elim
 |d+1,p,h,0,he=>by omega
 |d+1,p,h,e+1,he=>⟨h.1,fun i hi=>AE8 d _ (h.2 i hi) e (by omega)⟩
theorem UA {N:Nat}(hN:1000<=N):∀(d:Nat),d<=40->∀(p:Pat) (M:Nat),N+d+2<=M->∃r:Nat,AQ M p ((40-d:Nat):Int)=some (r:Int)/\40-d<r/\r<=41/\(r<=40->dep (d+1) p)
 |d,hd,p,0,hM=>by omega
 |d,hd,p,M+1,hM=>by
  have:∃x,AQ (M+1) p ((40-d:Nat):Int)=some x/\∃r:Nat,x=(r:Int)/\40-d<r/\r<=41/\(r<=40->dep (d+1) p):=by
   show ∃x,Bs (AQ M) M p _=some x/\_;unfold Bs;rw[C0 (by omega)];refine P6 (fun i x1 x2=>x2=(i:Int)/\∃k:Nat,x1=(k:Int)/\40-d+1+i<=k/\k<=41/\i<=p.L.n/\(k<=40->∀j,j<i->dep d (p.L.g j))) 41 _ (by omega) ⟨rfl,40-d+1,rfl,by omega,by omega,by omega,fun _ j hj=>absurd hj (by omega)⟩ ?_;rintro self i x1 x2 hi ⟨rfl,k,rfl,h1,h2,h3,h4⟩ hs;by_cases hc:i<p.L.n/\k<=40
   ·refine ifT (by simp only[AY9,decide_eq_true_eq];omega) (ifT (by omega) ?_);obtain⟨r,hr,r1,r2,r3⟩:=UA hN (40-k) (by omega) (p.L.g i) M (by omega);rw[show ((40-(40-k):Nat):Int)=(k:Int) by omega]at hr;refine B4 (by rw[AY3];exact hr) (hs (by omega) _ _ ⟨C0 (by omega),r,rfl,by omega,r2,by omega,fun hr40 j hj=>?_⟩);by_cases e:j=i
    ·subst e;exact AE8 _ _ (r3 hr40) d (by omega)
    ·exact h4 hc.2 j (by omega)
   ·refine ifF (by simp only[AY9,decide_eq_true_eq];omega) ⟨_,rfl,k,rfl,by omega,h2,fun hk=>⟨by omega,fun j hj=>h4 hk j (by omega)⟩⟩
  obtain⟨x,h1,r,rfl,h2⟩:=this;exact⟨r,h1,h2⟩
theorem NC:∀(d:Nat) (p:Pat),dep d p->∀M,100+d<=M->∃r,Z1 M p=some r
 |0,p,h,M,_=>h.elim
 |d+1,p,h,0,hM=>by omega
 |d+1,p,h,M+1,hM=>by
  suffices ∃r,Z1 (M+1) p=some r/\True by obtain⟨r,h,_⟩:=this;exact⟨r,h⟩
  show ∃x,W3 (Z1 M) M p=some x/\_;unfold W3;have hn:=h.1;refine P6 (fun i x1 x2=>x2=(i:Int)) p.L.n _ (by omega) rfl ?_;rintro self i x1 x2 hi rfl hs;by_cases hl:i<p.L.n
  ·obtain⟨r,hr⟩:=NC d (p.L.g i) (h.2 i hl) M (by omega);exact ifT (by simp;omega) (ifT (by omega) (B4 (by rw[AY3];exact hr) (hs hl _ _ (C0 (by omega)))))
  ·exact ifF (by simp;omega) ⟨_,rfl,trivial⟩
theorem AA0 {N:Nat}(hN:2000<=N)(p:Pat):∃r:Nat,Ex N p=some (r:Int)/\(r<=40->dep 41 p):=by obtain⟨r,h1,_,_,h2⟩:=UA (N:=1000) (by omega) 40 (by omega) p N (by omega);exact⟨r,by unfold Ex;rw[show AQ N p 0=some (r:Int) from h1];rfl,h2⟩
theorem AA1 {N:Nat}(hN:2000<=N)(laws:Sl Law):∃r,CT N laws=some r:=by
 suffices ∃r,CT N laws=some r/\True by obtain⟨r,h,_⟩:=this;exact⟨r,h⟩
 unfold CT;refine P6 (fun i x1 x2=>x2=(i:Int)) 301 _ (by omega) rfl ?_;rintro self i x1 x2 hi rfl hs;by_cases hc:i<laws.n/\i<=300
 ·refine ifT (by simp only[AY9,decide_eq_true_eq];omega) (ifT (by omega) ?_);refine P6 (fun j x7 x8=>x8=(j:Int)) 2 _ (by omega) rfl ?_;rintro self2 j x7 x8 hj rfl hs2;by_cases hl:j<2
  ·refine ifT (by show decide ((j:Int)<((2:Nat):Int))=true;simp;omega) (ifT (by show (0:Int)<=(j:Int)/\(j:Int)<((2:Nat):Int);omega) ?_);obtain⟨r,hr,hd⟩:=AA0 hN ((Sl.of [(laws.g (i:Int).toNat).Left,(laws.g (i:Int).toNat).Right]:Sl Pat).g (j:Int).toNat);refine B4 hr ?_;by_cases h40:r<=40
   ·obtain⟨q,hq⟩:=NC 41 _ (hd h40) N (by omega);exact ifT (by simp;omega) (B4 hq (hs2 hl _ _ (C0 (by omega))))
   ·exact ifF (by simp;omega) (hs2 hl _ _ (C0 (by omega)))
  ·exact ifF (by show ¬decide ((j:Int)<((2:Nat):Int))=true;simp;omega) (hs (by omega) _ _ (C0 (by omega)))
 ·exact ifF (by simp only[AY9,decide_eq_true_eq];omega) ⟨_,rfl,trivial⟩
theorem WY {laws:Sl Law}(hl:AE laws)(k:Nat):AE (laws.drop k):=fun i hi=>hl _ (by have hi:i<laws.n-k:=hi;omega)
def plL (N:Nat)(laws:Sl Law)(v w:Sl Sound):List Int:=WX (fun i=>gv N (laws.drop i) v w) (laws.n+1) 0
theorem AO2 {N:Nat}(hN:3000000<=N){laws:Sl Law}(hl:AE laws)(hn:laws.n<=1000){v w:Sl Sound}(hv:okA v) :∃s,KC N laws v w=some s/\s.toList=plL N laws v w:=by
 have hg:=fun i=>(Uz (N:=N) hN (WY hl i) (LS.refl _) (SE.refl v) hv (SE.refl w)).2.1;unfold KC;obtain⟨y,h1,h2⟩:=AY0 (P:=fun i=>gv N (laws.drop i) v w) (n:=laws.n+1) (k:=fun x=>some x) (body:=fun self1 (x1:Sl Int) (x2:Int)=>
  if (decide (x2<=(laws.n:Int))) then
   if ((0:Int)<=x2/\x2<=(laws.n:Int))then
    (M0 N (laws.drop x2.toNat) v w).bind fun y3=>
    if y3 then
     if ((x1.n+(Sl.of [x2]:Sl Int).n)*8<=140737488355328/\x1.n+(Sl.of [x2]:Sl Int).n<=140737488355328)then
      self1 (x1.push x2) (wrap .i64 (x2+1))
     else none
    else
     self1 x1 (wrap .i64 (x2+1))
   else none
  else
   some x1) (fun self x i hi _=>by rw[if_neg (by simp;omega)])
  (fun self x i hi hx hp=>by rw[if_pos (by simp;omega),if_pos (by omega),AY3,hg i,AY7,if_pos hp,if_pos (by show (x.n+1)*8<=_/\x.n+1<=_;omega),C0 (by omega)])
  (fun self x i hi hx hp=>by have hp:gv N (laws.drop i) v w=false:=hp;rw[if_pos (by simp;omega),if_pos (by omega),AY3,hg i,AY7,if_neg (by simp[hp]),C0 (by omega)])
  (laws.n+1) 0 (Sl.nil:Sl Int) N (by omega) (by omega) (by show 0+_<=_;omega)
 exact⟨y,h1,h2⟩
theorem tl_n {s:Sl Int}{L:List Int}(h:s.toList=L):s.n=L.length:=by rw[<- h,Ca]
def Ad2 (laws:Sl Law)(i:Nat):Sl Law:=(laws.take i).app (laws.drop (i+1))
theorem Qi {laws:Sl Law}(hl:AE laws){i:Nat}(hi:i<laws.n):AE (Ad2 laws i):=fun j hj=>by
 have hj:j<i+(laws.n-(i+1)):=hj;show La (if j<i then laws.g j else laws.g (i+1+(j-i)));split
 ·exact hl _ (by omega)
 ·exact hl _ (by omega)
theorem WZ {N:Nat}{s:Sl (Sl Law)}(hn:s.n<1000)(hN:1000<=N)(hs:∀i,i<s.n->(s.g i).n<=3000000) :C4 N s=some (An2 s s.n):=by
 suffices h:∃r,C4 N s=some r/\r=An2 s s.n by obtain⟨r,h,rfl⟩:=h;exact h
 unfold C4;refine P6 (fun (i:Nat) (x1 x2:Int)=>x2=(i:Int)/\0<=x1/\x1<=(i:Int)*3000000) s.n _ (by omega) ⟨rfl,Int.le_refl 0,by simp⟩ ?_;rintro self i x1 x2 hi ⟨rfl,h0,h1⟩ hs2;by_cases hl:i<s.n
 ·have:=hs i hl
  refine ifT (by simp;omega) (ifT (by omega) ?_);rw[AY3,F0 (by omega) (by omega)];exact ifF (by simp;omega) (hs2 hl _ _ ⟨C0 (by omega),by omega,by omega⟩)
 refine ifF (by simp;omega) (B4 (x:=Sl.nil) ?_ ?_)
 ·unfold I2;rw[if_pos (by omega)]
 refine P6 (fun i x1 x2=>x2=(i:Int)/\x1=An2 s i) s.n _ (by omega) ⟨rfl,rfl⟩ ?_;rintro self i x1 x2 hi ⟨rfl,rfl⟩ hs2;by_cases hl:i<s.n
 ·have g1:=hs i hl;have g2:=An3 s i (B:=3000000) fun j hj=>hs j (by omega);refine ifT (by simp;omega) (ifT ⟨by omega,?_⟩ (hs2 hl _ _ ⟨C0 (by omega),?_⟩))
  ·rw[AY3];omega
  ·rw[AY3];rfl
 ·exact ifF (by simp;omega) ⟨_,rfl,by congr 1;omega⟩
theorem Ys {N:Nat}(hN:1000<=N){a b:Sl Law}(ha:a.n<=3000000)(hb:b.n<=3000000):C4 N (Sl.of [a,b]:Sl (Sl Law))=some (a.app b):=by
 rw[WZ (by show 2<1000;omega) hN]
 ·show some (((Sl.nil:Sl Law).app a).app b)=_;rw[Az5 (s:=(Sl.nil:Sl Law)) rfl]
 ·intro i hi
  match i,hi with
  |0,_=>exact ha
  |1,_=>exact hb
def miL (N:Nat)(laws:Sl Law)(v w:Sl Sound):List Int:=if gv N laws v w then []else WX (fun i=>gv N (Ad2 laws i) v w) laws.n 0
theorem Qj {N:Nat}(hN:3000000<=N){laws:Sl Law}(hl:AE laws)(hn:laws.n<=1000){v w:Sl Sound}(hv:okA v) :Q0 N laws v w=some (miL N laws v w)/\∃s,Cv N laws v w=some s/\s.toList=miL N laws v w:=by
 obtain⟨g1,g2,_⟩:=Uz (N:=N) hN hl (LS.refl _) (SE.refl v) hv (SE.refl w);have hg:=fun i (hi:i<laws.n)=>Uz (N:=N) hN (Qi hl hi) (LS.refl _) (SE.refl v) hv (SE.refl w);unfold Q0 Cv miL;rw[g1,g2,AY7,AY7];by_cases h0:gv N laws v w=true
 ·rw[if_pos h0,if_pos h0,if_pos h0];exact⟨rfl,_,rfl,rfl⟩
 rw[if_neg h0,if_neg h0,if_neg h0];constructor
 ·refine filI (P:=fun i=>gv N (Ad2 laws i) v w) (n:=laws.n) ?_ ?_ ?_ laws.n 0 N (by omega) (by omega)
  ·intro self i hi;rw[if_neg (by simp;omega)]
  ·intro self i hi hp;rw[if_pos (by simp;omega),C0 (by omega),if_pos (by omega),AY3,AY3,Ys (by omega) (by show i<=_;omega) (by show laws.n-(i+1)<=_;omega),AY7];show (H3 N (Ad2 laws i) v w).bind _=_;rw[(hg i hi).1,AY7,if_pos hp]
  ·intro self i hi hp;have hp:gv N (Ad2 laws i) v w=false:=hp;rw[if_pos (by simp;omega),C0 (by omega),if_pos (by omega),AY3,AY3,Ys (by omega) (by show i<=_;omega) (by show laws.n-(i+1)<=_;omega),AY7];show (H3 N (Ad2 laws i) v w).bind _=_;rw[(hg i hi).1,AY7,if_neg (by simp[hp])]
 ·obtain⟨y,h1,h2⟩:=AY0 (P:=fun i=>gv N (Ad2 laws i) v w) (n:=laws.n) (k:=fun x=>some x) (body:=fun self1 (x1:Sl Int) (x2:Int)=>
   if (decide (x2<(laws.n:Int))) then
    if (((((0:Int)<=x2/\x2<=(laws.n:Int))/\(((Sl.of []:Sl Law).n+(laws.take x2.toNat).n)*200<=140737488355328/\(Sl.of []:Sl Law).n+(laws.take x2.toNat).n<=140737488355328))/\((0:Int)<=(wrap .i64 (x2+1))/\(wrap .i64 (x2+1))<=(laws.n:Int)))/\((((Sl.of []:Sl Law).app (laws.take x2.toNat)).n+(laws.drop (wrap .i64 (x2+1)).toNat).n)*200<=140737488355328/\((Sl.of []:Sl Law).app (laws.take x2.toNat)).n+(laws.drop (wrap .i64 (x2+1)).toNat).n<=140737488355328))then
     (M0 N (((Sl.of []:Sl Law).app (laws.take x2.toNat)).app (laws.drop (wrap .i64 (x2+1)).toNat)) v w).bind fun y4=>
     if y4 then
      if ((x1.n+(Sl.of [x2]:Sl Int).n)*8<=140737488355328/\x1.n+(Sl.of [x2]:Sl Int).n<=140737488355328)then
       self1 (x1.push x2) (wrap .i64 (x2+1))
      else none
     else
      self1 x1 (wrap .i64 (x2+1))
    else none
   else
    some x1) (fun self x i hi _=>by rw[if_neg (by simp;omega)])
   (fun self x i hi hx hp=>by rw[if_pos (by simp;omega),C0 (by omega),Az5 (s:=(Sl.of []:Sl Law)) rfl,AY3,AY3,if_pos ⟨⟨⟨by omega,by show (0+i)*200<=_/\0+i<=_;omega⟩,by omega⟩,by show (i+(laws.n-(i+1)))*200<=_/\i+(laws.n-(i+1))<=_;omega⟩];show (M0 N (Ad2 laws i) v w).bind _=_;rw[(hg i hi).2.1,AY7,if_pos hp,if_pos (by show (x.n+1)*8<=_/\x.n+1<=_;omega)])
   (fun self x i hi hx hp=>by have hp:gv N (Ad2 laws i) v w=false:=hp;rw[if_pos (by simp;omega),C0 (by omega),Az5 (s:=(Sl.of []:Sl Law)) rfl,AY3,AY3,if_pos ⟨⟨⟨by omega,by show (0+i)*200<=_/\0+i<=_;omega⟩,by omega⟩,by show (i+(laws.n-(i+1)))*200<=_/\i+(laws.n-(i+1))<=_;omega⟩];show (M0 N (Ad2 laws i) v w).bind _=_;rw[(hg i hi).2.1,AY7,if_neg (by simp[hp])])
   laws.n 0 (Sl.nil:Sl Int) N (by omega) (by omega) (by show 0+_<=_;omega)
  exact⟨y,h1,h2⟩
end Go.AM
namespace Go.AM
open Go.Proofs
end Go.AM
namespace Go.AM
open Go.Proofs
abbrev isT (o:Option Bool):Prop:=∃r,o=some r/\r=true
theorem isT.eq {o:Option Bool}(h:isT o):o=some true:=by obtain⟨r,h,rfl⟩:=h;exact h
end Go.AM
namespace Go.AM
open IntKind (wrap)
open Go.Proofs
def FA (s:Str):Bool:=(decide (1<=s.length)&&decide (s.length<=24))&&s.all fun c=>RJ ((c.toNat:Nat):Int)
theorem UB {N:Nat}{s:Str}(hN:s.length<N)(hs:s.length<1000000000){let_:Int->Option Bool}(hl:∀y,let_ y=some (RJ y)){fin:Bool}(hf:fin=(decide (1<=s.length)&&decide (s.length<=24))) :R5 N (fun (self1:Int->Option Bool) (x1:Int)=>
  if (decide (x1<(s.length:Int))) then
   if ((0:Int)<=x1/\x1<(s.length:Int))then
    (let_ (Z8 s x1)).bind fun y3=>
    if (!y3) then
     some false
    else
     self1 (wrap .i64 (x1+1))
   else none
  else
   some fin
 ) 0=some (FA s):=by
 suffices h:∃b,R5 N (fun (self1:Int->Option Bool) (x1:Int)=>
  if (decide (x1<(s.length:Int))) then
   if ((0:Int)<=x1/\x1<(s.length:Int))then
    (let_ (Z8 s x1)).bind fun y3=>
    if (!y3) then
     some false
    else
     self1 (wrap .i64 (x1+1))
   else none
  else
   some fin
  ) 0=some b/\b=FA s by obtain⟨b,h,rfl⟩:=h;exact h
 refine BD (fun i x1=>x1=(i:Int)/\∀j (h:j<s.length),j<i->RJ ((s[j].toNat:Nat):Int)=true) s.length _ hN ⟨rfl,fun j _ hj=>absurd hj (by omega)⟩ ?_;rintro self i x1 hi ⟨rfl,h⟩ hs2;by_cases hlt:i<s.length
 ·have eb:Z8 s (i:Int)=((s[i].toNat:Nat):Int):=by simp[Z8,hlt]
  refine ifT (by simp;omega) (ifT (by omega) (B4 (hl _) ?_));rw[eb];cases hb:RJ ((s[i].toNat:Nat):Int)
  ·refine ifT rfl ⟨false,rfl,?_⟩;symm;unfold FA;rw[Bo8]
   right
   rw[List.all_eq_false];exact⟨s[i],Bn8 hlt,by rw[hb];simp⟩
  ·refine ifF (by simp) (hs2 hlt _ ⟨C0 (by omega),fun j hj hj2=>?_⟩);by_cases e:j=i
   ·subst e;exact hb
   ·exact h j hj (by omega)
 ·refine ifF (by simp;omega) ⟨_,rfl,?_⟩;unfold FA;rw[hf]
  have:(s.all fun c=>RJ ((c.toNat:Nat):Int))=true:=Ba0.2 fun c hc=>by obtain⟨j,hj,rfl⟩:=Bm1 hc;exact h j hj (by omega)
  rw[this,Bm0]
theorem Ao9 {N:Nat}{s:Str}(hN:s.length<N)(hs:s.length<1000000000):Cw N s=some (FA s):=by unfold Cw;exact UB hN hs (fun y=>rfl) (by rw[Bb3];simp;omega)
theorem RO {N:Nat}{s:Str}(hN:s.length<N)(hs:s.length<1000000000):BZ N s=some (FA s):=by unfold BZ;exact UB hN hs (fun y=>rfl) (by rw[Bb3];simp;omega)
def AO3 (t:Sl Y4)(v:Nat):Prop:=(v=0->(t.g 0).Parent = -1)/\(0<v->0<=(t.g v).Parent/\(t.g v).Parent<v)/\FA (t.g v).Name=true/\∀u,u<v->(t.g u).Name≠(t.g v).Name
def AF (t:Sl Y4):Prop:=1<=t.n/\t.n<=63/\∀v,v<t.n->AO3 t v
def Ac0 (t:Sl Y4)(e:Int):Prop:=(e=0/\AF t) \/ (e=16/\¬AF t)
theorem Ac1 {t:Sl Y4}{e e' : Int}(h:Ac0 t e)(h' : Ac0 t e'):e=e':=by
 rcases h with⟨rfl,h⟩ | ⟨rfl,h⟩<;>rcases h' with⟨rfl,h'⟩ | ⟨rfl,h'⟩
 ·rfl
 ·exact absurd h h'
 ·exact absurd h' h
 ·rfl
def JQ (t:Sl Y4):Prop:=∀v,v<t.n->(t.g v).Name.length<1100000
theorem Ap0 {N:Nat}(hN:3000000<=N){t:Sl Y4}(ht:JQ t):∃e,AT N t=some e/\Ac0 t e:=by
 unfold AT;by_cases h0:t.n<1
 ·exact ifT (fun h=>absurd h (by simp;omega)) (ifT (by simp;omega) ⟨16,rfl,.inr ⟨rfl,fun h=>by have:=h.1;omega⟩⟩)
 refine ifT (fun _ _=>by omega) ?_;by_cases h1:63<t.n
 ·exact ifT (by simp;omega) ⟨16,rfl,.inr ⟨rfl,fun h=>by have:=h.2.1;omega⟩⟩
 by_cases h2:(t.g 0).Parent = -1
 case neg=>exact ifT (by simp[h2]) ⟨16,rfl,.inr ⟨rfl,fun h=>h2 ((h.2.2 0 (by omega)).1 rfl)⟩⟩
 refine ifF (by simp[h2];omega) ?_;refine BD (fun i x1=>x1=(i:Int)/\∀j,j<i->AO3 t j) t.n _ (by omega) ⟨rfl,fun j hj=>absurd hj (by omega)⟩ ?_;rintro self i x1 hi ⟨rfl,h⟩ hs;by_cases hlt:i<t.n
 case neg=>exact ifF (by simp;omega) ⟨0,rfl,.inl ⟨rfl,by omega,by omega,fun v hv=>h v (by omega)⟩⟩
 refine ifT (by simp;omega) (ltX ?_);have hname:=RO (N:=N) (s:=(t.g i).Name) (by have:=ht i hlt;omega) (by have:=ht i hlt;omega);have rest:(0<i->0<=(t.g i).Parent/\(t.g i).Parent<i)->∃r,(if (!FA (t.g i).Name) then some 16 else
  R5 N (fun (self4:Int->Option Int) (x7:Int)=>
   if (decide (x7<(i:Int))) then
    if (((0:Int)<=x7/\x7<(t.n:Int))/\((0:Int)<=(i:Int)/\(i:Int)<(t.n:Int)))then
     if (((t.g x7.toNat).Name==(t.g (i:Int).toNat).Name) != false) then
      some 16
     else
      self4 (wrap .i64 (x7+1))
    else none
   else
    self (wrap .i64 ((i:Int)+1))
   ) 0)=some r/\Ac0 t r:=by
  intro hp;cases hb:FA (t.g i).Name
  ·exact ifT rfl ⟨16,rfl,.inr ⟨rfl,fun h=>by have:=(h.2.2 i hlt).2.2.1;rw[hb]at this;cases this⟩⟩
  refine ifF (by simp) ?_;refine BD (fun k x7=>x7=(k:Int)/\∀u,u<k->(t.g u).Name≠(t.g i).Name) i _ (by omega) ⟨rfl,fun u hu=>absurd hu (by omega)⟩ ?_;rintro self2 k x7 hk ⟨rfl,h'⟩ hs2;by_cases hki:k<i
  ·refine ifT (by simp;omega) (ifT (by omega) ?_);rw[AY3,AY3];by_cases e:(t.g k).Name=(t.g i).Name
   ·exact ifT (by simp[e]) ⟨16,rfl,.inr ⟨rfl,fun h=>(h.2.2 i hlt).2.2.2 k hki e⟩⟩
   ·refine ifF (by simp[e]) (hs2 hki _ ⟨C0 (by omega),fun u hu=>?_⟩);by_cases e2:u=k
    ·subst e2;exact e
    ·exact h' u (by omega)
  ·refine ifF (by simp;omega) (hs hlt _ ⟨C0 (by omega),fun j hj=>?_⟩);by_cases e:j=i
   ·subst e;exact⟨fun e=>by subst e;exact h2,hp,hb,fun u hu=>h' u (by omega)⟩
   ·exact h j (by omega)
 by_cases hpos:0<i
 ·refine ifT (by simp;omega) (ifT (by omega) ?_);rw[AY3];by_cases g1:(t.g i).Parent<0
  ·exact ifT (by simpa using g1) (ifT rfl ⟨16,rfl,.inr ⟨rfl,fun h=>by have:=((h.2.2 i hlt).2.1 hpos).1;omega⟩⟩)
  refine ifF (by simpa using g1) (ifT (by omega) ?_);by_cases g2:(i:Int)<=(t.g i).Parent
  ·exact ifT (by simpa using g2) (ifT rfl ⟨16,rfl,.inr ⟨rfl,fun h=>by have:=((h.2.2 i hlt).2.1 hpos).2;omega⟩⟩)
  exact ifF (by simpa using g2) (ifT (by omega) (B4 hname (rest fun _=>⟨by omega,by omega⟩)))
 ·exact ifF (by simp;omega) (ifT (by omega) (B4 (by rw[AY3];exact hname) (rest fun h=>absurd h hpos)))
theorem JR {ν : Type}{k s:Str}{v : ν}:∀es:List (Str × ν),De eqS s (QO eqS k v es)=if s=k then some v else De eqS s es
 |[]=>by simp only[QO,De];by_cases h:s=k<;>simp[eqS,h]
 |(a,x)::es=>by
  simp only[QO];by_cases h:k=a
  ·subst h;rw[if_pos (by simp[eqS])];simp only[De];by_cases h2:s=k<;>simp[eqS,h2]
  ·rw[if_neg (by simp[eqS,h])];simp only[De];rw[JR es];by_cases h2:s=k
   ·subst h2;simp[eqS,h]
   ·simp[h2]
theorem Yt {ν : Type}{k:Str}{v : ν}:∀{es:List (Str × ν)},De eqS k es=none->(QO eqS k v es).length=es.length+1
 |[],_=>rfl
 |(a,x)::es,h=>by
  simp only[De]at h;simp only[QO];by_cases e:eqS k a=true
  ·rw[if_pos e]at h;cases h
  ·rw[if_neg e]at h;rw[if_neg e,Bb6,Yt h];rfl
theorem Yu {ν : Type}{k:Str}{v x : ν}:∀{es:List (Str × ν)},De eqS k es=some x->(QO eqS k v es).length=es.length
 |[],h=>by cases h
 |(a,y)::es,h=>by
  simp only[De]at h;simp only[QO];by_cases e:eqS k a=true
  ·rw[if_pos e];rfl
  ·rw[if_neg e]at h;rw[if_neg e,Bb6,Yu h];rfl
theorem Ap1 {N:Nat}(hN:3000000<=N){t:Sl Y4}(ht:JQ t):∃e,S8 N t=some e/\Ac0 t e:=by
 unfold S8;by_cases h0:t.n=0 \/ 63<t.n
 ·exact ifT (by simp;omega) ⟨16,rfl,.inr ⟨rfl,fun h=>by have g1:=h.1;have g2:=h.2.1;omega⟩⟩
 refine ifF (by simp;omega) ?_;refine P6 (fun i (x2:List (Str×Bool)) x3=>x3=(i:Int)/\(∀j,j<i->AO3 t j)/\∀s,(De eqS s x2=some true/\∃u,u<i/\(t.g u).Name=s) \/ (De eqS s x2=none/\∀u,u<i->(t.g u).Name≠s)) t.n _ (by omega) ⟨rfl,fun j hj=>absurd hj (by omega),fun s=>.inr ⟨rfl,fun u hu=>absurd hu (by omega)⟩⟩ ?_;rintro self i x2 x3 hi ⟨rfl,h,hm⟩ hs;by_cases hlt:i<t.n
 case neg=>exact ifF (by simp;omega) ⟨0,rfl,.inl ⟨rfl,by omega,by omega,fun v hv=>h v (by omega)⟩⟩
 refine ifT (by simp;omega) (ifT (by omega) (ltX ?_));rw[AY3];have hname:=Ao9 (N:=N) (s:=(t.g i).Name) (by have:=ht i hlt;omega) (by have:=ht i hlt;omega);have e1:(if 0<wrap .i64 ((i:Int)-1)then (0:Int)else wrap .i64 ((i:Int)-1))=if i=0 then -1 else 0:=by rw[F0 (by omega) (by omega)];split<;>split<;>omega
 rw[e1];by_cases g1:(i:Int)<=(t.g i).Parent
 ·refine ifT (by simpa using g1) (ifT rfl ⟨16,rfl,.inr ⟨rfl,fun h=>?_⟩⟩);have hk:=h.2.2 i hlt;by_cases hz:i=0
  ·subst hz;have:=hk.1 rfl;omega
  ·have:=(hk.2.1 (by omega)).2;omega
 refine ifF (by simpa using g1) ?_;by_cases g2:(t.g i).Parent<if i=0 then -1 else 0
 ·refine ifT (by simpa using g2) (ifT rfl ⟨16,rfl,.inr ⟨rfl,fun h=>?_⟩⟩);have hk:=h.2.2 i hlt;by_cases hz:i=0
  ·subst hz;have:=hk.1 rfl;simp at g2;omega
  ·have:=(hk.2.1 (by omega)).1;simp[hz]at g2;omega
 refine ifF (by simpa using g2) (B4 hname ?_);cases hb:FA (t.g i).Name
 ·exact ifT rfl (ifT rfl ⟨16,rfl,.inr ⟨rfl,fun h=>by have:=(h.2.2 i hlt).2.2.1;rw[hb]at this;cases this⟩⟩)
 refine ifF (by simp) ?_;rcases hm (t.g i).Name with⟨e,u,hu,hn⟩ | ⟨e,hn⟩
 ·rw[e];exact⟨16,rfl,.inr ⟨rfl,fun h=>(h.2.2 i hlt).2.2.2 u hu hn⟩⟩
 rw[e,SR];refine ifF (show ¬false=true by simp) (hs hlt _ _ ⟨C0 (by omega),fun j hj=>?_,fun s=>?_⟩)
 ·by_cases e:j=i
  ·subst e;refine⟨fun e=>?_,fun hp=>?_,hb,hn⟩
   ·subst e;simp at g2;omega
   ·have:¬j=0:=by omega
    simp[this]at g2;omega
  ·exact h j (by omega)
 ·rw[JR];by_cases e:s=(t.g i).Name
  ·exact .inl ⟨by rw[if_pos e],i,by omega,e.symm⟩
  ·rw[if_neg e];rcases hm s with⟨g,u,hu,hn⟩ | ⟨g,hn⟩
   ·exact .inl ⟨g,u,by omega,hn⟩
   ·refine .inr ⟨g,fun u hu=>?_⟩;by_cases e2:u=i
    ·subst e2;exact fun h=>e h.symm
    ·exact hn u (by omega)
theorem Lp {N:Nat}(hN:3000000<=N){t:Sl Y4}(ht:JQ t):∃e,S8 N t=some e/\AT N t=some e/\Ac0 t e:=by obtain⟨e,h1,h2⟩:=Ap1 hN ht;obtain⟨e',h3,h4⟩:=Ap0 hN ht;obtain rfl:=Ac1 h2 h4;exact⟨_,h1,h3,h2⟩
end Go.AM
namespace Go.AM
open IntKind (wrap)
open Go.Proofs
structure Cx (h:B3):Prop where
 laws:AE h.Laws
 tree:JQ h.Tree
 on:h.On.n<1100000
 len:∀v,v<h.On.n->(h.On.g v).n<1100000
def Y1 (h:B3)(v:Nat):Sl Int:=
 if hp:0<=(h.Tree.g v).Parent/\(h.Tree.g v).Parent<v then (Y1 h (h.Tree.g v).Parent.toNat).app (h.On.g v)else (Sl.nil:Sl Int).app (h.On.g v)
termination_by v
decreasing_by omega
theorem EE {h:B3}{v:Nat}(hv:(h.Tree.g v).Parent<0):Y1 h v=(Sl.nil:Sl Int).app (h.On.g v):=by rw[Y1,dif_neg (by omega)]
theorem Jd {h:B3}{v p:Nat}(hv:(h.Tree.g v).Parent=(p:Int))(hp:p<v):Y1 h v=(Y1 h p).app (h.On.g v):=by rw[Y1,dif_pos (by omega),hv,AY3]
theorem AG {t:Sl Y4}(ht:AF t){v:Nat}(hv:v<t.n):(v=0/\(t.g v).Parent = -1) \/ ∃p:Nat,p<v/\(t.g v).Parent=(p:Int):=by
 have hk:=ht.2.2 v hv;by_cases h0:v=0
 ·subst h0;exact .inl ⟨rfl,hk.1 rfl⟩
 ·obtain⟨g1,g2⟩:=hk.2.1 (by omega);exact .inr ⟨(t.g v).Parent.toNat,by omega,by omega⟩
theorem Xa {h:B3}(hi:Cx h)(ht:AF h.Tree)(hn:h.On.n=h.Tree.n):∀(m v:Nat),v<=m->v<h.Tree.n->(Y1 h v).n<=(v+1)*1100000
 |m,v,hm,hv=>by
  have hl:=hi.len v (by omega);rcases AG ht hv with⟨_,e⟩ | ⟨p,hp,e⟩
  ·rw[EE (by omega)];show 0+(h.On.g v).n<=_;omega
  ·rw[Jd e hp]
   match m with
   |0=>omega
   |m+1=>
    have:=Xa hi ht hn m p (by omega) (by omega)
    show (Y1 h p).n+(h.On.g v).n<=_;have h2:(p+1)*1100000+1100000<=(v+1)*1100000:=by omega
    omega
theorem ND {h:B3}(hi:Cx h)(ht:AF h.Tree)(hn:h.On.n=h.Tree.n):∀(M v:Nat),v+2<=M->v<h.Tree.n->Bc M h (v:Int)=some (Y1 h v)
 |0,v,hM,_=>by omega
 |M+1,v,hM,hv=>by
  have h63:=ht.2.1;show X3 (Bc M) M h (v:Int)=_;unfold X3;rw[if_neg (by simp),if_pos (by omega),AY3];have hl:=hi.len v (by omega);rcases AG ht hv with⟨h0,e⟩ | ⟨p,hp,e⟩
  ·rw[e,EE (by omega)]
   have:Bc M h (-1)=some (Sl.nil:Sl Int):=by obtain⟨K,rfl⟩:∃K,M=K+1:=⟨M-1,by omega⟩;show X3 (Bc K) K h (-1)=_;unfold X3;rw[if_pos (by decide)]
   rw[this,AY7,if_pos ⟨by omega,by show (0+(h.On.g v).n)*8<=_/\0+(h.On.g v).n<=_;omega⟩]
  ·have hb:=Xa hi ht hn p p (AZ0 _) (by omega);rw[e,ND hi ht hn M p (by omega) (by omega),AY7,Jd e hp,if_pos ⟨by omega,by omega⟩]
def Xb (h:B3):Prop:=∃v,v<h.On.n/\64<(Y1 h v).n
def AO4 (h:B3)(v:Nat):Prop:=∃k,k<(h.On.g v).n/\((h.On.g v).g k<0 \/ (h.Laws.n:Int)<=(h.On.g v).g k)
def Ap2 (h:B3)(e:Int):Prop:=(Xb h/\e=2) \/ (¬Xb h/\(∃v,v<h.On.n/\AO4 h v)/\e=3) \/ (¬Xb h/\(∀v,v<h.On.n->¬AO4 h v)/\e=0)
theorem Ap3 {N:Nat}(hN:3000000<=N){h:B3}(hi:Cx h)(ht:AF h.Tree)(hn:h.On.n=h.Tree.n):∃e,X4 N h=some e/\Ap2 h e:=by
 have h63:=ht.2.1;unfold X4;refine ifT (by omega) ?_;refine Al2 (fun i (x4:Sl Int) (x5:Bool) x6=>x6=(i:Int)/\x4.n=h.On.n/\(∀v,v<i->x4.g v=((Y1 h v).n:Int)/\(Y1 h v).n<=64)/\(x5=true ↔ ∃v,v<i/\AO4 h v)) h.On.n _ (by omega) ⟨rfl,by show ((h.On.n:Nat):Int).toNat=_;omega,fun v hv=>absurd hv (by omega),⟨fun g=>(by cases g),fun⟨v,hv,_⟩=>absurd hv (by omega)⟩⟩ ?_;rintro self i x4 x5 x6 hle ⟨rfl,hx,hp,hb⟩ hs;by_cases hlt:i<h.On.n
 case neg=>
  refine ifF (by simp;omega) ?_;have hl:¬Xb h:=fun⟨v,hv,hl⟩=>by have:=(hp v (by omega)).2;omega
  cases x5
  ·exact ifF (by simp) ⟨0,rfl,.inr (.inr ⟨hl,fun v hv g=>(by have:=hb.2 ⟨v,by omega,g⟩;cases this),rfl⟩)⟩
  ·obtain⟨v,hv,g⟩:=hb.1 rfl;exact ifT rfl ⟨3,rfl,.inr (.inl ⟨hl,⟨v,by omega,g⟩,rfl⟩)⟩
 refine ifT (by simp;omega) (ifT (by rw[AY3];omega) (ifT (by omega) (ltX ?_)));rw[AY3];have hl:=hi.len i (by omega);have hlb:=Xa hi ht hn i i (AZ0 _) (by omega);have rest:∀z:Sl Int,z.n=h.On.n->(∀v,v<i->z.g v=x4.g v)->z.g i=((Y1 h i).n:Int)->∃r,(if (((0:Int)<=(i:Int)/\(i:Int)<(z.n:Int))/\i<z.n)then
  if (decide (64<(z.g i))) then
   some 2
  else
   S4 N (fun (self4:Bool->Int->Option Int) (x11:Bool) (x12:Int)=>
    if (decide (x12<((h.On.g i).n:Int))) then
     if ((0:Int)<=x12/\x12<((h.On.g i).n:Int))then
      self4 ((x11||(decide (((h.On.g i).g x12.toNat)<0)))||(decide ((h.Laws.n:Int)<=((h.On.g i).g x12.toNat)))) (wrap .i64 (x12+1))
     else none
    else
     self z x11 (wrap .i64 ((i:Int)+1))
    ) x5 0
  else none)=some r/\Ap2 h r:=by
  intro z hz hz1 hz2;refine ifT (by omega) ?_;rw[hz2];by_cases h64:64<(Y1 h i).n
  ·exact ifT (by simp;omega) ⟨2,rfl,.inl ⟨⟨i,hlt,h64⟩,rfl⟩⟩
  refine ifF (by simp;omega) ?_;refine P6 (fun k (x11:Bool) x12=>x12=(k:Int)/\(x11=true↔(∃v,v<i/\AO4 h v) \/ ∃j,j<k/\j<(h.On.g i).n/\((h.On.g i).g j<0 \/ (h.Laws.n:Int)<=(h.On.g i).g j))) (h.On.g i).n _ (by omega) ⟨rfl,hb.trans ⟨fun g=>.inl g,fun g=>g.resolve_right fun⟨j,hj,_⟩=>absurd hj (by omega)⟩⟩ ?_;rintro self2 k x11 x12 hk ⟨rfl,hb2⟩ hs2;by_cases hkl:k<(h.On.g i).n
  ·refine ifT (by simp;omega) (ifT (by omega) (hs2 hkl _ _ ⟨C0 (by omega),?_⟩));rw[AY3,Ba5,Ba5,hb2,decide_eq_true_eq,decide_eq_true_eq];constructor
   ·rintro (((g|⟨j,hj,g⟩)|g)|g)
    ·exact .inl g
    ·exact .inr ⟨j,by omega,g⟩
    ·exact .inr ⟨k,by omega,hkl,.inl g⟩
    ·exact .inr ⟨k,by omega,hkl,.inr g⟩
   ·rintro (g|⟨j,hj,hj2,g⟩)
    ·exact .inl (.inl (.inl g))
    ·by_cases e:j=k
     ·subst e;rcases g with g|g
      ·exact .inl (.inr g)
      ·exact .inr g
     ·exact .inl (.inl (.inr ⟨j,by omega,hj2,g⟩))
  ·refine ifF (by simp;omega) (hs hlt _ _ _ ⟨C0 (by omega),hz,fun v hv=>?_,hb2.trans ?_⟩)
   ·by_cases e:v=i
    ·subst e;exact⟨hz2,by omega⟩
    ·rw[hz1 v (by omega)];exact hp v (by omega)
   ·constructor
    ·rintro (⟨v,hv,g⟩ | ⟨j,_,hj,g⟩)
     ·exact⟨v,by omega,g⟩
     ·exact⟨i,by omega,j,hj,g⟩
    ·rintro⟨v,hv,g⟩;by_cases e:v=i
     ·subst e;obtain⟨j,hj,g⟩:=g;exact .inr ⟨j,by omega,hj,g⟩
     ·exact .inl ⟨v,by omega,g⟩
 rcases AG ht (v:=i) (by omega)with⟨_,e⟩ | ⟨p,hpi,e⟩
 ·rw[e];refine ifF (by decide) (rest _ hx (fun v hv=>?_) ?_)
  ·show (if v=i then _ else x4.g v)=_;rw[if_neg (by omega)]
  ·show (if i=i then ((h.On.g i).n:Int)else _)=_;rw[if_pos rfl,EE (by omega)];show _=((0+(h.On.g i).n:Nat):Int);omega
 ·have hpp:=hp p hpi;rw[e];refine ifT (by simp) (ifT ?_ ?_)
  ·show ((((((0:Int)<=(i:Int)/\(i:Int)<(x4.n:Int))/\i<x4.n)/\(0:Int)<=(p:Int)/\(p:Int)<(x4.n:Int))/\(p:Int).toNat<x4.n)/\(0:Int)<=(i:Int)/\(i:Int)<(x4.n:Int))/\i<x4.n;omega
  ·rw[AY3];refine rest _ hx (fun v hv=>?_) ?_
   ·show (if v=i then _ else if v=i then _ else x4.g v)=_;rw[if_neg (by omega),if_neg (by omega)]
   ·show (if i=i then wrap .i64 ((if i=i then ((h.On.g i).n:Int)else _)+(if p=i then _ else x4.g p))else _)=_;rw[if_pos rfl,if_pos rfl,if_neg (by omega),hpp.1,Jd e hpi,F0 (by omega) (by omega)];show _=(((Y1 h p).n+(h.On.g i).n:Nat):Int);omega
end Go.AM
namespace Go.AM
open Go.Proofs
def AQ2 (h:B3)(i:Nat):Prop:=∃u v,u<v/\v<i/\(h.Laws.g u).Name=(h.Laws.g v).Name
open Classical in
noncomputable def hres (N:Nat) (h:B3):Int:=
 if ¬AF h.Tree then 16 else if 64<h.Laws.n then 12 else if ∃i,i<h.Laws.n/\¬chkAll N (h.Laws.g i)then 17 else if AQ2 h h.Laws.n then 6 else if h.On.n≠h.Tree.n then 2
 else if Xb h then 2 else if ∃v,v<h.On.n/\AO4 h v then 3 else 0
structure NE (N:Nat) (h:B3):Prop where
 tree:AF h.Tree
 laws:NB N h.Laws
 dup:¬AQ2 h h.Laws.n
 on:h.On.n=h.Tree.n
 long:¬Xb h
 bad:∀v,v<h.On.n->¬AO4 h v
theorem hres_zero {N:Nat}{h:B3}:hres N h=0↔NE N h:=by
 unfold hres;constructor
 ·intro g;split at g
  ·cases g
  split at g
  ·cases g
  split at g
  ·cases g
  split at g
  ·cases g
  split at g
  ·cases g
  split at g
  ·cases g
  split at g
  ·cases g
  rename_i h1 h2 h3 h4 h5 h6 h7;exact⟨Bn3.1 h1,⟨by omega,fun i hi=>Bb0 fun hn=>h3 ⟨i,hi,hn⟩⟩,h4,Bn3.1 h5,h6,fun v hv hb=>h7 ⟨v,hv,hb⟩⟩
 ·intro g;have h64:=g.laws.1;rw[if_neg (fun k=>k g.tree),if_neg (by omega),if_neg (fun⟨i,hi,hn⟩=>hn (g.laws.2 i hi)),if_neg g.dup,if_neg (fun k=>k g.on),if_neg g.long,if_neg (fun⟨v,hv,hb⟩=>g.bad v hv hb)]
theorem EF {N:Nat}{h:B3}(h1:AF h.Tree)(h2:NB N h.Laws)(h3:¬AQ2 h h.Laws.n)(h4:h.On.n=h.Tree.n){e:Int}(he:Ap2 h e):e=hres N h:=by
 have h64:=h2.1;unfold hres;rw[if_neg (fun k=>k h1),if_neg (by omega),if_neg (fun⟨i,hi,hn⟩=>hn (h2.2 i hi)),if_neg h3,if_neg (fun k=>k h4)];rcases he with⟨g,rfl⟩ | ⟨g,g2,rfl⟩ | ⟨g,g2,rfl⟩
 ·rw[if_pos g]
 ·rw[if_neg g,if_pos g2]
 ·rw[if_neg g,if_neg (fun⟨v,hv,hb⟩=>g2 v hv hb)]
theorem Qk {N:Nat}(hN:3000000<=N){h:B3}(hi:Cx h):P2 N h=some (hres N h):=by
 suffices g:∃r,P2 N h=some r/\r=hres N h by obtain⟨r,g,rfl⟩:=g;exact g
 obtain⟨e,e1,_,he⟩:=Lp hN hi.tree;unfold P2;refine B4 e1 ?_;rcases he with⟨rfl,ht⟩ | ⟨rfl,ht⟩
 case inr=>exact ifT (by decide) ⟨16,rfl,by unfold hres;rw[if_pos ht]⟩
 refine ifF (by decide) ?_;by_cases h64:64<h.Laws.n
 ·exact ifT (by simp;omega) ⟨12,rfl,by unfold hres;rw[if_neg (fun k=>k ht),if_pos h64]⟩
 refine ifF (by simp;omega) ?_;refine P6 (fun i (x1:List (Str×Int)) x2=>x2=(i:Int)/\(∀j,j<i->chkAll N (h.Laws.g j))/\(∀s,(De eqS s x1=none/\∀u,u<i->(h.Laws.g u).Name≠s) \/ (∃v,De eqS s x1=some v)/\∃u,u<i/\(h.Laws.g u).Name=s)/\((AQ2 h i/\x1.length<i) \/ (¬AQ2 h i/\x1.length=i))) h.Laws.n _ (by omega)
  ⟨rfl,fun j hj=>absurd hj (by omega),fun s=>.inl ⟨rfl,fun u hu=>absurd hu (by omega)⟩,.inr ⟨fun⟨u,v,_,hv,_⟩=>absurd hv (by omega),rfl⟩⟩ ?_
 rintro self i x1 x2 hle ⟨rfl,hc,hm,hl⟩ hs;by_cases hlt:i<h.Laws.n
 ·obtain⟨y,y1,_,hy⟩:=ED hN (hi.laws i hlt);refine ifT (by simp;omega) (ifT (by omega) (B4 (by rw[AY3];exact y1) ?_));rcases hy with⟨rfl,hy⟩ | ⟨rfl,hy⟩
  case inr=>exact ifT (by decide) ⟨17,rfl,by unfold hres;rw[if_neg (fun k=>k ht),if_neg h64,if_pos ⟨i,hlt,hy⟩]⟩
  refine ifF (by decide) ?_;rw[AY3];have hc' : ∀j,j<i+1->chkAll N (h.Laws.g j):=fun j hj=>by
   by_cases e:j=i
   ·subst e;exact hy
   ·exact hc j (by omega)
  have look:∀(v:Int) (s:Str),(De eqS s (QO eqS (h.Laws.g i).Name v x1)=none/\∀u,u<i+1->(h.Laws.g u).Name≠s) \/ (∃w,De eqS s (QO eqS (h.Laws.g i).Name v x1)=some w)/\∃u,u<i+1/\(h.Laws.g u).Name=s:=by
   intro v s;rw[JR];by_cases e:s=(h.Laws.g i).Name
   ·exact .inr ⟨⟨v,by rw[if_pos e]⟩,i,by omega,e.symm⟩
   ·rw[if_neg e];rcases hm s with⟨g,g2⟩ | ⟨g,u,hu,g2⟩
    ·refine .inl ⟨g,fun u hu=>?_⟩;by_cases e2:u=i
     ·subst e2;exact fun k=>e k.symm
     ·exact g2 u (by omega)
    ·exact .inr ⟨g,u,by omega,g2⟩
  rcases hm (h.Laws.g i).Name with⟨g,g2⟩ | ⟨⟨v,g⟩,u,hu,g2⟩
  ·rw[g,SR];refine hs hlt _ _ ⟨C0 (by omega),hc',look _,?_⟩;rw[Yt g];rcases hl with⟨⟨a,b,hab,hb,hn⟩,hl⟩ | ⟨hd,hl⟩
   ·exact .inl ⟨⟨a,b,hab,by omega,hn⟩,by omega⟩
   ·refine .inr ⟨fun⟨a,b,hab,hb,hn⟩=>?_,by omega⟩;by_cases e:b=i
    ·subst e;exact g2 a hab hn
    ·exact hd ⟨a,b,hab,by omega,hn⟩
  ·rw[g,Ai0];refine hs hlt _ _ ⟨C0 (by omega),hc',look _,?_⟩;rw[Yu g];refine .inl ⟨⟨u,i,hu,by omega,g2⟩,?_⟩;rcases hl with⟨_,hl⟩ | ⟨_,hl⟩<;>omega
 ·obtain rfl:i=h.Laws.n:=by omega
  have hok:NB N h.Laws:=⟨by omega,hc⟩;have hnb:¬ ∃i,i<h.Laws.n/\¬chkAll N (h.Laws.g i):=fun⟨i,hi,hn⟩=>hn (hc i hi);refine ifF (by simp) ?_;rw[Vs];rcases hl with⟨hd,hl⟩ | ⟨hd,hl⟩
  ·exact ifT (by simp;omega) ⟨6,rfl,by unfold hres;rw[if_neg (fun k=>k ht),if_neg h64,if_neg hnb,if_pos hd]⟩
  refine ifF (by simp;omega) ?_;by_cases hon:h.On.n=h.Tree.n
  case neg=>exact ifT (by simp;omega) ⟨2,rfl,by unfold hres;rw[if_neg (fun k=>k ht),if_neg h64,if_neg hnb,if_neg hd,if_pos hon]⟩
  refine ifF (by simp[hon]) ?_;obtain⟨e,e1,he⟩:=Ap3 hN hi ht hon;exact B4 e1 ⟨e,rfl,EF ht hok hd hon he⟩
theorem UC {N:Nat}(hN:3000000<=N){h:B3}(hi:Cx h):AU N h=some (hres N h):=by
 suffices g:∃r,AU N h=some r/\r=hres N h by obtain⟨r,g,rfl⟩:=g;exact g
 obtain⟨e,_,e1,he⟩:=Lp hN hi.tree;unfold AU;refine B4 e1 ?_;rcases he with⟨rfl,ht⟩ | ⟨rfl,ht⟩
 case inr=>exact ifT (by decide) ⟨16,rfl,by unfold hres;rw[if_pos ht]⟩
 refine ifF (by decide) ?_;by_cases h64:64<h.Laws.n
 ·exact ifT (by simp;omega) ⟨12,rfl,by unfold hres;rw[if_neg (fun k=>k ht),if_pos h64]⟩
 refine ifF (by simp;omega) ?_;refine BD (fun i x1=>x1=(i:Int)/\∀j,j<i->chkAll N (h.Laws.g j)) h.Laws.n _ (by omega) ⟨rfl,fun j hj=>absurd hj (by omega)⟩ ?_;rintro self i x1 hle ⟨rfl,hc⟩ hs;by_cases hlt:i<h.Laws.n
 ·obtain⟨y,_,y1,hy⟩:=ED hN (hi.laws i hlt);refine ifT (by simp;omega) (ifT (by omega) (B4 (by rw[AY3];exact y1) ?_));rcases hy with⟨rfl,hy⟩ | ⟨rfl,hy⟩
  case inr=>exact ifT (by decide) ⟨17,rfl,by unfold hres;rw[if_neg (fun k=>k ht),if_neg h64,if_pos ⟨i,hlt,hy⟩]⟩
  refine ifF (by decide) (hs hlt _ ⟨C0 (by omega),fun j hj=>?_⟩);by_cases e:j=i
  ·subst e;exact hy
  ·exact hc j (by omega)
 obtain rfl:i=h.Laws.n:=by omega
 have hok:NB N h.Laws:=⟨by omega,hc⟩;have hnb:¬ ∃i,i<h.Laws.n/\¬chkAll N (h.Laws.g i):=fun⟨i,hi,hn⟩=>hn (hc i hi);refine ifF (by simp) ?_;refine BD (fun i x1=>x1=(i:Int)/\¬AQ2 h i) h.Laws.n _ (by omega) ⟨rfl,fun⟨u,v,_,hv,_⟩=>absurd hv (by omega)⟩ ?_;rintro self2 i x1 hle2 ⟨rfl,hd⟩ hs2;by_cases hlt:i<h.Laws.n
 ·refine ifT (by simp;omega) ?_;refine BD (fun k x5=>x5=(k:Int)/\∀u,u<k->(h.Laws.g u).Name≠(h.Laws.g i).Name) i _ (by omega) ⟨rfl,fun u hu=>absurd hu (by omega)⟩ ?_;rintro self3 k x5 hk ⟨rfl,hne⟩ hs3;by_cases hki:k<i
  ·refine ifT (by simp;omega) (ifT (by omega) ?_);rw[AY3,AY3];by_cases e:(h.Laws.g k).Name=(h.Laws.g i).Name
   ·exact ifT (by simp[e]) ⟨6,rfl,by unfold hres;rw[if_neg (fun k=>k ht),if_neg h64,if_neg hnb,if_pos ⟨k,i,hki,hlt,e⟩]⟩
   ·refine ifF (by simp;exact fun g=>e g.symm) (hs3 hki _ ⟨C0 (by omega),fun u hu=>?_⟩);by_cases e2:u=k
    ·subst e2;exact e
    ·exact hne u (by omega)
  ·refine ifF (by simp;omega) (hs2 hlt _ ⟨C0 (by omega),fun⟨u,v,huv,hv,hn⟩=>?_⟩);by_cases e:v=i
   ·subst e;exact hne u (by omega) hn
   ·exact hd ⟨u,v,huv,by omega,hn⟩
 obtain rfl:i=h.Laws.n:=by omega
 refine ifF (by simp) ?_;by_cases hon:h.On.n=h.Tree.n
 case neg=>exact ifT (by simp;omega) ⟨2,rfl,by unfold hres;rw[if_neg (fun k=>k ht),if_neg h64,if_neg hnb,if_neg hd,if_pos hon]⟩
 refine ifF (by simp[hon]) ?_;have h63:=ht.2.1;refine BD (fun i x1=>x1=(i:Int)/\∀v,v<i->¬ 64<(Y1 h v).n) h.On.n _ (by omega) ⟨rfl,fun v hv=>absurd hv (by omega)⟩ ?_;rintro self4 i x1 hle3 ⟨rfl,hlo⟩ hs4;by_cases hlt:i<h.On.n
 ·refine ifT (by simp;omega) (B4 (ND hi ht hon N i (by omega) (by omega)) ?_);by_cases hg:64<(Y1 h i).n
  ·exact ifT (by simp;omega) ⟨2,rfl,EF ht hok hd hon (.inl ⟨⟨i,hlt,hg⟩,rfl⟩)⟩
  ·refine ifF (by simp;omega) (hs4 hlt _ ⟨C0 (by omega),fun v hv=>?_⟩);by_cases e:v=i
   ·subst e;exact hg
   ·exact hlo v (by omega)
 refine ifF (by simp;omega) ?_;have hnl:¬Xb h:=fun⟨v,hv,g⟩=>hlo v (by omega) g;refine BD (fun i x1=>x1=(i:Int)/\∀v,v<i->¬AO4 h v) h.On.n _ (by omega) ⟨rfl,fun v hv=>absurd hv (by omega)⟩ ?_;rintro self5 i x1 hle4 ⟨rfl,hbd⟩ hs5;by_cases hlt2:i<h.On.n
 ·have hl:=hi.len i hlt2;refine ifT (by simp;omega) ?_;refine BD (fun k x1=>x1=(k:Int)/\∀j,j<k->¬((h.On.g i).g j<0 \/ (h.Laws.n:Int)<=(h.On.g i).g j)) (h.On.g i).n _ (by omega) ⟨rfl,fun j hj=>absurd hj (by omega)⟩ ?_;rintro self6 k x1 hk ⟨rfl,hk2⟩ hs6;refine ifT (by omega) ?_;rw[AY3,AY3];by_cases hkl:k<(h.On.g i).n
  ·refine ifT (by simp;omega) (ifT (by omega) ?_);by_cases g1:(h.On.g i).g k<0
   ·exact ifT (by simpa using g1) ⟨3,rfl,EF ht hok hd hon (.inr (.inl ⟨hnl,⟨i,hlt2,k,hkl,.inl g1⟩,rfl⟩))⟩
   refine ifF (by simpa using g1) (ifT (by omega) ?_);by_cases g2:(h.Laws.n:Int)<=(h.On.g i).g k
   ·exact ifT (by simpa using g2) ⟨3,rfl,EF ht hok hd hon (.inr (.inl ⟨hnl,⟨i,hlt2,k,hkl,.inr g2⟩,rfl⟩))⟩
   refine ifF (by simpa using g2) (hs6 hkl _ ⟨C0 (by omega),fun j hj=>?_⟩);by_cases e:j=k
   ·subst e;exact fun g=>g.elim g1 g2
   ·exact hk2 j (by omega)
  ·refine ifF (by simp;omega) (hs5 hlt2 _ ⟨C0 (by omega),fun v hv=>?_⟩);by_cases e:v=i
   ·subst e;exact fun⟨j,hj,g⟩=>hk2 j (by omega) g
   ·exact hbd v (by omega)
 ·exact ifF (by simp;omega) ⟨0,rfl,EF ht hok hd hon (.inr (.inr ⟨hnl,fun v hv=>hbd v (by omega),rfl⟩))⟩
end Go.AM
namespace Go.AM
open IntKind (wrap)
open Go.Proofs
def Ad3 (t:Sl Y4)(v:Nat):List Nat:=
 if hp:0<=(t.g v).Parent/\(t.g v).Parent<v then Ad3 t (t.g v).Parent.toNat++[v]else [v]
termination_by v
decreasing_by omega
theorem Je {t:Sl Y4}{v:Nat}(hv:(t.g v).Parent<0):Ad3 t v=[v]:=by rw[Ad3,dif_neg (by omega)]
theorem RQ {t:Sl Y4}{v p:Nat}(hv:(t.g v).Parent=(p:Int))(hp:p<v):Ad3 t v=Ad3 t p++[v]:=by rw[Ad3,dif_pos (by omega),hv,AY3]
theorem Ap4 {t:Sl Y4}(ht:AF t):∀(m v:Nat),v<=m->v<t.n->∀x∈Ad3 t v,x<=v
 |m,v,hm,hv,x,hx=>by
  rcases AG ht hv with⟨_,e⟩ | ⟨p,hp,e⟩
  ·rw[Je (by omega)]at hx;simp at hx;omega
  ·rw[RQ e hp]at hx;rcases List.mem_append.1 hx with hx|hx
   ·match m with
    |0=>omega
    |m+1=>have:=Ap4 ht m p (by omega) (by omega) x hx;omega
   ·simp at hx;omega
theorem AA2 {α : Type}{x:Sl α}{m:Nat}(h:x.n=m+1):x.toList.reverse=x.g m::(x.take m).toList.reverse:=by unfold Sl.toList;rw[h,Bh9,Bk4,Bg3];rfl
theorem Yv {x2:Sl Int}(hx:x2.n<100000):∀(k M:Nat),k<=x2.n->k<M->R5 M (fun (self2:Int->Option (List Int)) (x3:Int)=>
 if (decide (0<=x3)) then
  if (((0:Int)<=x3/\x3<(x2.n:Int))/\x3.toNat<x2.n)then
   Be (x2.g x3.toNat) (
    self2 (wrap .i64 (x3-1))
    )
  else none
 else
  some []
 ) ((k:Int)-1)=some (x2.take k).toList.reverse
 |0,M,hk,hM=>by obtain⟨M,rfl⟩:∃K,M=K+1:=⟨M-1,by omega⟩;rw[V8,if_neg (by simp)];rfl
 |k+1,M,hk,hM=>by obtain⟨M,rfl⟩:∃K,M=K+1:=⟨M-1,by omega⟩;rw[show ((k+1:Nat):Int)-1=(k:Int) by omega,V8,if_pos (by simp),if_pos ⟨by omega,by omega⟩,F0 (by omega) (by omega),Yv hx k M (by omega) (by omega),AY3,AA2 (x:=x2.take (k+1)) (m:=k) rfl];rfl
theorem AO5 {N:Nat}(hN:3000000<=N){t:Sl Y4}(ht:AF t){v:Nat}(hv:v<t.n):S3 N (v:Int) t=some ((Ad3 t v).map fun (x:Nat)=>(x:Int)):=by
 have h63:=ht.2.1;have key:∀(m c:Nat) (x2:Sl Int) (M:Nat),c<m->c<t.n->m+1<M->x2.n+c<=1000->∃y:Sl Int,y.n<=1001/\y.toList.reverse=((Ad3 t c).map fun (x:Nat)=>(x:Int))++x2.toList.reverse /\
  S4 M (fun (self1:Int->Sl Int->Option (List Int)) (x1:Int) (x2:Sl Int)=>
  if (decide (0<=x1)) then
   if (((x2.n+(Sl.of [x1]:Sl Int).n)*8<=140737488355328/\x2.n+(Sl.of [x1]:Sl Int).n<=140737488355328)/\((0:Int)<=x1/\x1<(t.n:Int)))then
    self1 (t.g x1.toNat).Parent (x2.push x1)
   else none
  else
   R5 N (fun self2 (x3:Int)=>
    if (decide (0<=x3)) then
     if (((0:Int)<=x3/\x3<(x2.n:Int))/\x3.toNat<x2.n)then
      Be (x2.g x3.toNat) (
       self2 (wrap .i64 (x3-1))
       )
     else none
    else
     some []
    ) (wrap .i64 ((x2.n:Int)-1))
  ) (c:Int) x2=some y.toList.reverse:=by
  intro m
  induction m with
  |zero=>exact fun c _ _ h=>absurd h (by omega)
  |succ m ih=>
   intro c x2 M hc hct hM hx;obtain⟨M,rfl⟩:∃K,M=K+1:=⟨M-1,by omega⟩;rw[F3,if_pos (by simp),if_pos ⟨by show (x2.n+1)*8<=_/\x2.n+1<=_;omega,by omega⟩,AY3];rcases AG ht hct with⟨_,e⟩ | ⟨p,hp,e⟩
   ·obtain⟨M,rfl⟩:∃K,M=K+1:=⟨M-1,by omega⟩;refine⟨x2.push (c:Int),by show x2.n+1<=_;omega,by rw[WW,Bg3,Je (by omega)];rfl,?_⟩;rw[e,F3,if_neg (by decide)];have hb:=Yv (x2:=x2.push (c:Int)) (by show x2.n+1<_;omega) (x2.n+1) N (AZ0 _) (by omega);rw[F0 (by show _<=((x2.n+1:Nat):Int)-1;omega) (by show ((x2.n+1:Nat):Int)-1<=_;omega)];exact hb
   ·obtain⟨y,y1,y2,y3⟩:=ih p (x2.push (c:Int)) M (by omega) (by omega) (by omega) (by show x2.n+1+p<=_;omega);refine⟨y,y1,?_,by rw[e];exact y3⟩;rw[y2,WW,Bg3,RQ e hp,Bk4,Bk9];rfl
 obtain⟨y,_,y2,y3⟩:=key (v+1) v (Sl.nil:Sl Int) N (by omega) hv (by omega) (by show 0+v<=_;omega);unfold S3;rw[y3,y2];show some (_++[])=_;rw[Bf3]
def AO6 (h:B3)(L:List Nat)(z:Sl Int):Sl Int:=L.foldl (fun z x=>z.app (h.On.g x)) z
theorem UD {h:B3}(ht:AF h.Tree):∀(m v:Nat),v<=m->v<h.Tree.n->AO6 h (Ad3 h.Tree v) (Sl.nil:Sl Int)=Y1 h v
 |m,v,hm,hv=>by
  rcases AG ht hv with⟨_,e⟩ | ⟨p,hp,e⟩
  ·rw[Je (by omega),EE (by omega)];rfl
  ·rw[RQ e hp,Jd e hp]
   match m with
   |0=>omega
   |m+1=>
    have:=UD ht m p (by omega) (by omega)
    unfold AO6 at this⊢;rw[List.foldl_append,this];rfl
theorem UE {h:B3}(hi:Cx h):∀(L:List Nat) (z:Sl Int),(∀x∈L,x<h.On.n)->z.n+L.length*1100000<=10000000000 ->
 P4 (L.map fun (x:Nat)=>(x:Int)) (fun (self1:Sl Int->Option ((Sl Int)×Int)) (x1:Int) (z1:Sl Int)=>
  if (((0:Int)<=x1/\x1<(h.On.n:Int))/\((z1.n+(h.On.g x1.toNat).n)*8<=140737488355328/\z1.n+(h.On.g x1.toNat).n<=140737488355328))then
   self1 (z1.app (h.On.g x1.toNat))
  else none
  ) (fun (z1:Sl Int)=>
   some (z1,0)
  ) z=some (AO6 h L z,0)
 |[],z,_,_=>rfl
 |x::L,z,hx,hz=>by have hx0:=hx x (by simp);have hl:=hi.len x hx0;simp only[Bb6,Bj7]at hz;rw[Bb4,P4,AY3,if_pos ⟨by omega,by omega⟩];exact UE hi L _ (fun y hy=>hx y (by simp[hy])) (by show z.n+(h.On.g x).n+_<=_;omega)
theorem Yw {t:Sl Y4}(ht:AF t):∀(m v:Nat),v<=m->v<t.n->(Ad3 t v).length<=v+1
 |m,v,hm,hv=>by
  rcases AG ht hv with⟨_,e⟩ | ⟨p,hp,e⟩
  ·rw[Je (by omega)];simp
  ·rw[RQ e hp]
   match m with
   |0=>omega
   |m+1=>have:=Yw ht m p (by omega) (by omega);simp;omega
theorem AA3 {N:Nat}(hN:3000000<=N){h:B3}(hi:Cx h)(v:Int) :∃s e,AA N h v=some (s,e)/\EB N h v=some (s,e)/\((e=0/\NE N h/\0<=v/\v<h.Tree.n/\s=Y1 h v.toNat) \/ (e≠0/\s=(Sl.nil:Sl Int))):=by
 unfold AA EB;rw[Qk hN hi,UC hN hi,AY7,AY7];by_cases h0:hres N h=0
 case neg=>
  have hne:(hres N h != 0)=true:=by simpa using h0
  rw[if_pos hne,if_pos hne];exact⟨_,_,rfl,rfl,.inr ⟨h0,rfl⟩⟩
 have hok:=hres_zero.1 h0;have hnz:¬(hres N h != 0)=true:=by simp[h0]
 rw[if_neg hnz,if_neg hnz,Ci,GH,AY7,AY7];by_cases hv:0<=v/\v<(h.Tree.n:Int)
 case neg=>
  have hb:(!((decide (0<=v))&&(decide (v<(h.Tree.n:Int)))))=true:=by simp;omega
  rw[if_pos hb,if_pos hb];exact⟨_,_,rfl,rfl,.inr ⟨by decide,rfl⟩⟩
 have hb:¬(!((decide (0<=v))&&(decide (v<(h.Tree.n:Int)))))=true:=by simp;omega
 rw[if_neg hb,if_neg hb,CN,AY7];obtain⟨u,rfl⟩:∃u:Nat,v=(u:Int):=⟨v.toNat,by omega⟩;have h63:=hok.tree.2.1;have hw:=AO5 hN hok.tree (v:=u) (by omega);have hlen:=Yw hok.tree u u (AZ0 _) (by omega);have hit:=UE hi (Ad3 h.Tree u) (Sl.nil:Sl Int) (fun x hx=>by have:=Ap4 hok.tree u u (AZ0 _) (by omega) x hx;have:=hok.on;omega) (by show 0+_<=_;omega);rw[ND hi hok.tree hok.on N u (by omega) (by omega),AY7];refine⟨Y1 h u,0,?_,rfl,.inl ⟨rfl,hok,by omega,by omega,by rw[AY3]⟩⟩;show (S3 N (u:Int) h.Tree).bind _=_;rw[hw,AY7,hit,UD hok.tree u u (AZ0 _) (by omega)]
theorem Xc {N:Nat}{h:B3}(hok:NE N h):∀(m v:Nat),v<=m->v<h.Tree.n->∀i,i<(Y1 h v).n->0<=(Y1 h v).g i/\(Y1 h v).g i<h.Laws.n
 |m,v,hm,hv,i,hi=>by
  have AP2:∀j,j<(h.On.g v).n->0<=(h.On.g v).g j/\(h.On.g v).g j<h.Laws.n:=fun j hj=>by
   have:=hok.bad v (by have:=hok.on;omega)
   constructor
   ·exact Int.not_lt.1 fun g=>this ⟨j,hj,.inl g⟩
   ·exact Int.not_le.1 fun g=>this ⟨j,hj,.inr g⟩
  rcases AG hok.tree hv with⟨_,e⟩ | ⟨p,hp,e⟩
  ·rw[EE (by omega)]at hi⊢;have hi:i<0+(h.On.g v).n:=hi
   have:((Sl.nil:Sl Int).app (h.On.g v)).g i=(h.On.g v).g i:=by show (if i<0 then (default:Int)else (h.On.g v).g (i-0))=_;rw[if_neg (by omega)];rfl
   rw[this];exact AP2 i (by omega)
  ·rw[Jd e hp]at hi⊢;have hi:i<(Y1 h p).n+(h.On.g v).n:=hi;show 0<=(if i<(Y1 h p).n then (Y1 h p).g i else (h.On.g v).g (i-(Y1 h p).n))/\(if i<(Y1 h p).n then (Y1 h p).g i else (h.On.g v).g (i-(Y1 h p).n))<_;split
   ·match m with
    |0=>omega
    |m+1=>exact Xc hok m p (by omega) (by omega) i (by assumption)
   ·exact AP2 _ (by omega)
theorem HU:∀(d:Nat) (p:Pat),okP d p->∀M,100+d<=M->∃q,O3 M p=some q/\PE p q
 |0,p,h,M,_=>h.elim
 |d+1,p,h,0,hM=>by omega
 |d+1,p,h,M+1,hM=>by
  show ∃q,P3 (O3 M) M p=some q/\_;unfold P3;have hn:=h.1;refine P6 (fun i (x1:Sl Pat) x2=>x2=(i:Int)/\x1.n=i/\∀j,j<i->PE (p.L.g j) (x1.g j)) p.L.n _ (by omega) ⟨rfl,rfl,fun j hj=>absurd hj (by omega)⟩ ?_;rintro self i x1 x2 hi ⟨rfl,hx,hj⟩ hs;by_cases hl:i<p.L.n
  ·obtain⟨q,q1,q2⟩:=HU d (p.L.g i) (h.2.2 i hl) M (by omega);refine ifT (by simp;omega) (ifT (by omega) (B4 (by rw[AY3];exact q1) (ifT (by show (x1.n+1)*64<=_/\x1.n+1<=_;omega) (hs hl _ _ ⟨C0 (by omega),by show x1.n+1=_;omega,fun j hjl=>?_⟩))));show PE _ (if j<x1.n then x1.g j else q);by_cases e:j=i
   ·subst e;rw[if_neg (by omega)];exact q2
   ·rw[if_pos (by omega)];exact hj j (by omega)
  ·exact ifF (by simp;omega) ⟨_,rfl,PE_of.2 ⟨rfl,rfl,rfl,rfl,rfl,by show x1.n=_;omega,fun j hjl=>hj j (by omega)⟩⟩
theorem Ac2 {N:Nat}(hN:3000000<=N){l:Law}(hl:La l)(hc:chkAll N l):∃l',T8 N l=some l' /\ LE l l':=by have hf:=hc.f hl;obtain⟨_,h1,h2,h3,h4,_⟩:=hf;have h6:=h4.1;obtain⟨q1,e1,g1⟩:=HU 40 l.Left (Nu 40 _ (by omega) h1 _ (by simp)) N (by omega);obtain⟨q2,e2,g2⟩:=HU 40 l.Right (Nu 40 _ (by omega) h2 _ (by simp)) N (by omega);unfold T8 A7 F6;rw[e1,e2,AY7,AY7,if_pos (by omega),AY7,if_pos (by omega)];exact⟨_,rfl,rfl,g1,g2,SE.refl _,SE.refl _,rfl⟩
theorem AA4 {N:Nat}(hN:3000000<=N){h:B3}(hi:Cx h)(hok:NE N h){l:Sl Int}(hn:l.n<1000000)(hl:∀i,i<l.n->0<=l.g i/\l.g i<h.Laws.n) :∃s,Q8 N h l=some s/\s.n=l.n/\∀i,i<l.n->LE (h.Laws.g (l.g i).toNat) (s.g i):=by
 unfold Q8;refine P6 (fun i (x1:Sl Law) x2=>x2=(i:Int)/\x1.n=i/\∀j,j<i->LE (h.Laws.g (l.g j).toNat) (x1.g j)) l.n _ (by omega) ⟨rfl,rfl,fun j hj=>absurd hj (by omega)⟩ ?_;rintro self i x1 x2 hle ⟨rfl,hx,hj⟩ hs;by_cases hlt:i<l.n
 ·have hr:=hl i hlt;obtain⟨q,q1,q2⟩:=Ac2 hN (hi.laws (l.g i).toNat (by omega)) (hok.laws.2 (l.g i).toNat (by omega));refine ifT (by simp;omega) ?_;rw[AY3];refine ifT ⟨by omega,hr⟩ (B4 q1 (ifT (by show (x1.n+1)*200<=_/\x1.n+1<=_;omega) (hs hlt _ _ ⟨C0 (by omega),by show x1.n+1=_;omega,fun j hjl=>?_⟩)));show LE _ (if j<x1.n then x1.g j else q);by_cases e:j=i
  ·subst e;rw[if_neg (by omega)];exact q2
  ·rw[if_pos (by omega)];exact hj j (by omega)
 ·exact ifF (by simp;omega) ⟨_,rfl,by omega,fun j hjl=>hj j (by omega)⟩
def AO7 (h:B3)(l:Sl Int):Sl Law:=⟨l.n,fun i=>h.Laws.g (l.g i).toNat⟩
theorem AA5 {N:Nat}(hN:3000000<=N){h:B3}(hi:Cx h)(v:Int) :∃s s' e,Q9 N h v=some (s,e)/\CX N h v=some (s',e)/\LS s' s/\((e=0/\NE N h/\0<=v/\v<h.Tree.n/\SE s' (AO7 h (Y1 h v.toNat))) \/ (e≠0/\s.n=0)):=by
 obtain⟨l,e,h1,h2,h3⟩:=AA3 hN hi v;unfold Q9 CX;rw[h1,h2,AY7,AY7];have hl:l.n<1000000/\(∀i,i<l.n->0<=l.g i/\l.g i<h.Laws.n)/\∃s,Q8 N h l=some s/\s.n=l.n/\∀i,i<l.n->LE (h.Laws.g (l.g i).toNat) (s.g i):=by
  rcases h3 with⟨_,hok,g1,g2,rfl⟩ | ⟨_,rfl⟩
  ·have hln:(Y1 h v.toNat).n<=64:=Bl4 fun g=>hok.long ⟨v.toNat,by have:=hok.on;omega,g⟩;have hlo:=Xc hok v.toNat v.toNat (AZ0 _) (by omega);exact⟨by omega,hlo,AA4 hN hi hok (by omega) hlo⟩
  ·refine⟨by show 0<_;omega,fun i hi=>absurd hi (Bc5 i),(Sl.nil:Sl Law),?_,rfl,fun i hi=>absurd hi (Bc5 i)⟩;unfold Q8;obtain⟨M,rfl⟩:∃K,N=K+1:=⟨N-1,by omega⟩;rw[F3,if_neg (by show ¬decide ((0:Int)<((0:Nat):Int))=true;decide)]
 obtain⟨hn,hr,s,s1,s2,s3⟩:=hl;have hd:∃r,(S4 N (fun (self1:Sl Law->Int->Option ((Sl Law)×Int)) (x1:Sl Law) (x2:Int)=>
  if (decide (x2<(l.n:Int))) then
   if ((((0:Int)<=x2/\x2<(l.n:Int))/\x2.toNat<l.n)/\((0:Int)<=(l.g x2.toNat)/\(l.g x2.toNat)<(h.Laws.n:Int)))then
    if ((x1.n+(Sl.of [h.Laws.g (l.g x2.toNat).toNat]:Sl Law).n)*200<=140737488355328/\x1.n+(Sl.of [h.Laws.g (l.g x2.toNat).toNat]:Sl Law).n<=140737488355328)then
     self1 (x1.push (h.Laws.g (l.g x2.toNat).toNat)) (wrap .i64 (x2+1))
    else none
   else none
  else
   some (x1,e)
  ) (Sl.nil:Sl Law) 0)=some r/\r.2=e/\r.1.n=l.n/\∀i,i<l.n->r.1.g i=h.Laws.g (l.g i).toNat:=by
  refine P6 (fun i (x1:Sl Law) x2=>x2=(i:Int)/\x1.n=i/\∀j,j<i->x1.g j=h.Laws.g (l.g j).toNat) l.n _ (by omega) ⟨rfl,rfl,fun j hj=>absurd hj (by omega)⟩ ?_;rintro self i x1 x2 hle ⟨rfl,hx,hj⟩ hs;by_cases hlt:i<l.n
  ·refine ifT (by simp;omega) ?_;rw[AY3];refine ifT ⟨⟨by omega,hlt⟩,hr i hlt⟩ (ifT (by show (x1.n+1)*200<=_/\x1.n+1<=_;omega) (hs hlt _ _ ⟨C0 (by omega),by show x1.n+1=_;omega,fun j hjl=>?_⟩));show (if j<x1.n then x1.g j else _)=_;by_cases e:j=i
   ·subst e;rw[if_neg (by omega)]
   ·rw[if_pos (by omega)];exact hj j (by omega)
  ·exact ifF (by simp;omega) ⟨_,rfl,rfl,by show x1.n=_;omega,fun j hjl=>hj j (by omega)⟩
 obtain⟨⟨s',e'⟩,d1,d2,d3,d4⟩:=hd;dsimp only at d2 d3 d4;subst d2;rw[s1,AY7];refine⟨s,s',_,rfl,d1,⟨by omega,fun i hi=>by rw[d4 i (by omega)];exact s3 i (by omega)⟩,?_⟩;rcases h3 with⟨g0,hok,g1,g2,rfl⟩ | ⟨g0,rfl⟩
 ·exact .inl ⟨g0,hok,g1,g2,d3,fun i hi=>d4 i (by omega)⟩
 ·exact .inr ⟨g0,s2⟩
end Go.AM
namespace Go.AM
open Go.Proofs
theorem AA6 {h:B3}(hi:Cx h){l:Sl Int}(hl:∀i,i<l.n->0<=l.g i/\l.g i<h.Laws.n):AE (AO7 h l):=fun i hii=>hi.laws _ (by have:=hl i hii;omega)
end Go.AM
namespace Go.AM
open IntKind (wrap)
open Go.Proofs
theorem eqR {R:Type}{x:Option R}{y:R}(h:∃r,x=some r/\r=y):x=some y:=by obtain⟨r,h,rfl⟩:=h;exact h
theorem AO8 {N:Nat}(hN:3000000<=N){h:B3}(hi:Cx h):∃b,Gq N h=some b/\True:=by
 unfold Gq;have last:∀z1:Bool,∃b,(if z1 then some false else
  R5 N (fun (self1:Int->Option Bool) (x2:Int)=>
   if (decide (x2<(h.On.n:Int))) then
    if ((0:Int)<=x2/\x2<(h.On.n:Int))then
     if (decide (5<((h.On.g x2.toNat).n:Int))) then
      some false
     else
      self1 (wrap .i64 (x2+1))
    else none
   else
    some true
   ) 0)=some b/\True:=fun z1=>by
  cases z1
  ·refine ifF (by simp) (BD (fun i x2=>x2=(i:Int)) h.On.n _ (by have:=hi.on;omega) rfl ?_);rintro self i x2 hle rfl hs;by_cases hlt:i<h.On.n
   ·refine ifT (by simpa using hlt) (ifT (by omega) ?_);rw[AY3,C0 (by have:=hi.on;omega)];by_cases h5:5<(h.On.g i).n
    ·exact ifT (by simp;omega) ⟨_,rfl,trivial⟩
    ·exact ifF (by simp;omega) (hs hlt _ rfl)
   ·exact ifF (by simpa using hlt) ⟨_,rfl,trivial⟩
  ·exact ifT rfl ⟨_,rfl,trivial⟩
 refine ltX ?_;by_cases g1:(decide (8<(h.Tree.n:Int)))=true
 ·exact ifT g1 (last _)
 refine ifF g1 ?_;by_cases g2:(decide (6<(h.Laws.n:Int)))=true
 ·exact ifT g2 (last _)
 refine ifF g2 ?_;by_cases g3:(decide (8<(h.On.n:Int)))=true
 ·exact ifT g3 (last _)
 refine ifF g3 ?_;obtain⟨r,hr⟩:=AA1 (N:=N) (by omega) h.Laws;exact B4 hr (last _)
end Go.AM
namespace Go.AM
open IntKind (wrap)
open Go.Proofs
def UF (t:Sl Y4)(v:Nat):Prop:=∀u,0<u->u<t.n->(t.g u).Parent≠(v:Int)
open Classical in
noncomputable def Z7 (t:Sl Y4):Nat->Sl Int
 |0=>(Sl.nil:Sl Int)
 |i+1=>if UF t i then (Z7 t i).push (i:Int)else Z7 t i
theorem UG {t:Sl Y4}{i:Nat}(h:UF t i):Z7 t (i+1)=(Z7 t i).push (i:Int):=if_pos h
theorem Yx {t:Sl Y4}{i:Nat}(h:¬UF t i):Z7 t (i+1)=Z7 t i:=if_neg h
theorem Xd (t:Sl Y4):∀i,(Z7 t i).n<=i
 |0=>AZ0 0
 |i+1=>by
  have:=Xd t i
  by_cases h:UF t i
  ·rw[UG h];show (Z7 t i).n+1<=i+1;omega
  ·rw[Yx h];omega
theorem AA7 {N:Nat}(hN:3000000<=N){t:Sl Y4}(ht:AF t):∃X,X5 N t=some X/\(X.n=t.n/\∀v,v<t.n->((X.g v).n=0↔UF t v)):=by
 have h63:=ht.2.1;unfold X5;refine ifT (by omega) (P6 (fun i x (X:Sl (Sl Int))=>x=(i:Int)/\X.n=t.n/\∀v,v<t.n->(((X.g v).n=0 ↔ ∀u,0<u->u<i->(t.g u).Parent≠(v:Int))/\(X.g v).n<=i)) t.n _ (by omega)
  ⟨rfl,rfl,fun v hv=>⟨⟨fun _ u h1 h2=>absurd h2 (Bc5 u),fun _=>rfl⟩,AZ0 0⟩⟩ ?_)
 rintro self i x X hle ⟨rfl,hX,hI⟩ hs;by_cases hl:i<t.n
 case neg=>
  obtain rfl:i=t.n:=by omega
  exact ifF (by simp) ⟨X,rfl,hX,fun v hv=>(hI v hv).1⟩
 refine ifT (by simpa using hl) (ifT (by omega) ?_);rw[AY3,C0 (by omega)];rcases AG ht hl with⟨h0,h1⟩ | ⟨p,hp,e⟩
 ·subst h0;rw[h1];refine ifT (by show Int.toNat (-1)<X.n;rw[hX];exact hl) (ltX (ifF (by simp) (hs hl _ _ ⟨rfl,hX,fun v hv=>?_⟩)));have e:(X.upd (Int.toNat (-1)) (X.g (Int.toNat (-1)))).g v=X.g v:=by
   show (if v=_ then X.g (Int.toNat (-1))else X.g v)=X.g v;split
   ·rename_i e;rw[e]
   ·rfl
  rw[e];obtain⟨g1,g2⟩:=hI v hv;exact⟨g1.trans ⟨fun _ u h1 h2=>absurd h2 (by omega),fun _ u h1 h2=>absurd h2 (by omega)⟩,by omega⟩
 ·rw[e,AY3];have hpn:p<t.n:=by omega
  have hrow:=(hI p hpn).2;refine ifT (by omega) (ltX (ifT (by simp;omega) (ifT ⟨⟨by omega,by rw[hX];omega⟩,by omega,by omega⟩ (hs hl _ _ ⟨rfl,hX,fun v hv=>?_⟩))));show ((if v=p then (X.g p).push (i:Int)else X.g v).n=0↔_)/\(if v=p then (X.g p).push (i:Int)else X.g v).n<=i+1;by_cases hvp:v=p
  ·subst hvp;rw[if_pos rfl];refine⟨⟨fun h=>absurd h (Nat.succ_ne_zero _),fun h=>absurd e (h i (by omega) (by omega))⟩,?_⟩;show (X.g v).n+1<=i+1;omega
  ·rw[if_neg hvp];obtain⟨g1,g2⟩:=hI v hv;refine⟨g1.trans ⟨fun h u h1 h2=>?_,fun h u h1 h2=>h u h1 (by omega)⟩,by omega⟩;by_cases hu:u=i
   ·subst hu;rw[e];omega
   ·exact h u h1 (by omega)
theorem AW4 {R:Type}{Q:R->Prop}{self:Sl Int->Int->Option R}{t:Sl Y4}{i:Nat}(hi:i<1000){b:Bool}(hb:b=true↔UF t i)(h:∃r,self (Z7 t (i+1)) ((i+1:Nat):Int)=some r/\Q r) :∃r,(if b then
  if (((Z7 t i).n+(Sl.of [(i:Int)]:Sl Int).n)*8<=140737488355328/\(Z7 t i).n+(Sl.of [(i:Int)]:Sl Int).n<=140737488355328)then
   self ((Z7 t i).push (i:Int)) (wrap .i64 ((i:Int)+1))
  else none
  else self (Z7 t i) (wrap .i64 ((i:Int)+1)))=some r/\Q r:=by
 have hn:=Xd t i;rw[C0 (by omega)];by_cases hk:UF t i
 ·rw[UG hk]at h;exact ifT (hb.2 hk) (ifT ⟨by show ((Z7 t i).n+1)*8<=_;omega,by show (Z7 t i).n+1<=_;omega⟩ h)
 ·rw[Yx hk]at h;exact ifF (fun g=>hk (hb.1 g)) h
theorem Xe {N:Nat}(hN:3000000<=N){t:Sl Y4}(ht:AF t):∃r,BB N t=some r/\r=Z7 t t.n:=by
 have h63:=ht.2.1;unfold BB;obtain⟨X,e,hX,hk⟩:=AA7 hN ht;refine B4 e (P6 (fun i x1 x2=>x2=(i:Int)/\x1=Z7 t i) t.n _ (by omega) ⟨rfl,rfl⟩ ?_);rintro self i x1 x2 hle ⟨rfl,rfl⟩ hs;by_cases hl:i<t.n
 ·refine ifT (by rw[hX];simpa using hl) (ifT (by omega) ?_);rw[AY3];exact AW4 (by omega) (by rw[<- hk i hl];simp) (hs hl _ _ ⟨rfl,rfl⟩)
 ·obtain rfl:i=t.n:=by omega
  exact ifF (by rw[hX];simp) ⟨_,rfl,rfl⟩
theorem AA8 {N:Nat}(hN:3000000<=N){t:Sl Y4}(ht:AF t){v:Nat}(hv:v<t.n):∃r,AB N t (v:Int)=some r/\(r.n=0↔UF t v):=by
 have h63:=ht.2.1;unfold AB;refine P6 (fun i (x1:Sl Int) x2=>x2=(i:Int)/\x1.n<=i/\(x1.n=0 ↔ ∀u,0<u->u<i->(t.g u).Parent≠(v:Int))) t.n _ (by omega) ⟨rfl,AZ0 0,fun _ u h1 h2=>absurd h2 (Bc5 u),fun _=>rfl⟩ ?_;rintro self i x1 x2 hle ⟨rfl,hn,hI⟩ hs;by_cases hl:i<t.n
 ·refine ifT (by simpa using hl) (ifT (by omega) ?_);rw[AY3,C0 (by omega)];by_cases hp:(t.g i).Parent=(v:Int)
  ·have h0:0<i:=by
    rcases AG ht hl with⟨h0,h1⟩ | ⟨p,hp,e⟩
    ·rw[h1]at hp;omega
    ·omega
   refine ifT (by simpa using hp) (ifT ⟨by show (x1.n+1)*8<=_;omega,by show x1.n+1<=_;omega⟩ (hs hl _ _ ⟨rfl,by show x1.n+1<=i+1;omega,fun h=>absurd h (Nat.succ_ne_zero _),fun h=>absurd hp (h i h0 (by omega))⟩))
  ·refine ifF (by simpa using hp) (hs hl _ _ ⟨rfl,by omega,hI.trans ⟨fun h u h1 h2=>?_,fun h u h1 h2=>h u h1 (by omega)⟩⟩);by_cases hu:u=i
   ·subst hu;exact hp
   ·exact h u h1 (by omega)
 ·obtain rfl:i=t.n:=by omega
  exact ifF (by simp) ⟨_,rfl,hI⟩
theorem Ac3 {N:Nat}(hN:3000000<=N){t:Sl Y4}(hi:JQ t):∃s e,T2 N t=some (s,e)/\X6 N t=some (s,e)/\((AF t/\e=0/\s=Z7 t t.n) \/ (¬AF t/\e=16/\s=(Sl.nil:Sl Int))):=by
 obtain⟨e,e1,e2,he⟩:=Lp hN hi;unfold T2 X6;rw[e1,e2,AY7,AY7];rcases he with⟨rfl,ht⟩ | ⟨rfl,ht⟩
 ·have h63:=ht.2.1;rw[if_neg (by decide),if_neg (by decide)];obtain⟨r,g1,rfl⟩:=Xe hN ht;refine⟨_,0,by rw[g1];rfl,eqR (P6 (fun i x1 x2=>x2=(i:Int)/\x1=Z7 t i) t.n _ (by omega) ⟨rfl,rfl⟩ ?_),.inl ⟨ht,rfl,rfl⟩⟩;rintro self i x1 x2 hle ⟨rfl,rfl⟩ hs;by_cases hl:i<t.n
  ·refine ifT (by simpa using hl) ?_;obtain⟨r,k1,k2⟩:=AA8 hN ht hl;exact B4 k1 (AW4 (by omega) (by rw[<- k2];simp) (hs hl _ _ ⟨rfl,rfl⟩))
  ·obtain rfl:i=t.n:=by omega
   exact ifF (by simp) ⟨_,rfl,rfl⟩
 ·exact⟨_,16,if_pos (by decide),if_pos (by decide),.inr ⟨ht,rfl,rfl⟩⟩
end Go.AM
namespace Go.AM
open IntKind (wrap)
open Go.Proofs
def Jf (f:Nat->Int):Nat->Int
 |0=>0
 |k+1=>if Jf f k≠0 then Jf f k else f k
theorem RR {f:Nat->Int}{k:Nat}(h:Jf f k=0):Jf f (k+1)=f k:=if_neg (fun g=>g h)
theorem Jg {f:Nat->Int}{i:Nat}(h:Jf f i≠0):∀n,i<=n->Jf f n=Jf f i
 |0,hn=>by rw[show i=0 by omega]
 |n+1,hn=>by
  by_cases e:i=n+1
  ·rw[e]
  ·have hp:=Jg h n (by omega);show (if Jf f n≠0 then Jf f n else f n)=_;rw[hp,if_pos h]
theorem Jh {f:Nat->Int}:∀{n:Nat},Jf f n=0->∀i,i<n->f i=0
 |0,_,i,hi=>absurd hi (Bc5 i)
 |n+1,h,i,hi=>by
  have hp:Jf f n=0:=Bb0 fun g=>g (by rw[<- Jg g (n+1) (by omega)];exact h);by_cases e:i=n
  ·subst e;rw[<- RR hp];exact h
  ·exact Jh hp i (by omega)
def orE (a b:Int):Int:=if a≠0 then a else b
theorem ON {a b:Int}(h:a≠0):orE a b=a:=if_pos h
theorem NF {a b:Int}(h:a=0):orE a b=b:=if_neg (fun g=>g h)
theorem AA9 {a b:Int}(h:orE a b=0):a=0/\b=0:=by
 by_cases g:a=0
 ·exact⟨g,by rw[<- h,NF g]⟩
 ·rw[ON g]at h;exact absurd h g
theorem AW5 {N n:Nat}{f:Nat->Int}{body:(Int->Option Int)->Int->Option Int}{re:Int}(hN:n<N)(hbad:∀self i,i<n->f i≠0->body self (i:Int)=some (f i))
 (hgo:∀self i,i<n->f i=0->body self (i:Int)=self ((i+1:Nat):Int)) (hend:∀self,Jf f n=0->body self (n:Int)=some re):R5 N body 0=some (orE (Jf f n) re):=by
 refine eqR (BD (fun i x=>x=(i:Int)/\Jf f i=0) n _ hN ⟨rfl,rfl⟩ ?_);rintro self i x hle ⟨rfl,h0⟩ hs;by_cases hl:i<n
 ·by_cases hf:f i=0
  ·rw[hgo self i hl hf];exact hs hl _ ⟨rfl,by rw[RR h0];exact hf⟩
  ·rw[hbad self i hl hf];have e:Jf f (i+1)=f i:=RR h0;have hne:Jf f (i+1)≠0:=by rw[e];exact hf
   exact⟨_,rfl,by rw[Jg hne n hl,ON hne,e]⟩
 ·obtain rfl:i=n:=by omega
  exact⟨_,hend self h0,(NF h0).symm⟩
theorem Ap5 {N n:Nat}{f:Nat->Int}{body:(Int->Option Int)->Int->Option Int}{re:Int}(hN:n<N)(hbad:∀self i,i<n->f i≠0->body self (i:Int)=some (f i))
 (hgo:∀self i,i<n->f i=0->body self (i:Int)=self ((i+1:Nat):Int)) (hend:∀self,body self (n:Int)=some re):R5 N body 0=some (orE (Jf f n) re):=AW5 hN hbad hgo fun self _=>hend self
def HV (s:Sl BP):Prop:=∀i,i<s.n->okA (s.g i).W
def Ql (l:Sl Aa):Prop:=∀i,i<l.n->HV (l.g i).Forms/\(l.g i).Gloss.length<1100000
def emp (s:Sl BP):Prop:=∃i,i<s.n/\(s.g i).Has=false/\0<(s.g i).W.n
noncomputable def AO9 (s:Sl BP):Bool:=@decide (¬emp s) (Classical.propDecidable _)
theorem UH {s:Sl BP}(h:¬emp s):AO9 s=true:=@decide_eq_true _ (Classical.propDecidable _) h
theorem UI {s:Sl BP}(h:emp s):AO9 s=false:=@decide_eq_false _ (Classical.propDecidable _) (fun g=>g h)
theorem AB0 (f:BP):((!f.Has)&&(decide (0<(f.W.n:Int))))=true↔f.Has=false/\0<f.W.n:=by simp
theorem UJ {N:Nat}(hN:1000<=N){s:Sl BP}(hs:s.n<900):U3 N s=some (AO9 s):=by
 have h1:∃r,C9 N s (fun (u1:BP)=>AL N u1)=some r/\(0<=r↔emp s):=by
  unfold C9;refine BD (fun i x=>x=(i:Int)/\∀j,j<i->¬((s.g j).Has=false/\0<(s.g j).W.n)) s.n _ (by omega) ⟨rfl,fun j hj=>absurd hj (Bc5 j)⟩ ?_;rintro self i x hle ⟨rfl,h⟩ hs2;by_cases hl:i<s.n
  ·refine ifT (by simpa using hl) (ifT (by omega) (B4 rfl ?_));rw[AY3,C0 (by omega)];by_cases hb:(s.g i).Has=false/\0<(s.g i).W.n
   ·exact ifT ((AB0 _).2 hb) ⟨_,rfl,fun _=>⟨i,hl,hb⟩,fun _=>by omega⟩
   ·refine ifF (fun g=>hb ((AB0 _).1 g)) (hs2 hl _ ⟨rfl,fun j hj=>?_⟩);by_cases e:j=i
    ·subst e;exact hb
    ·exact h j (by omega)
  ·exact ifF (by simpa using hl) ⟨_,rfl,fun g=>absurd g (by decide),fun⟨j,hj,hb⟩=>absurd hb (h j (by omega))⟩
 obtain⟨r,e,hr⟩:=h1;unfold U3 D5;rw[e,AY7,AY7];congr 1;by_cases h:emp s
 ·rw[UI h];simp[hr.2 h]
 ·rw[UH h];simp;exact Int.not_le.1 fun g=>h (hr.1 g)
theorem Qm {N:Nat}(hN:1000<=N){s:Sl BP}(hs:s.n<900):AW N s=some (AO9 s):=by
 unfold AW;refine eqR (BD (fun i x=>x=(i:Int)/\∀j,j<i->¬((s.g j).Has=false/\0<(s.g j).W.n)) s.n _ (by omega) ⟨rfl,fun j hj=>absurd hj (Bc5 j)⟩ ?_);rintro self i x hle ⟨rfl,h⟩ hs2;by_cases hl:i<s.n
 ·refine ifT (by simpa using hl) (ifT (by omega) (ifT (fun _=>by omega) ?_));rw[AY3,C0 (by omega)];by_cases hb:(s.g i).Has=false/\0<(s.g i).W.n
  ·exact ifT ((AB0 _).2 hb) ⟨_,rfl,(UI ⟨i,hl,hb⟩).symm⟩
  ·refine ifF (fun g=>hb ((AB0 _).1 g)) (hs2 hl _ ⟨rfl,fun j hj=>?_⟩);by_cases e:j=i
   ·subst e;exact hb
   ·exact h j (by omega)
 ·exact ifF (by simpa using hl) ⟨_,rfl,(UH (fun⟨j,hj,hb⟩=>h j (by omega) hb)).symm⟩
def wE (N:Nat)(w:Sl Sound):Int:=(N9 N w).getD 0
theorem Yy {N:Nat}(hN:1000<=N){w:Sl Sound}(hw:okA w):N9 N w=some (wE N w)/\W1 N w=some (wE N w):=by
 obtain⟨e,h1,h2⟩:=Ny hN hw;obtain⟨e',g1,g2⟩:=GJ hN hw;obtain rfl:=Nx h2 g2
 have:wE N w=e:=by unfold wE;rw[h1];rfl
 rw[this];exact⟨h1,g1⟩
def wsE (N:Nat)(s:Sl BP):Int:=Jf (fun i=>wE N (s.g i).W) s.n
theorem Gx {N:Nat}(hN:1000<=N){s:Sl BP}(hs:s.n<900)(hi:HV s):O2 N s=some (wsE N s)/\X8 N s=some (wsE N s):=by
 have e0:wsE N s=orE (wsE N s) 0:=by
  by_cases h:wsE N s=0
  ·rw[NF h,h]
  ·rw[ON h]
 rw[e0];unfold O2 X8;constructor<;>refine Ap5 (f:=fun i=>wE N (s.g i).W) (by omega) ?_ ?_ ?_
 ·intro self i hl hf;rw[if_pos (by simpa using hl),if_pos (by omega),AY3,(Yy hN (hi i hl)).1,AY7,if_pos (by simpa using hf)]
 ·intro self i hl hf;rw[if_pos (by simpa using hl),if_pos (by omega),AY3,(Yy hN (hi i hl)).1,AY7,if_neg (by simpa using hf),C0 (by omega)]
 ·intro self;rw[if_neg (by simp)]
 ·intro self i hl hf;rw[if_pos (by simpa using hl),if_pos (by omega),AY3,(Yy hN (hi i hl)).2,AY7,if_pos (by simpa using hf)]
 ·intro self i hl hf;rw[if_pos (by simpa using hl),if_pos (by omega),AY3,(Yy hN (hi i hl)).2,AY7,if_neg (by simpa using hf),C0 (by omega)]
 ·intro self;rw[if_neg (by simp)]
theorem Qn {N:Nat}(hN:3000000<=N){s:Str}(hs:s.length<1100000):AC N s=some (FA s):=by
 obtain⟨e,e1,_,he⟩:=Lp (t:=(Sl.of [(⟨-1,s⟩:Y4)]:Sl Y4)) hN (fun v hv=>by
  have hv:v<1:=hv;obtain rfl:v=0:=by omega
  exact hs)
 unfold AC;rw[e1,AY7];have key:AF (Sl.of [(⟨-1,s⟩:Y4)]:Sl Y4)↔FA s=true:=by
  constructor
  ·intro h;exact (h.2.2 0 (by show 0<1;omega)).2.2.1
  ·intro h;refine⟨by show 1<=1;omega,by show 1<=63;omega,fun v hv=>?_⟩;have hv:v<1:=hv;obtain rfl:v=0:=by omega
   exact⟨fun _=>rfl,fun h=>absurd h (Nat.lt_irrefl 0),h,fun u hu=>absurd hu (Bc5 u)⟩
 congr 1;rcases he with⟨rfl,h⟩ | ⟨rfl,h⟩
 ·rw[key.1 h];rfl
 ·cases hb:FA s
  ·rfl
  ·exact absurd (key.2 hb) h
open Classical in
noncomputable def e2 (l:Sl Aa) (k:Nat) (i:Nat):Int:=if (l.g i).Forms.n≠k \/ emp (l.g i).Forms then 2 else 0
def e15 (l:Sl Aa)(i:Nat):Int:=if FA (l.g i).Gloss then 0 else 15
theorem AP0 {l:Sl Aa}{k i:Nat}(h:e2 l k i=0):(l.g i).Forms.n=k/\¬emp (l.g i).Forms:=by
 unfold e2 at h;split at h
 ·cases h
 ·rename_i g;exact⟨Bb0 fun e=>g (.inl e),fun e=>g (.inr e)⟩
theorem AE9 {l:Sl Aa}{k i:Nat}(h:(l.g i).Forms.n≠k \/ emp (l.g i).Forms):e2 l k i=2:=if_pos h
theorem AW6 {l:Sl Aa}{k i:Nat}(h:¬((l.g i).Forms.n≠k \/ emp (l.g i).Forms)):e2 l k i=0:=if_neg h
theorem Yz {l:Sl Aa}{k i:Nat}{E:Option Bool}(hk:k<900)(hE:(l.g i).Forms.n=k->E=some (AO9 (l.g i).Forms))(self:Option Int) :(lt (fun (z3:Bool)=>if z3 then some 2 else self) fun k3=>
  if (((l.g i).Forms.n:Int) != (k:Int)) then
   k3 true
  else
   E.bind fun y6=>
   k3 (!y6))=if e2 l k i≠0 then some (e2 l k i)else self:=by
 by_cases h:(l.g i).Forms.n=k
 ·rw[hE h];have hc:¬(((l.g i).Forms.n:Int) != (k:Int))=true:=by simp[h]
  by_cases hp:emp (l.g i).Forms
  ·rw[AE9 (.inr hp)];show (if (((l.g i).Forms.n:Int) != (k:Int)) then _ else if (!(AO9 (l.g i).Forms)) then some (2:Int)else self)=some 2;rw[if_neg hc,if_pos (by rw[UI hp];rfl)]
  ·rw[AW6 (fun g=>g.elim (fun e=>e h) hp)];show (if (((l.g i).Forms.n:Int) != (k:Int)) then _ else if (!(AO9 (l.g i).Forms)) then some (2:Int)else self)=self;rw[if_neg hc,if_neg (by rw[UH hp];decide)]
 ·rw[AE9 (.inl h)];exact if_pos (by simp;omega)
theorem Xf {N:Nat}(hN:3000000<=N){l:Sl Aa}{k:Nat}(hk:k<900)(hn:l.n<900)(hi:Ql l):M8 N l (k:Int)=some (orE (Jf (e2 l k) l.n) (orE (Jf (e15 l) l.n) 0)):=by
 unfold M8;have step:=fun (self:Option Int) (i:Nat)=>Yz (l:=l) (i:=i) hk (fun h=>UJ (N:=N) (s:=(l.g i).Forms) (by omega) (by omega)) self;refine Ap5 (by omega) ?_ ?_ ?_
 ·intro self i hl hf;rw[if_pos (by simpa using hl),if_pos (by omega),AY3,step,if_pos hf]
 ·intro self i hl hf;rw[if_pos (by simpa using hl),if_pos (by omega),AY3,step,if_neg (fun g=>g hf),C0 (by omega)]
 ·intro self;rw[if_neg (by simp)];refine Ap5 (by omega) ?_ ?_ ?_
  ·intro self i hl hf;rw[if_pos (by simpa using hl),if_pos (by omega),AY3,Qn hN (hi i hl).2,AY7];unfold e15 at hf⊢;by_cases h:FA (l.g i).Gloss=true
   ·exact absurd (if_pos h) hf
   ·rw[if_pos (by simpa using h),if_neg h]
  ·intro self i hl hf;rw[if_pos (by simpa using hl),if_pos (by omega),AY3,Qn hN (hi i hl).2,AY7];unfold e15 at hf;by_cases h:FA (l.g i).Gloss=true
   ·rw[if_neg (by simp[h]),C0 (by omega)]
   ·rw[if_neg h]at hf;cases hf
  ·intro self;rw[if_neg (by simp)]
noncomputable def AY1 (N:Nat) (p:Sl BP) (l:Sl Aa) (k:Nat):Int:=
 orE (Jf (e2 l k) l.n) (orE (Jf (e15 l) l.n) (orE (wsE N p) (Jf (fun i=>wsE N (l.g i).Forms) l.n)))
theorem AB1 {N:Nat}(hN:3000000<=N){l:Sl Aa}(hn:l.n<900)(W:Nat->Int)(hW:∀i,i<l.n->X8 N (l.g i).Forms=some (W i))(w0:Int) :S4 N (fun (self3:Int->Int->Option Int) (x7:Int) (x8:Int)=>
  if ((decide (x8<(l.n:Int)))&&(x7==0)) then
   if ((0:Int)<=x8/\x8<(l.n:Int))then
    (X8 N (l.g x8.toNat).Forms).bind fun y17=>
    self3 y17 (wrap .i64 (x8+1))
   else none
  else
   some x7
  ) w0 0=some (orE w0 (Jf W l.n)):=by
 refine eqR (P6 (fun i x7 x8=>x8=(i:Int)/\((x7=0/\w0=0/\Jf W i=0) \/ (x7≠0/\x7=orE w0 (Jf W l.n)))) l.n _ (by omega) ⟨rfl,?_⟩ ?_)
 ·by_cases h:w0=0
  ·exact .inl ⟨h,h,rfl⟩
  ·exact .inr ⟨h,(ON h).symm⟩
 rintro self i x7 x8 hle ⟨rfl,h⟩ hs;rcases h with⟨rfl,h0,h1⟩ | ⟨h0,h1⟩
 ·by_cases hl:i<l.n
  ·refine ifT (by simpa using hl) (ifT (by omega) ?_);rw[AY3,C0 (by omega)];refine B4 (hW i hl) (hs hl _ _ ⟨rfl,?_⟩);have e:=RR h1;by_cases hf:W i=0
   ·exact .inl ⟨hf,h0,by rw[e];exact hf⟩
   ·exact .inr ⟨hf,by rw[NF h0,Jg (i:=i+1) (by rw[e];exact hf) l.n hl,e]⟩
  ·obtain rfl:i=l.n:=by omega
   exact ifF (by simp) ⟨_,rfl,by rw[NF h0,h1]⟩
 ·exact ifF (by simp[h0]) ⟨_,rfl,h1⟩
end Go.AM
namespace Go.AM
open IntKind (wrap)
open Go.Proofs
theorem Xg {t:Sl Y4}(ht:AF t):(Z7 t t.n).n<=63:=by have:=Xd t t.n;have:=ht.2.1;omega
theorem NG {N:Nat}(hN:3000000<=N){t:Sl Y4}(hi:JQ t)(ht:AF t):T2 N t=some (Z7 t t.n,0)/\X6 N t=some (Z7 t t.n,0):=by
 obtain⟨s,e,h1,h2,h3⟩:=Ac3 hN hi;rcases h3 with⟨_,rfl,rfl⟩ | ⟨g,_⟩
 ·exact⟨h1,h2⟩
 ·exact absurd ht g
open Classical in
noncomputable def AF0 (N:Nat) (h:B3) (p:Sl BP) (l:Sl Aa):Int:=
 if hres N h≠0 then hres N h else if 256<l.n then 12 else if p.n≠l.n \/ emp p then 2 else AY1 N p l (Z7 h.Tree h.Tree.n).n
theorem Qo {N:Nat}(hN:3000000<=N){h:B3}(hi:Cx h){p:Sl BP}{l:Sl Aa}(hp:HV p)(hl:Ql l):AD N h p l=some (AF0 N h p l):=by
 unfold AD AF0;rw[Qk hN hi,AY7];by_cases h0:hres N h=0
 case neg=>rw[if_pos (show (hres N h != 0)=true by simpa using h0),if_pos h0]
 rw[if_neg (show ¬(hres N h != 0)=true by simp[h0]),if_neg (show ¬hres N h≠0 from fun g=>g h0)];have hok:=hres_zero.1 h0;have h63:=Xg hok.tree;rw[(NG hN hi.tree hok.tree).1,AY7];by_cases h256:256<l.n
 ·rw[if_pos (show (decide (256<(l.n:Int)))=true by simp;omega),if_pos h256]
 rw[if_neg (show ¬(decide (256<(l.n:Int)))=true by simp;omega),if_neg h256];have rest:(lt (fun (z1:Bool)=>
  if z1 then
   some (2:Int)
  else
   (M8 N l (((Z7 h.Tree h.Tree.n).n:Nat):Int)).bind fun y5=>
   if (y5 != 0) then
    some y5
   else
    (O2 N p).bind fun y6=>
    if (y6 != 0) then
     some y6
    else
     R5 N (fun self1 (x2:Int)=>
      if (decide (x2<(l.n:Int))) then
       if ((0:Int)<=x2/\x2<(l.n:Int))then
        (O2 N (l.g x2.toNat).Forms).bind fun y9=>
        if (y9 != 0) then
         some y9
        else
         self1 (wrap .i64 (x2+1))
       else none
      else
       some 0
      ) 0
  ) fun k1=>k1 false)=(if p.n=l.n then some (AY1 N p l (Z7 h.Tree h.Tree.n).n)else some 0) \/ p.n≠l.n:=by
  by_cases hpn:p.n=l.n
  case neg=>exact .inr hpn
  refine .inl ?_;rw[if_pos hpn];show (M8 N l (((Z7 h.Tree h.Tree.n).n:Nat):Int)).bind _=_;rw[Xf hN (by omega) (by omega) hl,AY7];unfold AY1;by_cases g1:Jf (e2 l (Z7 h.Tree h.Tree.n).n) l.n=0
  case neg=>rw[ON g1,ON g1,if_pos (by simpa using g1)]
  rw[NF g1,NF g1];by_cases g2:Jf (e15 l) l.n=0
  case neg=>rw[ON g2,ON g2,if_pos (by simpa using g2)]
  rw[NF g2,NF g2,if_neg (by decide),(Gx (by omega) (by omega) hp).1,AY7];by_cases g3:wsE N p=0
  case neg=>rw[ON g3,if_pos (by simpa using g3)]
  rw[NF g3,if_neg (by simp[g3])];have e0:∀a:Int,a=orE a 0:=fun a=>by
   by_cases h:a=0
   ·rw[NF h,h]
   ·rw[ON h]
  rw[e0 (Jf (fun i=>wsE N (l.g i).Forms) l.n)];have hk:∀i,i<l.n->(l.g i).Forms.n<900:=fun i hii=>by
   have:=(AP0 (Jh g1 i hii)).1;omega
  refine Ap5 (by omega) ?_ ?_ ?_
  ·intro self i hii hf;rw[if_pos (by simpa using hii),if_pos (by omega),AY3,(Gx (by omega) (hk i hii) (hl i hii).1).1,AY7,if_pos (by simpa using hf)]
  ·intro self i hii hf;rw[if_pos (by simpa using hii),if_pos (by omega),AY3,(Gx (by omega) (hk i hii) (hl i hii).1).1,AY7,if_neg (by simpa using hf),C0 (by omega)]
  ·intro self;rw[if_neg (by simp)]
 by_cases hpn:p.n=l.n
 case neg=>rw[if_pos (.inl hpn)];exact if_pos (by simp;omega)
 have hc:¬((p.n:Int) != (l.n:Int))=true:=by simp[hpn]
 rw[UJ (by omega) (by omega)];by_cases he:emp p
 ·rw[if_pos (.inr he),UI he];exact if_neg hc
 ·rw[if_neg (fun g=>g.elim (fun e=>e hpn) he),UH he];rcases rest with g|g
  ·rw[if_pos hpn]at g;exact (if_neg hc).trans g
  ·exact absurd hpn g
theorem NH {N:Nat}(hN:3000000<=N){h:B3}(hi:Cx h){p:Sl BP}{l:Sl Aa}(hp:HV p)(hl:Ql l):Dv N h p l=some (AF0 N h p l):=by
 unfold Dv AF0;rw[UC hN hi,AY7];by_cases h0:hres N h=0
 case neg=>rw[if_pos (show (hres N h != 0)=true by simpa using h0),if_pos h0]
 rw[if_neg (show ¬(hres N h != 0)=true by simp[h0]),if_neg (show ¬hres N h≠0 from fun g=>g h0)];have hok:=hres_zero.1 h0;have h63:=Xg hok.tree;by_cases h256:256<l.n
 ·rw[if_pos (show (decide (256<(l.n:Int)))=true by simp;omega),if_pos h256]
 rw[if_neg (show ¬(decide (256<(l.n:Int)))=true by simp;omega),if_neg h256,(NG hN hi.tree hok.tree).2,AY7];by_cases hpn:p.n=l.n
 case neg=>rw[if_pos (.inl hpn)];exact if_pos (by simp;omega)
 have hc:¬((p.n:Int) != (l.n:Int))=true:=by simp[hpn]
 rw[Qm (by omega) (by omega)];by_cases he:emp p
 ·rw[if_pos (.inr he),UI he];exact if_neg hc
 rw[if_neg (fun g=>g.elim (fun e=>e hpn) he),UH he];refine (if_neg hc).trans ?_;rw[AY7];refine (if_neg (by decide)).trans ?_;unfold AY1;have step:=fun (self:Option Int) (i:Nat)=>Yz (l:=l) (i:=i) (show (Z7 h.Tree h.Tree.n).n<900 by omega) (fun h=>Qm (N:=N) (s:=(l.g i).Forms) (by omega) (by omega)) self;have ent:∀(i:Nat) (self:Int->Option Int),i<l.n->(lt (fun (z4:Bool)=>
  if z4 then
   some (2:Int)
  else
   self (wrap .i64 ((i:Int)+1))
  ) fun k4=>
  if (((l.g i).Forms.n:Int) != (((Z7 h.Tree h.Tree.n).n:Nat):Int)) then
   k4 true
  else
   if ((0:Int)<=(i:Int)/\(i:Int)<(l.n:Int))then
    (AW N (l.g i).Forms).bind fun y10=>
    k4 (!y10)
   else none)=if e2 l (Z7 h.Tree h.Tree.n).n i≠0 then some (e2 l (Z7 h.Tree h.Tree.n).n i)else self (wrap .i64 ((i:Int)+1)):=fun i self hii=>by
  rw[<- step];unfold lt;dsimp only;rw[if_pos (show (0:Int)<=(i:Int)/\(i:Int)<(l.n:Int) by omega)]
 refine AW5 (by omega) ?_ ?_ ?_
 ·intro self i hii hf;rw[if_pos (by simpa using hii),if_pos (by omega),AY3,ent i self hii,if_pos hf]
 ·intro self i hii hf;rw[if_pos (by simpa using hii),if_pos (by omega),AY3,ent i self hii,if_neg (fun g=>g hf),C0 (by omega)]
 ·intro self g1;rw[if_neg (by simp)];refine Ap5 (by omega) ?_ ?_ ?_
  ·intro self i hii hf;rw[if_pos (by simpa using hii),if_pos (by omega),AY3,RO (by have:=(hl i hii).2;omega) (by have:=(hl i hii).2;omega),AY7];unfold e15 at hf⊢;by_cases h:FA (l.g i).Gloss=true
   ·exact absurd (if_pos h) hf
   ·rw[if_pos (by simpa using h),if_neg h]
  ·intro self i hii hf;rw[if_pos (by simpa using hii),if_pos (by omega),AY3,RO (by have:=(hl i hii).2;omega) (by have:=(hl i hii).2;omega),AY7];unfold e15 at hf;by_cases h:FA (l.g i).Gloss=true
   ·rw[if_neg (by simp[h]),C0 (by omega)]
   ·rw[if_neg h]at hf;cases hf
  ·intro self;rw[if_neg (by simp),(Gx (by omega) (by omega) hp).2,AY7];exact AB1 hN (by omega) (fun i=>wsE N (l.g i).Forms) (fun i hii=>(Gx (by omega) (by have:=(AP0 (Jh g1 i hii)).1;omega) (hl i hii).1).2) (wsE N p)
theorem Ap6 {N:Nat}{h:B3}{p:Sl BP}{l:Sl Aa}(g:AF0 N h p l=0):NE N h/\l.n<=256/\p.n=l.n/\∀i,i<l.n->(l.g i).Forms.n=(Z7 h.Tree h.Tree.n).n:=by
 unfold AF0 at g;by_cases h0:hres N h≠0
 ·rw[if_pos h0]at g;exact absurd g h0
 rw[if_neg h0]at g;by_cases h1:256<l.n
 ·rw[if_pos h1]at g;cases g
 rw[if_neg h1]at g;by_cases h2:p.n≠l.n \/ emp p
 ·rw[if_pos h2]at g;cases g
 rw[if_neg h2]at g;exact⟨hres_zero.1 (Bn3.1 h0),by omega,Bb0 fun e=>h2 (.inl e),fun i hii=>(AP0 (Jh (AA9 g).1 i hii)).1⟩
open Classical in
noncomputable def Ld (P:Nat->Prop) (i:Nat) (x:Sl F9):Nat->Sl F9
 |0=>x
 |j+1=>if P j then (Ld P i x j).push ⟨(i:Int),(j:Int)⟩else Ld P i x j
theorem NI {P:Nat->Prop}{i:Nat}{x:Sl F9}{j:Nat}(h:P j):Ld P i x (j+1)=(Ld P i x j).push ⟨(i:Int),(j:Int)⟩:=if_pos h
theorem GK {P:Nat->Prop}{i:Nat}{x:Sl F9}{j:Nat}(h:¬P j):Ld P i x (j+1)=Ld P i x j:=if_neg h
theorem RU (P:Nat->Prop)(i:Nat)(x:Sl F9):∀j,(Ld P i x j).n<=x.n+j
 |0=>AZ0 _
 |j+1=>by
  have:=RU P i x j
  by_cases h:P j
  ·rw[NI h];show (Ld P i x j).n+1<=_;omega
  ·rw[GK h];omega
noncomputable def JS (P:Nat->Nat->Prop) (m:Nat):Nat->Sl F9
 |0=>(Sl.nil:Sl F9)
 |i+1=>Ld (P i) i (JS P m i) m
theorem Ap7 (P:Nat->Nat->Prop)(m:Nat)(hm:m<=63):∀i,(JS P m i).n<=i*63
 |0=>AZ0 _
 |i+1=>by
  have:=Ap7 P m hm i
  have:=RU (P i) i (JS P m i) m
  show (Ld (P i) i (JS P m i) m).n<=_;omega
def FB (N:Nat)(h:B3)(p:Sl BP)(l:Sl Aa)(i j:Nat):Prop:=
 (p.g i).Has=true/\((l.g i).Forms.g j).Has=true/\∃r,Q9 N h ((Z7 h.Tree h.Tree.n).g j)=some r/\miL N r.1 (p.g i).W ((l.g i).Forms.g j).W≠[]
theorem Ap8 {N:Nat}(hN:3000000<=N){h:B3}(hi:Cx h)(hok:NE N h)(v:Int) :∃s s' e,Q9 N h v=some (s,e)/\CX N h v=some (s',e)/\LS s' s/\AE s' /\ s.n<=64:=by
 obtain⟨s,s',el,l1,l2,hls,hl3⟩:=AA5 hN hi v;have hs:AE s' /\ s.n<=64:=by
  rcases hl3 with⟨_,_,g1,g2,hse⟩ | ⟨_,hz⟩
  ·obtain⟨k,rfl⟩:∃k:Nat,v=(k:Int):=⟨v.toNat,by omega⟩;have hk:k<h.Tree.n:=by omega
   rw[AY3]at hse;have hb:=Xc hok k k (AZ0 _) hk;refine⟨fun i hii=>?_,?_⟩
   ·rw[hse.2 i hii];exact AA6 hi hb i (by have:=hse.1;omega)
   ·have g1:=hls.1;have g2:=hse.1;have g3:(Y1 h k).n<=64:=Bl4 fun g=>hok.long ⟨k,by have:=hok.on;omega,g⟩;have g4:(AO7 h (Y1 h k)).n=(Y1 h k).n:=rfl;omega
  ·exact⟨fun i hii=>by have:=hls.1;omega,by omega⟩
 exact⟨s,s',el,l1,l2,hls,hs.1,hs.2⟩
theorem AW7 {laws laws' : Sl Law}(h:LS laws laws'){i:Nat}(hi:i<laws.n):LS (Ad2 laws i) (Ad2 laws' i):=by
 have h1:=h.1;refine⟨by show i+(laws.n-(i+1))=i+(laws'.n-(i+1));omega,fun j hj=>?_⟩;have hj:j<i+(laws.n-(i+1)):=hj;show LE (if j<i then laws.g j else laws.g (i+1+(j-i))) (if j<i then laws'.g j else laws'.g (i+1+(j-i)));split
 ·exact h.2 _ (by omega)
 ·exact h.2 _ (by omega)
theorem miL_S {N:Nat}(hN:3000000<=N){laws laws' : Sl Law}(hl:AE laws)(hls:LS laws laws'){v w:Sl Sound}(hv:okA v):miL N laws v w=miL N laws' v w:=by unfold miL;rw[<- hls.1,gv_S hN hl hls (SE.refl v) hv (SE.refl w),Ab9 fun i _ hi=>gv_S hN (Qi hl (show i<laws.n by omega)) (AW7 hls (by omega)) (SE.refl v) hv (SE.refl w)]
theorem AW8 {N:Nat}{laws:Sl Law}{v w:Sl Sound}{s:Sl Int}(h:s.toList=miL N laws v w):(decide (0<(s.n:Int)))=true↔miL N laws v w≠[]:=by
 rw[tl_n h,decide_eq_true_eq];cases miL N laws v w
 ·simp
 ·simp
theorem Xh {N:Nat}(hN:3000000<=N){h:B3}(hi:Cx h){p:Sl BP}{l:Sl Aa}(hp:HV p)(hl:Ql l) :∃e s,X9 N h p l=some (s,e)/\BC N h p l=some (s,e)/\s.n<=20000:=by
 unfold X9 BC;by_cases h0:AF0 N h p l=0
 case neg=>exact⟨AF0 N h p l,_,eqR (B4 (Qo hN hi hp hl) (ifT (by simpa using h0) ⟨_,rfl,rfl⟩)),eqR (B4 (NH hN hi hp hl) (ifT (by simpa using h0) ⟨_,rfl,rfl⟩)),Bi2 _⟩
 obtain⟨hok,h256,hpn,hfn⟩:=Ap6 h0;have hm:=Xg hok.tree;obtain⟨t1,t2⟩:=NG hN hi.tree hok.tree;generalize hS:Z7 h.Tree h.Tree.n=S at *;have hsz:=Ap7 (FB N h p l) S.n hm;refine⟨0,JS (FB N h p l) S.n l.n,?_,?_,by have:=hsz l.n;omega⟩
 ·
  refine eqR (B4 (Qo hN hi hp hl) (ifF (by simp[h0]) (B4 t1 ?_)));refine P6 (fun i x6 x7=>x7=(i:Int)/\x6=JS (FB N h p l) S.n i) l.n (fun r=>r=(JS (FB N h p l) S.n l.n,0)) (by omega) ⟨rfl,rfl⟩ ?_;rintro self i x6 x7 hle ⟨rfl,rfl⟩ hs;by_cases hlt:i<l.n
  case neg=>
   obtain rfl:i=l.n:=by omega
   exact ifF (by simp) ⟨_,rfl,rfl⟩
  refine ifT (by simpa using hlt) (ifT (by omega) ?_);rw[AY3];have hf:=hfn i hlt;have hz:=hsz i;refine P6 (fun j x14 x15=>x15=(j:Int)/\x14=Ld (FB N h p l i) i (JS (FB N h p l) S.n i) j) S.n _ (by omega) ⟨rfl,rfl⟩ ?_;rintro self2 j x14 x15 hle2 ⟨rfl,rfl⟩ hs2;by_cases hlt2:j<S.n
  case neg=>
   obtain rfl:j=S.n:=by omega
   rw[C0 (i:=i) (by omega)];exact ifF (by rw[hf];simp) (hs hlt _ _ ⟨rfl,rfl⟩)
  refine ifT (by rw[hf];simpa using hlt2) (ifT (by rw[hf];omega) (ifT (fun _=>by omega) ?_));rw[AY3,C0 (by omega)];have hz2:=RU (FB N h p l i) i (JS (FB N h p l) S.n i) j;by_cases hb:((l.g i).Forms.g j).Has=true/\(p.g i).Has=true
  case neg=>exact ifT (by cases g1:((l.g i).Forms.g j).Has<;>cases g2:(p.g i).Has<;>first|rfl|exact absurd ⟨g1,g2⟩ hb) (hs2 hlt2 _ _ ⟨rfl,(GK (fun g=>hb ⟨g.2.1,g.1⟩)).symm⟩)
  refine ifF (by simp[hb]) (ifT (by show ((0:Int)<=(j:Int)/\(j:Int)<(S.n:Int))/\j<S.n;omega) ?_);obtain⟨s,s',el,l1,l2,hls,hin,hs64⟩:=Ap8 hN hi hok (S.g j);have hin2:=RM hls hin;refine B4 l1 (ifT (by omega) (B4 (x:=(s,(p.g i).W,((l.g i).Forms.g j).W)) rfl (B4 (Qj hN hin2 (by omega) (hp i (by omega))).1 ?_)));have key:FB N h p l i j↔miL N s (p.g i).W ((l.g i).Forms.g j).W≠[]:=by
   unfold FB;rw[hS];constructor
   ·rintro⟨_,_,r,g1,g2⟩;rw[l1]at g1;cases g1;exact g2
   ·exact fun g=>⟨hb.2,hb.1,_,l1,g⟩
  cases hL:miL N s (p.g i).W ((l.g i).Forms.g j).W with
  |nil=>exact hs2 hlt2 _ _ ⟨rfl,(GK (fun g=>key.1 g hL)).symm⟩
  |cons a L=>exact ifT ⟨by show (_+1)*16<=_;omega,by show _+1<=_;omega⟩ (hs2 hlt2 _ _ ⟨rfl,(NI (key.2 (by rw[hL];simp))).symm⟩)
 ·
  refine eqR (B4 (NH hN hi hp hl) (ifF (by simp[h0]) (B4 t2 ?_)));refine P6 (fun i x6 x7=>x7=(i:Int)/\x6=JS (FB N h p l) S.n i) l.n (fun r=>r=(JS (FB N h p l) S.n l.n,0)) (by omega) ⟨rfl,rfl⟩ ?_;rintro self i x6 x7 hle ⟨rfl,rfl⟩ hs;by_cases hlt:i<l.n
  case neg=>
   obtain rfl:i=l.n:=by omega
   exact ifF (by simp) ⟨_,rfl,rfl⟩
  refine ifT (by simpa using hlt) ?_;have hf:=hfn i hlt;have hz:=hsz i;refine P6 (fun j x14 x15=>x15=(j:Int)/\x14=Ld (FB N h p l i) i (JS (FB N h p l) S.n i) j) S.n _ (by omega) ⟨rfl,rfl⟩ ?_;rintro self2 j x14 x15 hle2 ⟨rfl,rfl⟩ hs2;by_cases hlt2:j<S.n
  case neg=>
   obtain rfl:j=S.n:=by omega
   rw[C0 (i:=i) (by omega)];exact ifF (by simp) (hs hlt _ _ ⟨rfl,rfl⟩)
  refine ifT (by simpa using hlt2) ?_;rw[AY3,AY3,C0 (by omega)];refine ifT ⟨by omega,by rw[hf];omega⟩ (ifT (by show ((0:Int)<=(j:Int)/\(j:Int)<(S.n:Int))/\j<S.n;omega) ?_);have hz2:=RU (FB N h p l i) i (JS (FB N h p l) S.n i) j;obtain⟨s,s',el,l1,l2,hls,hin,hs64⟩:=Ap8 hN hi hok (S.g j);refine B4 l2 (ifT (by omega) ?_);by_cases hb2:(p.g i).Has=true
  case neg=>exact ifF hb2 (hs2 hlt2 _ _ ⟨rfl,(GK (fun g=>hb2 g.1)).symm⟩)
  by_cases hb1:((l.g i).Forms.g j).Has=true
  case neg=>exact ifT hb2 (ifF hb1 (hs2 hlt2 _ _ ⟨rfl,(GK (fun g=>hb1 g.2.1)).symm⟩))
  obtain⟨q,q1,q2⟩:=(Qj hN hin (by have:=hls.1;omega) (hp i (by omega)) (w:=((l.g i).Forms.g j).W)).2;refine ifT hb2 (ifT hb1 (ifT (by omega) (B4 q1 ?_)));have key:FB N h p l i j↔(decide (0<(q.n:Int)))=true:=by
   rw[AW8 q2,miL_S hN hin hls (hp i (by omega))];unfold FB;rw[hS];constructor
   ·rintro⟨_,_,r,g1,g2⟩;rw[l1]at g1;cases g1;exact g2
   ·exact fun g=>⟨hb2,hb1,_,l1,g⟩
  by_cases hq:(decide (0<(q.n:Int)))=true
  ·exact ifT hq (ifT ⟨by show (_+1)*16<=_;omega,by show _+1<=_;omega⟩ (hs2 hlt2 _ _ ⟨rfl,(NI (key.2 hq)).symm⟩))
  ·exact ifF hq (hs2 hlt2 _ _ ⟨rfl,(GK (fun g=>hq (key.1 g))).symm⟩)
theorem KH {N:Nat}(hN:3000000<=N)(hW:BY N=some true){h:B3}(hi:Cx h){p:Sl BP}{l:Sl Aa}(hp:HV p)(hl:Ql l):U8 N h p l=some true:=by
 refine isT.eq ?_;unfold U8;obtain⟨b,hb,_⟩:=AO8 hN hi;refine B4 hb ?_;by_cases hc:(((!b)||(decide (8<(l.n:Int))))||(decide (8<(p.n:Int))))=true
 ·exact ifT hc (B4 hW ⟨true,rfl,rfl⟩)
 refine ifF hc ?_;obtain⟨e,s,d1,d2,hn⟩:=Xh hN hi hp hl;refine B4 d1 (B4 d2 (ifF (by simp) ?_));refine BD (fun i x1=>x1=(i:Int)) s.n _ (by omega) rfl ?_;rintro self i x1 hle rfl hs;by_cases hlt:i<s.n
 ·refine ifT (by simpa using hlt) (ifT (by show ((((0:Int)<=(i:Int)/\(i:Int)<(s.n:Int))/\(i:Int).toNat<s.n)/\((0:Int)<=(i:Int)/\(i:Int)<(s.n:Int)))/\(i:Int).toNat<s.n;omega) (ifF (by simp) ?_));rw[C0 (by omega)];exact hs hlt _ rfl
 ·exact ifF (by simpa using hlt) (B4 hW ⟨true,rfl,rfl⟩)
end Go.AM
namespace Go.AM
set_option maxRecDepth 1000000
theorem YF:BY 4194304=some true:=by decide +kernel
end Go.AM
