/- What a law's walk and its plain proof need, part 8: no condition of its own. -/
import Derived.Test.YtegikiijkjlikaaGreatDoorAmG
import Derived.Test.YtegikiijkjlikaaGreatDoorAmF
set_option linter.unusedSimpArgs false
set_option linter.unusedVariables false
set_option linter.unusedSectionVars false
set_option linter.unusedVariables false
namespace Go.AM
open Go.Proofs
def dep:Nat->Pat->Prop
 | 0,_=>False
 | d+1,p=>p.L.n<=40/\∀ i,i < p.L.n->dep d (p.L.g i)
theorem Cs1:∀ (d:Nat) (p:Pat),dep d p->∀ e,d<=e->dep e p
 | 0,_,h,_,_=>h.elim
 | d+1,p,h,0,he=>by omega
 | d+1,p,h,e+1,he=>⟨h.1,fun i hi=>Cs1 d _ (h.2 i hi) e (by omega)⟩
theorem Bz5 {N:Nat} (hN:1000<=N):∀ (d:Nat),d<=40->∀ (p:Pat) (M:Nat),N+d+2<=M->∃ r:Nat,Aa2 M p ((40 - d:Nat):Int)=some (r:Int)/\40 - d < r/\r<=41/\(r<=40->dep (d+1) p)
 | d,hd,p,0,hM=>by omega
 | d,hd,p,M+1,hM=>by
  have:∃ x,Aa2 (M+1) p ((40 - d:Nat):Int)=some x/\∃ r:Nat,x=(r:Int)/\40 - d < r/\r<=41/\(r<=40->dep (d+1) p):=by
   show ∃ x,Ac5 (Aa2 M) M p _=some x/\_
   unfold Ac5
   rw [C0 (by omega)]
   refine Z1 (fun i x1 x2=>x2=(i:Int)/\∃ k:Nat,x1=(k:Int)/\40 - d+1+i<=k/\k<=41/\i<=p.L.n/\(k<=40->∀ j,j < i->dep d (p.L.g j))) 41 _ (by omega) ⟨rfl,40 - d+1,rfl,by omega,by omega,by omega,fun _ j hj=>absurd hj (by omega)⟩ ?_
   rintro self i x1 x2 hi ⟨rfl,k,rfl,h1,h2,h3,h4⟩ hs
   by_cases hc:i < p.L.n/\k<=40
   ·refine ifT (by simp only [Bool.and_eq_true,decide_eq_true_eq];omega) (ifT (by omega) ?_)
    obtain ⟨r,hr,r1,r2,r3⟩:=Bz5 hN (40 - k) (by omega) (p.L.g i) M (by omega)
    rw [show ((40 - (40 - k):Nat):Int)=(k:Int) by omega] at hr
    refine B0 (by rw [Int.toNat_natCast];exact hr) (hs (by omega) _ _ ⟨C0 (by omega),r,rfl,by omega,r2,by omega,fun hr40 j hj=>?_⟩)
    by_cases e:j=i
    ·subst e;exact Cs1 _ _ (r3 hr40) d (by omega)
    ·exact h4 hc.2 j (by omega)
   ·refine ifF (by simp only [Bool.and_eq_true,decide_eq_true_eq];omega) ⟨_,rfl,k,rfl,by omega,h2,fun hk=>⟨by omega,fun j hj=>h4 hk j (by omega)⟩⟩
  obtain ⟨x,h1,r,rfl,h2⟩:=this
  exact ⟨r,h1,h2⟩
theorem Ba6:∀ (d:Nat) (p:Pat),dep d p->∀ M,100+d<=M->∃ r,V7 M p=some r
 | 0,p,h,M,_=>h.elim
 | d+1,p,h,0,hM=>by omega
 | d+1,p,h,M+1,hM=>by
  suffices ∃ r,V7 (M+1) p=some r/\True by obtain ⟨r,h,_⟩:=this;exact ⟨r,h⟩
  show ∃ x,U0 (V7 M) M p=some x/\_
  unfold U0
  have hn:=h.1
  refine Z1 (fun i x1 x2=>x2=(i:Int)) p.L.n _ (by omega) rfl ?_
  rintro self i x1 x2 hi rfl hs
  by_cases hl:i < p.L.n
  ·obtain ⟨r,hr⟩:=Ba6 d (p.L.g i) (h.2 i hl) M (by omega)
   exact ifT (by simp;omega) (ifT (by omega) (B0 (by rw [Int.toNat_natCast];exact hr) (hs hl _ _ (C0 (by omega)))))
  ·exact ifF (by simp;omega) ⟨_,rfl,trivial⟩
theorem Co8 {N:Nat} (hN:2000<=N) (p:Pat):∃ r:Nat,Ap2 N p=some (r:Int)/\(r<=40->dep 41 p):=by
 obtain ⟨r,h1,_,_,h2⟩:=Bz5 (N:=1000) (by omega) 40 (by omega) p N (by omega)
 exact ⟨r,by unfold Ap2;rw [show Aa2 N p 0=some (r:Int) from h1];rfl,h2⟩
theorem AA6 {N:Nat} (hN:2000<=N) (laws:Sl Law):∃ r,P7 N laws=some r:=by
 suffices ∃ r,P7 N laws=some r/\True by obtain ⟨r,h,_⟩:=this;exact ⟨r,h⟩
 unfold P7
 refine Z1 (fun i x1 x2=>x2=(i:Int)) 301 _ (by omega) rfl ?_
 rintro self i x1 x2 hi rfl hs
 by_cases hc:i < laws.n/\i<=300
 ·refine ifT (by simp only [Bool.and_eq_true,decide_eq_true_eq];omega) (ifT (by omega) ?_)
  refine Z1 (fun j x7 x8=>x8=(j:Int)) 2 _ (by omega) rfl ?_
  rintro self2 j x7 x8 hj rfl hs2
  by_cases hl:j < 2
  ·refine ifT (by show decide ((j:Int) < ((2:Nat):Int))=true;simp;omega) (ifT (by show (0:Int)<=(j:Int)/\(j:Int) < ((2:Nat):Int);omega) ?_)
   obtain ⟨r,hr,hd⟩:=Co8 hN ((Sl.of [(laws.g (i:Int).toNat).Left,(laws.g (i:Int).toNat).Right]:Sl Pat).g (j:Int).toNat)
   refine B0 hr ?_
   by_cases h40:r<=40
   ·obtain ⟨q,hq⟩:=Ba6 41 _ (hd h40) N (by omega)
    exact ifT (by simp;omega) (B0 hq (hs2 hl _ _ (C0 (by omega))))
   ·exact ifF (by simp;omega) (hs2 hl _ _ (C0 (by omega)))
  ·exact ifF (by show ¬ decide ((j:Int) < ((2:Nat):Int))=true;simp;omega) (hs (by omega) _ _ (C0 (by omega)))
 ·exact ifF (by simp only [Bool.and_eq_true,decide_eq_true_eq];omega) ⟨_,rfl,trivial⟩
theorem Aq0 {N:Nat} (hN:3000000<=N) {laws:Sl Law} (hl:N2 laws) {v w:Sl Sound} (hv:okA v) (hw:okA w) :
 ∃ e,H4 N laws (Sl.of [v,w]:Sl (Sl Sound))=some e/\U5 N laws v w=some e/\(e=0 ↔ Ai2 N laws/\wOk v/\wOk w):=by
 obtain ⟨e,e1,e2,he⟩:=AA5 hN hl
 unfold H4 U5
 rw [e1,e2,Option.bind_some,Option.bind_some]
 by_cases h0:e=0
 case neg=>
  rw [if_pos (by simpa using h0),if_pos (by simpa using h0)]
  exact ⟨e,rfl,rfl,fun h=>absurd h h0,fun h=>absurd (Ae8 he (lawsE_zero.2 h.1)) h0⟩
 rw [if_neg (by simp [h0]),if_neg (by simp [h0])]
 subst h0
 have hok:=lawsE_zero.1 he
 obtain ⟨a,a1,ha⟩:=Bj0 (N:=N) hN (l:=(Sl.of [v,w]:Sl (Sl Sound))) (by show 2 < _;omega) fun i hi=>by
  match i,hi with
  | 0,_=>exact hv
  | 1,_=>exact hw
 obtain ⟨b,b1,hb⟩:=Ap9 (N:=N) (by omega) hv
 obtain ⟨c,c1,hc⟩:=Ap9 (N:=N) (by omega) hw
 rw [b1,c1,Option.bind_some]
 refine ⟨a,a1, ?_, ?_⟩
 ·rcases ha with ⟨rfl,h⟩ | ⟨i,hi,h1,h2,h3⟩
  ·rw [if_neg (by rw [(R5 hb).2 (h 0 (by show 0 < 2;omega))];decide),Option.bind_some,(R5 hc).2 (h 1 (by show 1 < 2;omega))]
  ·match i,hi with
   | 0,_=>
    obtain rfl:a=b:=AJ6 h2 hb
    rw [if_pos (by simpa using h3)]
   | 1,_=>
    obtain rfl:a=c:=AJ6 h2 hc
    rw [if_neg (by rw [(R5 hb).2 (h1 0 (by omega))];decide),Option.bind_some]
 ·rcases ha with ⟨rfl,h⟩ | ⟨i,hi,h1,h2,h3⟩
  ·exact ⟨fun _=>⟨hok,h 0 (by show 0 < 2;omega),h 1 (by show 1 < 2;omega)⟩,fun _=>rfl⟩
  ·refine ⟨fun h=>absurd h h3,fun ⟨_,h4,h5⟩=>?_⟩
   match i,hi with
   | 0,_=>exact (R5 h2).2 h4
   | 1,_=>exact (R5 h2).2 h5
theorem Ae9 {laws:Sl Law} (hl:N2 laws) (k:Nat):N2 (laws.drop k):=fun i hi=>hl _ (by have hi:i < laws.n - k:=hi;omega)
abbrev BT0 (l:Sl O1):Prop:=∀ j,j < l.n->okA (l.g j).From/\okA (l.g j).To
def AT2 (N:Nat) (laws:Sl Law) (l:Sl O1) (i:Nat):Bool:=decide (∀ j,j < l.n->gv N (laws.drop i) (l.g j).From (l.g j).To=true)
theorem AA7 {N:Nat} (hN:3000000<=N) {laws:Sl Law} (hl:N2 laws) (hn:laws.n<=1000) {l:Sl O1} (ho:BT0 l) (hln:l.n<=1000) :
 D4 N laws l=some (Az0 (AT2 N laws l) (laws.n+1) 0):=by
 have inner:∀ (self3:Int->Option (List Int)) (i:Nat),i<=laws.n->∀ (m j M:Nat),l.n<=j+m->m < M->(∀ q,q < j->gv N (laws.drop i) (l.g q).From (l.g q).To=true) ->
  Aa9 M (fun (self4:Int->Option (List Int)) (x4:Int)=>
   if (decide (x4 < (l.n:Int)))=true then
    if ((0:Int)<=x4/\x4 < (l.n:Int)) then
     if ((0:Int)<=(i:Int)/\(i:Int)<=(laws.n:Int)) then
      (F5 N (laws.drop (i:Int).toNat) (l.g x4.toNat).From (l.g x4.toNat).To).bind fun y9=>
      if (!y9)=true then
       self3 (IntKind.wrap .i64 ((i:Int)+1))
      else
       self4 (IntKind.wrap .i64 (x4+1))
     else none
    else none
   else
    Ab4 (i:Int) (
     self3 (IntKind.wrap .i64 ((i:Int)+1))
     )
   ) (j:Int)=if AT2 N laws l i=true then Ab4 (i:Int) (self3 ((i+1:Nat):Int)) else self3 ((i+1:Nat):Int):=by
  intro self3 i hi m
  induction m with
  | zero=>
   intro j M h hM hq
   obtain ⟨M,rfl⟩:∃ K,M=K+1:=⟨M - 1,by omega⟩
   rw [Q6,if_neg (by simp;omega),if_pos (by unfold AT2;exact decide_eq_true fun q hq2=>hq q (by omega)),C0 (by omega)]
  | succ m ih=>
   intro j M h hM hq
   obtain ⟨M,rfl⟩:∃ K,M=K+1:=⟨M - 1,by omega⟩
   by_cases hj:j < l.n
   case neg=>rw [Q6,if_neg (by simp;omega),if_pos (by unfold AT2;exact decide_eq_true fun q hq2=>hq q (by omega)),C0 (by omega)]
   have hg:=(AQ5 (N:=N) hN (Ae9 hl i) (SE.refl _) (SE.refl (l.g j).From) (ho j hj).1 (SE.refl (l.g j).To)).1
   rw [Q6,if_pos (by simp;omega),if_pos (by omega),if_pos (by omega),Int.toNat_natCast,Int.toNat_natCast,hg,Option.bind_some]
   cases hb:gv N (laws.drop i) (l.g j).From (l.g j).To
   ·rw [if_pos nf,if_neg,C0 (by omega)]
    unfold AT2
    intro h
    have:=of_decide_eq_true h j hj
    rw [hb] at this;cases this
   ·rw [if_neg (by simp),C0 (i:=j) (by omega)]
    exact ih (j+1) M (by omega) (by omega) fun q hq2=>by
     by_cases e:q=j
     ·subst e;exact hb
     ·exact hq q (by omega)
 unfold D4
 rw [C0 (by omega)]
 refine filI (P:=AT2 N laws l) (n:=laws.n+1) ?_ ?_ ?_ (laws.n+1) 0 N (by omega) (by omega)
 ·intro self i hi
  rw [if_neg (by simp;omega)]
 ·intro self i hi hp
  have e:=inner self i (by omega) l.n 0 N (by omega) (by omega) fun q hq=>absurd hq (by omega)
  rw [if_pos hp] at e
  rw [if_pos (by simp;omega)];exact e
 ·intro self i hi hp
  have e:=inner self i (by omega) l.n 0 N (by omega) (by omega) fun q hq=>absurd hq (by omega)
  rw [if_neg (by simp [hp])] at e
  rw [if_pos (by simp;omega)];exact e
def plL (N:Nat) (laws:Sl Law) (v w:Sl Sound):List Int:=Az0 (fun i=>gv N (laws.drop i) v w) (laws.n+1) 0
theorem Bp0 (N:Nat) (laws:Sl Law) (l:Sl O1) (h:l.n=1):Az0 (AT2 N laws l) (laws.n+1) 0=plL N laws (l.g 0).From (l.g 0).To:=by
 refine BS9 fun i _ _=>?_
 unfold AT2
 rw [Bool.eq_iff_iff,decide_eq_true_eq]
 constructor
 ·exact fun g=>g 0 (by omega)
 ·intro g j hj
  obtain rfl:j=0:=by omega
  exact g
theorem Ba7 {N:Nat} (hN:3000000<=N) {laws:Sl Law} (hl:N2 laws) (hn:laws.n<=1000) {v w:Sl Sound} (hv:okA v) :
 ∃ s,Ah1 N laws v w=some s/\s.toList=plL N laws v w:=by
 have hg:=fun i=>(AQ5 (N:=N) hN (Ae9 hl i) (SE.refl _) (SE.refl v) hv (SE.refl w)).2.1
 unfold Ah1
 obtain ⟨y,h1,h2⟩:=CH5 (P:=fun i=>gv N (laws.drop i) v w) (n:=laws.n+1) (k:=fun x=>some x) (body:=fun self1 (x1:Sl Int) (x2:Int)=>
  if (decide (x2<=(laws.n:Int)))=true then
   if ((0:Int)<=x2/\x2<=(laws.n:Int)) then
    (H5 N (laws.drop x2.toNat) v w).bind fun y3=>
    if y3=true then
     if ((x1.n+(Sl.of [x2]:Sl Int).n) * 8<=140737488355328/\x1.n+(Sl.of [x2]:Sl Int).n<=140737488355328) then
      self1 (x1.push x2) (IntKind.wrap .i64 (x2+1))
     else none
    else
     self1 x1 (IntKind.wrap .i64 (x2+1))
   else none
  else
   some x1) (fun self x i hi _=>by rw [if_neg (by simp;omega)])
  (fun self x i hi hx hp=>by
   rw [if_pos (by simp;omega),if_pos (by omega),Int.toNat_natCast,hg i,Option.bind_some,if_pos hp,if_pos (by show (x.n+1) * 8<=_/\x.n+1<=_;omega),C0 (by omega)])
  (fun self x i hi hx hp=>by
   have hp:gv N (laws.drop i) v w=false:=hp
   rw [if_pos (by simp;omega),if_pos (by omega),Int.toNat_natCast,hg i,Option.bind_some,if_neg (by simp [hp]),C0 (by omega)])
  (laws.n+1) 0 (Sl.nil:Sl Int) N (by omega) (by omega) (by show 0+_<=_;omega)
 exact ⟨y,h1,h2⟩
theorem Cf2 (N:Nat) (laws:Sl Law) (v w:Sl Sound):(plL N laws v w).length<=laws.n+1:=Bo9 _ _ 0
theorem BT1 {s:Sl Int} {L:List Int} (h:s.toList=L):s.n=L.length:=by rw [<- h,S1]
abbrev oneP (v w:Sl Sound):Sl O1:=Sl.of [(⟨v,w⟩:O1)]
theorem BN2 {v w:Sl Sound} (hv:okA v) (hw:okA w):BT0 (oneP v w):=fun j hj=>by
 match j,hj with
 | 0,_=>exact ⟨hv,hw⟩
theorem Aq1 {N:Nat} (hN:3000000<=N) {laws:Sl Law} (hl:N2 laws) {v w:Sl Sound} (hv:okA v) (hw:okA w) :
 ∃ e s s',I9 N laws v w=some (s,e)/\Ab3 N laws v w=some (s',e)/\(e=0 ↔ Ai2 N laws/\wOk v/\wOk w)/\s.toList=(if e=0 then plL N laws v w else [])/\s'.toList=(if e=0 then plL N laws v w else [])/\s.n<=1000/\s'.n<=1000:=by
 obtain ⟨e,e1,e2,he⟩:=Aq0 hN hl hv hw
 unfold I9 Ab3
 rw [e1,e2,Option.bind_some,Option.bind_some]
 by_cases h0:e=0
 case neg=>
  rw [if_pos (by simpa using h0),if_pos (by simpa using h0)]
  exact ⟨e,_,_,rfl,rfl,he,(if_neg h0).symm,(if_neg h0).symm,Nat.zero_le _,Nat.zero_le _⟩
 have h64:=(he.1 h0).1.1
 rw [if_neg (by simp [h0]),if_neg (by simp [h0]),G4,Option.bind_some]
 have hp:=AA7 hN hl (by omega) (BN2 hv hw) (by show 1<=_;omega)
 rw [Bp0 _ _ _ rfl] at hp
 have hlen:=Cf2 N laws v w
 obtain ⟨s,s1,s2⟩:=AQ6 (N:=N) (plL N laws v w) (by omega)
 obtain ⟨s',t1,t2⟩:=Ba7 (N:=N) (w:=w) hN hl (by omega) hv
 have hp:D4 N laws (Sl.of [(⟨v,w⟩:O1)])=some (plL N laws v w):=hp
 rw [hp,Option.bind_some,s1,t1]
 exact ⟨e,s,s',by rw [h0];rfl,by rw [h0];rfl,he,s2.trans (if_pos h0).symm,t2.trans (if_pos h0).symm,by rw [BT1 s2];omega,by rw [BT1 t2];omega⟩
theorem AT3 {N:Nat} (hN:3000000<=N) {laws:Sl Law} (hl:N2 laws) {v w:Sl Sound} (hv:okA v) (hw:okA w) :
 ∃ e L,O7 N laws v w=some ((⟨(Q5 L).1,(Q5 L).2.1⟩:G0),(Q5 L).2.2,e)/\AM6 N laws v w=some ((⟨(Q5 L).1,(Q5 L).2.1⟩:S4),(Q5 L).2.2,e)/\(e=0 ↔ Ai2 N laws/\wOk v/\wOk w)/\L=(if e=0 then plL N laws v w else []):=by
 obtain ⟨e,s,s',_,p2,he,_,hs',_,hs'n⟩:=Aq1 hN hl hv hw
 obtain ⟨e',e1,e2,he'⟩:=Aq0 hN hl hv hw
 refine ⟨e,_, ?_, ?_,he,rfl⟩
 ·unfold O7
  rw [e1,Option.bind_some]
  have hee:e' = e:=by
   have:Ab3 N laws v w=some (s',e):=p2
   unfold Ab3 at this
   rw [e2,Option.bind_some] at this
   by_cases h0:e' = 0
   ·rw [h0];exact (he.2 (he'.1 h0)).symm
   ·rw [if_pos (by simpa using h0)] at this
    exact congrArg Prod.snd (Option.some.inj this)
  subst hee
  by_cases h0:e' = 0
  case neg=>
   rw [if_pos (by simpa using h0),if_neg h0];rfl
  have h64:=(he.1 h0).1.1
  have hp:=AA7 hN hl (by omega) (BN2 hv hw) (by show 1<=_;omega)
  rw [Bp0 _ _ _ rfl] at hp
  have hp:D4 N laws (Sl.of [(⟨v,w⟩:O1)])=some (plL N laws v w):=hp
  rw [if_neg (by simp [h0]),if_pos h0,G4,Option.bind_some,hp,Option.bind_some,Bz4,Option.bind_some,h0]
 ·unfold AM6
  rw [p2,Option.bind_some,AJ9 s' (by omega),hs',Option.bind_some]
theorem AA8 {N:Nat} (hN:3000000<=N) {laws:Sl Law} (hl:N2 laws) {v w:Sl Sound} (hv:okA v) (hw:okA w) :
 ∃ e b,J0 N laws v w=some (b,e)/\Ay3 N laws v w=some (b,e)/\(e=0 ↔ Ai2 N laws/\wOk v/\wOk w)/\b=(if e=0 then gv N laws v w else false):=by
 obtain ⟨e,e1,e2,he⟩:=Aq0 hN hl hv hw
 unfold J0 Ay3
 rw [e1,e2,Option.bind_some,Option.bind_some]
 by_cases h0:e=0
 case neg=>
  rw [if_pos (by simpa using h0),if_pos (by simpa using h0)]
  exact ⟨e,_,rfl,rfl,he,(if_neg h0).symm⟩
 obtain ⟨g1,g2,_⟩:=AQ5 (N:=N) hN hl (SE.refl _) (SE.refl v) hv (SE.refl w)
 rw [if_neg (by simp [h0]),if_neg (by simp [h0]),g1,g2]
 exact ⟨e,_,by rw [h0];rfl,by rw [h0];rfl,he,(if_pos h0).symm⟩
def Cf3 (laws:Sl Law) (i:Nat):Sl Law:=(laws.take i).app (laws.drop (i+1))
theorem Bj1 {laws:Sl Law} (hl:N2 laws) {i:Nat} (hi:i < laws.n):N2 (Cf3 laws i):=fun j hj=>by
 have hj:j < i+(laws.n - (i+1)):=hj
 show Bo6 (if j < i then laws.g j else laws.g (i+1+(j - i)))
 split
 ·exact hl _ (by omega)
 ·exact hl _ (by omega)
theorem BH4 {N:Nat} {s:Sl (Sl Law)} (hn:s.n < 1000) (hN:1000<=N) (hs:∀ i,i < s.n->(s.g i).n<=3000000) :
 B8 N s=some (Cd4 s s.n):=by
 suffices h:∃ r,B8 N s=some r/\r=Cd4 s s.n by obtain ⟨r,h,rfl⟩:=h;exact h
 unfold B8
 refine Z1 (fun (i:Nat) (x1 x2:Int)=>x2=(i:Int)/\0<=x1/\x1<=(i:Int) * 3000000) s.n _ (by omega) ⟨rfl,Int.le_refl 0,by simp⟩ ?_
 rintro self i x1 x2 hi ⟨rfl,h0,h1⟩ hs2
 by_cases hl:i < s.n
 ·have:=hs i hl
  refine ifT (by simp;omega) (ifT (by omega) ?_)
  rw [Int.toNat_natCast,F2 (by omega) (by omega)]
  exact ifF (by simp;omega) (hs2 hl _ _ ⟨C0 (by omega),by omega,by omega⟩)
 refine ifF (by simp;omega) (B0 (x:=Sl.nil) ?_ ?_)
 ·unfold I0
  rw [if_pos (by omega)]
 refine Z1 (fun i x1 x2=>x2=(i:Int)/\x1=Cd4 s i) s.n _ (by omega) ⟨rfl,rfl⟩ ?_
 rintro self i x1 x2 hi ⟨rfl,rfl⟩ hs2
 by_cases hl:i < s.n
 ·have g1:=hs i hl
  have g2:=Cd5 s i (B:=3000000) fun j hj=>hs j (by omega)
  refine ifT (by simp;omega) (ifT ⟨by omega, ?_⟩ (hs2 hl _ _ ⟨C0 (by omega), ?_⟩))
  ·rw [Int.toNat_natCast];omega
  ·rw [Int.toNat_natCast];rfl
 ·exact ifF (by simp;omega) ⟨_,rfl,by congr 1;omega⟩
theorem BN3 {N:Nat} (hN:1000<=N) {a b:Sl Law} (ha:a.n<=3000000) (hb:b.n<=3000000):B8 N (Sl.of [a,b]:Sl (Sl Law))=some (a.app b):=by
 rw [BH4 (by show 2 < 1000;omega) hN]
 ·show some (((Sl.nil:Sl Law).app a).app b)=_
  rw [Cd3 (s:=(Sl.nil:Sl Law)) rfl]
 ·intro i hi
  match i,hi with
  | 0,_=>exact ha
  | 1,_=>exact hb
def miL (N:Nat) (laws:Sl Law) (v w:Sl Sound):List Int:=if gv N laws v w=true then [] else Az0 (fun i=>gv N (Cf3 laws i) v w) laws.n 0
theorem BT2 {N:Nat} (hN:3000000<=N) {laws:Sl Law} (hl:N2 laws) (hn:laws.n<=1000) {v w:Sl Sound} (hv:okA v) :
 R4 N laws v w=some (miL N laws v w)/\∃ s,Ay4 N laws v w=some s/\s.toList=miL N laws v w:=by
 obtain ⟨g1,g2,_⟩:=AQ5 (N:=N) hN hl (SE.refl _) (SE.refl v) hv (SE.refl w)
 have hg:=fun i (hi:i < laws.n)=>AQ5 (N:=N) hN (Bj1 hl hi) (SE.refl _) (SE.refl v) hv (SE.refl w)
 unfold R4 Ay4 miL
 rw [g1,g2,Option.bind_some,Option.bind_some]
 by_cases h0:gv N laws v w=true
 ·rw [if_pos h0,if_pos h0,if_pos h0]
  exact ⟨rfl,_,rfl,rfl⟩
 rw [if_neg h0,if_neg h0,if_neg h0]
 constructor
 ·refine filI (P:=fun i=>gv N (Cf3 laws i) v w) (n:=laws.n) ?_ ?_ ?_ laws.n 0 N (by omega) (by omega)
  ·intro self i hi
   rw [if_neg (by simp;omega)]
  ·intro self i hi hp
   rw [if_pos (by simp;omega),C0 (by omega),if_pos (by omega),Int.toNat_natCast,Int.toNat_natCast,BN3 (by omega) (by show i<=_;omega) (by show laws.n - (i+1)<=_;omega),Option.bind_some]
   show (F5 N (Cf3 laws i) v w).bind _=_
   rw [(hg i hi).1,Option.bind_some,if_pos hp]
  ·intro self i hi hp
   have hp:gv N (Cf3 laws i) v w=false:=hp
   rw [if_pos (by simp;omega),C0 (by omega),if_pos (by omega),Int.toNat_natCast,Int.toNat_natCast,BN3 (by omega) (by show i<=_;omega) (by show laws.n - (i+1)<=_;omega),Option.bind_some]
   show (F5 N (Cf3 laws i) v w).bind _=_
   rw [(hg i hi).1,Option.bind_some,if_neg (by simp [hp])]
 ·obtain ⟨y,h1,h2⟩:=CH5 (P:=fun i=>gv N (Cf3 laws i) v w) (n:=laws.n) (k:=fun x=>some x) (body:=fun self1 (x1:Sl Int) (x2:Int)=>
   if (decide (x2 < (laws.n:Int)))=true then
    if (((((0:Int)<=x2/\x2<=(laws.n:Int))/\(((Sl.of []:Sl Law).n+(laws.take x2.toNat).n) * 200<=140737488355328/\(Sl.of []:Sl Law).n+(laws.take x2.toNat).n<=140737488355328))/\((0:Int)<=(IntKind.wrap .i64 (x2+1))/\(IntKind.wrap .i64 (x2+1))<=(laws.n:Int)))/\((((Sl.of []:Sl Law).app (laws.take x2.toNat)).n+(laws.drop (IntKind.wrap .i64 (x2+1)).toNat).n) * 200<=140737488355328/\((Sl.of []:Sl Law).app (laws.take x2.toNat)).n+(laws.drop (IntKind.wrap .i64 (x2+1)).toNat).n<=140737488355328)) then
     (H5 N (((Sl.of []:Sl Law).app (laws.take x2.toNat)).app (laws.drop (IntKind.wrap .i64 (x2+1)).toNat)) v w).bind fun y4=>
     if y4=true then
      if ((x1.n+(Sl.of [x2]:Sl Int).n) * 8<=140737488355328/\x1.n+(Sl.of [x2]:Sl Int).n<=140737488355328) then
       self1 (x1.push x2) (IntKind.wrap .i64 (x2+1))
      else none
     else
      self1 x1 (IntKind.wrap .i64 (x2+1))
    else none
   else
    some x1) (fun self x i hi _=>by rw [if_neg (by simp;omega)])
   (fun self x i hi hx hp=>by
    rw [if_pos (by simp;omega),C0 (by omega),Cd3 (s:=(Sl.of []:Sl Law)) rfl,Int.toNat_natCast,Int.toNat_natCast,if_pos ⟨⟨⟨by omega,by show (0+i) * 200<=_/\0+i<=_;omega⟩,by omega⟩,by show (i+(laws.n - (i+1))) * 200<=_/\i+(laws.n - (i+1))<=_;omega⟩]
    show (H5 N (Cf3 laws i) v w).bind _=_
    rw [(hg i hi).2.1,Option.bind_some,if_pos hp,if_pos (by show (x.n+1) * 8<=_/\x.n+1<=_;omega)])
   (fun self x i hi hx hp=>by
    have hp:gv N (Cf3 laws i) v w=false:=hp
    rw [if_pos (by simp;omega),C0 (by omega),Cd3 (s:=(Sl.of []:Sl Law)) rfl,Int.toNat_natCast,Int.toNat_natCast,if_pos ⟨⟨⟨by omega,by show (0+i) * 200<=_/\0+i<=_;omega⟩,by omega⟩,by show (i+(laws.n - (i+1))) * 200<=_/\i+(laws.n - (i+1))<=_;omega⟩]
    show (H5 N (Cf3 laws i) v w).bind _=_
    rw [(hg i hi).2.1,Option.bind_some,if_neg (by simp [hp])])
   laws.n 0 (Sl.nil:Sl Int) N (by omega) (by omega) (by show 0+_<=_;omega)
  exact ⟨y,h1,h2⟩
theorem CA2 (N:Nat) (laws:Sl Law) (v w:Sl Sound):(miL N laws v w).length<=laws.n:=by
 unfold miL
 split
 ·exact Nat.zero_le _
 ·exact Bo9 _ _ 0
theorem BT3 {N:Nat} (hN:3000000<=N) {laws:Sl Law} (hl:N2 laws) {v w:Sl Sound} (hv:okA v) (hw:okA w) :
 ∃ e s s',S0 N laws v w=some (s,e)/\AQ1 N laws v w=some (s',e)/\(e=0 ↔ Ai2 N laws/\wOk v/\wOk w)/\s.toList=(if e=0 then miL N laws v w else [])/\s'.toList=(if e=0 then miL N laws v w else [])/\s.n<=1000:=by
 obtain ⟨e,e1,e2,he⟩:=Aq0 hN hl hv hw
 unfold S0 AQ1
 rw [e1,e2,Option.bind_some,Option.bind_some]
 by_cases h0:e=0
 case neg=>
  rw [if_pos (by simpa using h0),if_pos (by simpa using h0)]
  exact ⟨e,_,_,rfl,rfl,he,(if_neg h0).symm,(if_neg h0).symm,Nat.zero_le _⟩
 have h64:=(he.1 h0).1.1
 rw [if_neg (by simp [h0]),if_neg (by simp [h0]),Af6,Option.bind_some]
 obtain ⟨hp,s',t1,t2⟩:=BT2 (N:=N) (w:=w) hN hl (by omega) hv
 have hlen:=CA2 N laws v w
 obtain ⟨s,s1,s2⟩:=Bz3 (N:=N) (miL N laws v w) (by omega)
 rw [hp,Option.bind_some,s1,t1]
 exact ⟨e,s,s',by rw [h0];rfl,by rw [h0];rfl,he,s2.trans (if_pos h0).symm,t2.trans (if_pos h0).symm,by rw [BT1 s2];omega⟩
end Go.AM
set_option linter.unusedVariables false
namespace Go.AM
open Go.Proofs
theorem BT4:N2 (Sl.nil:Sl Law):=fun i hi=>absurd hi (Nat.not_lt_zero i)
theorem BT5 (N:Nat):Ai2 N (Sl.nil:Sl Law):=⟨Nat.zero_le _,fun i hi=>absurd hi (Nat.not_lt_zero i)⟩
def AF3 (l:Sl O1):Prop:=∀ j,j < l.n->wOk (l.g j).From/\wOk (l.g j).To
theorem Bz6 {N:Nat} (hN:3000000<=N) {laws:Sl Law} (hl:N2 laws) {l:Sl O1} (ho:BT0 l) :
 ∃ e,K0 N laws l=some e/\As5 N laws l=some e/\(e=0 ↔ Ai2 N laws/\l.n<=256/\AF3 l):=by
 obtain ⟨e,e1,e2,he⟩:=AA5 hN hl
 unfold K0 As5
 rw [e1,e2,Option.bind_some,Option.bind_some]
 by_cases h0:e=0
 case neg=>
  rw [if_pos (by simpa using h0),if_pos (by simpa using h0)]
  exact ⟨e,rfl,rfl,fun h=>absurd h h0,fun h=>absurd (Ae8 he (lawsE_zero.2 h.1)) h0⟩
 rw [if_neg (show ¬ (e != 0)=true by simp [h0]),if_neg (show ¬ (e != 0)=true by simp [h0])]
 subst h0
 have hok:=lawsE_zero.1 he
 by_cases hn:256 < l.n
 ·have hc:decide ((256:Int) < (l.n:Int))=true:=by simp;omega
  rw [if_pos hc,if_pos hc]
  exact ⟨12,rfl,rfl,fun h=>absurd h (by decide),fun h=>by have:=h.2.1;omega⟩
 have hc:¬ decide ((256:Int) < (l.n:Int))=true:=by simp;omega
 rw [if_neg hc,if_neg hc]
 clear hc
 have hc:∀ j,∃ a,j < l.n->H4 N (Sl.nil:Sl Law) (Sl.of [(l.g j).From,(l.g j).To]:Sl (Sl Sound))=some a/\U5 N (Sl.nil:Sl Law) (l.g j).From (l.g j).To=some a/\(a=0 ↔ wOk (l.g j).From/\wOk (l.g j).To):=by
  intro j
  by_cases hj:j < l.n
  ·obtain ⟨a,h1,h2,h3⟩:=Aq0 hN BT4 (ho j hj).1 (ho j hj).2
   exact ⟨a,fun _=>⟨h1,h2,h3.trans ⟨fun h=>h.2,fun h=>⟨BT5 N,h⟩⟩⟩⟩
  ·exact ⟨0,fun h=>absurd h hj⟩
 obtain ⟨f,hf⟩:=Classical.axiomOfChoice hc
 let Q:Int->Prop:=fun e=>(e=0/\AF3 l) \/ (∃ i,i < l.n/\(∀ j,j < i->f j=0)/\e=f i/\e ≠ 0)
 have hQ:∀ a b,Q a->Q b->a=b:=by
  rintro a b (⟨rfl,h⟩ | ⟨i,hi,h1,rfl,h3⟩) (⟨rfl,h'⟩ | ⟨j,hj,h1',rfl,h3'⟩)
  ·rfl
  ·exact absurd ((hf j hj).2.2.2 (h j hj)) h3'
  ·exact absurd ((hf i hi).2.2.2 (h' i hi)) h3
  ·by_cases g:i < j
   ·exact absurd (h1' i g) h3
   ·by_cases g' : j < i
    ·exact absurd (h1 j g') h3'
    ·rw [show i=j by omega]
 have p1:∃ e,(Aa9 N (fun (self1:Int->Option Int) (x1:Int)=>
  if (decide (x1 < (l.n:Int)))=true then
   if ((0:Int)<=x1/\x1 < (l.n:Int)) then
    (H4 N (Sl.nil:Sl Law) (Sl.of [(l.g x1.toNat).From,(l.g x1.toNat).To]:Sl (Sl Sound))).bind fun y4=>
    if (y4 != 0)=true then
     some y4
    else
     self1 (IntKind.wrap .i64 (x1+1))
   else none
  else
   some 0
  ) 0)=some e/\Q e:=by
  refine Ak9 (fun i x1=>x1=(i:Int)/\∀ j,j < i->f j=0) l.n _ (by omega) ⟨rfl,fun j hj=>absurd hj (by omega)⟩ ?_
  rintro self i x1 hi ⟨rfl,h⟩ hs
  by_cases hlt:i < l.n
  ·obtain ⟨a1,_,a3⟩:=hf i hlt
   refine ifT (by simp;omega) (ifT (by omega) (B0 (by rw [Int.toNat_natCast];exact a1) ?_))
   by_cases hz:f i=0
   ·refine ifF (by simp [hz]) (hs hlt _ ⟨C0 (by omega),fun j hj=>?_⟩)
    by_cases e:j=i
    ·subst e;exact hz
    ·exact h j (by omega)
   ·exact ifT (by simpa using hz) ⟨_,rfl, .inr ⟨i,hlt,h,rfl,hz⟩⟩
  ·exact ifF (by simp;omega) ⟨0,rfl, .inl ⟨rfl,fun j hj=>(hf j hj).2.2.1 (h j (by omega))⟩⟩
 have p2:∃ e,(Aa9 N (fun (self1:Int->Option Int) (x1:Int)=>
  if (decide (x1 < (l.n:Int)))=true then
   if (((0:Int)<=x1/\x1 < (l.n:Int))/\((0:Int)<=x1/\x1 < (l.n:Int))) then
    (U5 N (Sl.nil:Sl Law) (l.g x1.toNat).From (l.g x1.toNat).To).bind fun y4=>
    if (y4 != 0)=true then
     some y4
    else
     self1 (IntKind.wrap .i64 (x1+1))
   else none
  else
   some 0
  ) 0)=some e/\Q e:=by
  refine Ak9 (fun i x1=>x1=(i:Int)/\∀ j,j < i->f j=0) l.n _ (by omega) ⟨rfl,fun j hj=>absurd hj (by omega)⟩ ?_
  rintro self i x1 hi ⟨rfl,h⟩ hs
  by_cases hlt:i < l.n
  ·obtain ⟨_,a1,a3⟩:=hf i hlt
   refine ifT (by simp;omega) (ifT (by omega) (B0 (by rw [Int.toNat_natCast];exact a1) ?_))
   by_cases hz:f i=0
   ·refine ifF (by simp [hz]) (hs hlt _ ⟨C0 (by omega),fun j hj=>?_⟩)
    by_cases e:j=i
    ·subst e;exact hz
    ·exact h j (by omega)
   ·exact ifT (by simpa using hz) ⟨_,rfl, .inr ⟨i,hlt,h,rfl,hz⟩⟩
  ·exact ifF (by simp;omega) ⟨0,rfl, .inl ⟨rfl,fun j hj=>(hf j hj).2.2.1 (h j (by omega))⟩⟩
 obtain ⟨a,h1,g1⟩:=p1
 obtain ⟨b,h2,g2⟩:=p2
 obtain rfl:=hQ a b g1 g2
 refine ⟨a,h1,h2, ?_⟩
 rcases g1 with ⟨rfl,h⟩ | ⟨i,hi,h3,rfl,h5⟩
 ·exact ⟨fun _=>⟨hok,by omega,h⟩,fun _=>rfl⟩
 ·exact ⟨fun h=>absurd h h5,fun h=>absurd ((hf i hi).2.2.2 (h.2.2 i hi)) h5⟩
theorem Bz7 {R:Type} (k:Int->Option R):∀ (L:List Int) (z:Int),K4 L (fun (self4:Int->Option R) (x7:Int) (z3:Int)=>self4 x7) k z=k (L.getLastD z)
 | [],z=>rfl
 | a :: L,z=>by rw [K4,Bz7 k L a];cases L <;> rfl
def lyF (N:Nat) (laws:Sl Law) (p:O1):Int:=(plL N laws p.From p.To).getLastD (-1)
def lyL (N:Nat) (laws:Sl Law) (l:Sl O1):List Int:=(List.range l.n).map fun i=>lyF N laws (l.g i)
theorem Cf4 (L:List Int):L.getLastD (-1)=if (Q5 L).2.2=true then (Q5 L).2.1 else -1:=by
 cases L with
 | nil=>rfl
 | cons a L=>
  show _=(a :: L).getLast _
  rw [List.getLastD_eq_getLast?,List.getLast?_eq_some_getLast (by simp)];rfl
theorem Bp1 (N:Nat) (laws:Sl Law) (l:Sl O1) (i:Nat):(List.range (i+1)).map (fun i=>lyF N laws (l.g i))=(List.range i).map (fun i=>lyF N laws (l.g i)) ++ [lyF N laws (l.g i)]:=by
 rw [List.range_succ,List.map_append];rfl
theorem BT6 {N:Nat} (hN:3000000<=N) {laws:Sl Law} (hl:N2 laws) {l:Sl O1} (ho:BT0 l) :
 ∃ e s s',Z0 N laws l=some (s,e)/\AQ2 N laws l=some (s',e)/\(e=0 ↔ Ai2 N laws/\l.n<=256/\AF3 l)/\s.toList=(if e=0 then lyL N laws l else [])/\s'.toList=(if e=0 then lyL N laws l else [])/\s.n<=1000:=by
 obtain ⟨e,e1,e2,he⟩:=Bz6 hN hl ho
 unfold Z0 AQ2
 rw [e1,e2,Option.bind_some,Option.bind_some]
 by_cases h0:e=0
 case neg=>
  rw [if_pos (by simpa using h0),if_pos (by simpa using h0)]
  exact ⟨e,_,_,rfl,rfl,he,(if_neg h0).symm,(if_neg h0).symm,Nat.zero_le _⟩
 obtain ⟨hok,h256,hpo⟩:=he.1 h0
 have h64:=hok.1
 rw [if_neg (by simp [h0]),if_neg (by simp [h0])]
 have p1:∃ r,(T0 N (fun (self3:Sl Int->Int->Option ((Sl Int) × Int)) (x3:Sl Int) (x4:Int)=>
  if (decide (x4 < (l.n:Int)))=true then
   if ((0:Int)<=x4/\x4 < (l.n:Int)) then
    (G4 N laws (Sl.of [(l.g x4.toNat)]:Sl O1)).bind fun y4=>
    (D4 N y4.1 y4.2).bind fun L3=>
    K4 L3 (fun self4 (x7:Int) (z3:Int)=>
     self4 x7
     ) (fun (z3:Int)=>
      if ((x3.n+(Sl.of [z3]:Sl Int).n) * 8<=140737488355328/\x3.n+(Sl.of [z3]:Sl Int).n<=140737488355328) then
       self3 (x3.push z3) (IntKind.wrap .i64 (x4+1))
      else none
     ) (-1)
   else none
  else
   some (x3,0)
  ) (Sl.nil:Sl Int) 0)=some r/\r.2=0/\r.1.toList=lyL N laws l:=by
  refine Z1 (fun i x3 x4=>x4=(i:Int)/\x3.toList=(List.range i).map fun i=>lyF N laws (l.g i)) l.n _ (by omega) ⟨rfl,rfl⟩ ?_
  rintro self i x3 x4 hi ⟨rfl,h⟩ hs
  by_cases hlt:i < l.n
  ·refine ifT (by simp;omega) (ifT (by omega) ?_)
   rw [Int.toNat_natCast,G4,Option.bind_some]
   have hp:=AA7 hN hl (by omega) (l:=(Sl.of [l.g i]:Sl O1)) (fun j hj=>by
    match j,hj with
    | 0,_=>exact ho i hlt) (by show 1<=_;omega)
   rw [Bp0 _ _ _ rfl] at hp
   have hp:D4 N laws (Sl.of [l.g i]:Sl O1)=some (plL N laws (l.g i).From (l.g i).To):=hp
   have hx:=BT1 h
   rw [List.length_map,List.length_range] at hx
   refine B0 hp ?_
   rw [Bz7]
   exact ifT (by show (x3.n+1) * 8<=_/\x3.n+1<=_;omega) (hs hlt _ _ ⟨C0 (by omega),by rw [Ba4,h,Bp1];rfl⟩)
  ·exact ifF (by simp;omega) ⟨_,rfl,rfl,by rw [h,show i=l.n by omega];rfl⟩
 have p2:∃ r,(T0 N (fun (self1:Sl Int->Int->Option ((Sl Int) × Int)) (x1:Sl Int) (x2:Int)=>
  if (decide (x2 < (l.n:Int)))=true then
   if (((0:Int)<=x2/\x2 < (l.n:Int))/\((0:Int)<=x2/\x2 < (l.n:Int))) then
    (Ah1 N laws (l.g x2.toNat).From (l.g x2.toNat).To).bind fun y6=>
    (W4 N y6).bind fun y7=>
    if (!y7.2)=true then
     if ((x1.n+(Sl.of [(-1)]:Sl Int).n) * 8<=140737488355328/\x1.n+(Sl.of [(-1)]:Sl Int).n<=140737488355328) then
      self1 (x1.push (-1)) (IntKind.wrap .i64 (x2+1))
     else none
    else
     if ((x1.n+(Sl.of [y7.1.Last]:Sl Int).n) * 8<=140737488355328/\x1.n+(Sl.of [y7.1.Last]:Sl Int).n<=140737488355328) then
      self1 (x1.push y7.1.Last) (IntKind.wrap .i64 (x2+1))
     else none
   else none
  else
   some (x1,0)
  ) (Sl.nil:Sl Int) 0)=some r/\r.2=0/\r.1.toList=lyL N laws l:=by
  refine Z1 (fun i x3 x4=>x4=(i:Int)/\x3.toList=(List.range i).map fun i=>lyF N laws (l.g i)) l.n _ (by omega) ⟨rfl,rfl⟩ ?_
  rintro self i x3 x4 hi ⟨rfl,h⟩ hs
  by_cases hlt:i < l.n
  ·refine ifT (by simp;omega) (ifT (by omega) ?_)
   rw [Int.toNat_natCast]
   obtain ⟨s,s1,s2⟩:=Ba7 (N:=N) (w:=(l.g i).To) hN hl (by omega) (ho i hlt).1
   have hsn:=BT1 s2
   have hlen:=Cf2 N laws (l.g i).From (l.g i).To
   have hx:=BT1 h
   rw [List.length_map,List.length_range] at hx
   refine B0 s1 (B0 (AJ9 s (by omega)) ?_)
   have hla:=Cf4 (plL N laws (l.g i).From (l.g i).To)
   rw [s2]
   cases hb:(Q5 (plL N laws (l.g i).From (l.g i).To)).2.2
   ·rw [if_neg (by simp [hb])] at hla
    exact ifT (by simp) (ifT (by show (x3.n+1) * 8<=_/\x3.n+1<=_;omega) (hs hlt _ _ ⟨C0 (by omega),by rw [Ba4,h,Bp1];unfold lyF;rw [hla]⟩))
   ·rw [if_pos hb] at hla
    exact ifF (by simp) (ifT (by show (x3.n+1) * 8<=_/\x3.n+1<=_;omega) (hs hlt _ _ ⟨C0 (by omega),by rw [Ba4,h,Bp1];unfold lyF;rw [hla]⟩))
  ·exact ifF (by simp;omega) ⟨_,rfl,rfl,by rw [h,show i=l.n by omega];rfl⟩
 obtain ⟨⟨s,a⟩,h1,rfl,h2⟩:=p1
 obtain ⟨⟨s',b⟩,h3,rfl,h4⟩:=p2
 have hsn:s.n=(lyL N laws l).length:=BT1 h2
 refine ⟨e,s,s',by rw [h0];exact h1,by rw [h0];exact h3,he,h2.trans (if_pos h0).symm,h4.trans (if_pos h0).symm, ?_⟩
 unfold lyL at hsn
 rw [List.length_map,List.length_range] at hsn
 omega
def daL (N:Nat) (laws:Sl Law) (l:Sl O1):List Int:=Az0 (AT2 N laws l) (laws.n+1) 0
theorem AK0 {N:Nat} (hN:3000000<=N) {laws:Sl Law} (hl:N2 laws) {l:Sl O1} (ho:BT0 l) :
 ∃ e L,O9 N laws l=some ((⟨(Q5 L).1,(Q5 L).2.1⟩:G0),(Q5 L).2.2,e)/\AZ6 N laws l=some ((⟨(Q5 L).1,(Q5 L).2.1⟩:S4),(Q5 L).2.2,e)/\(e=0 ↔ Ai2 N laws/\l.n<=256/\AF3 l)/\L=(if e=0 then daL N laws l else []):=by
 obtain ⟨e,e1,e2,he⟩:=Bz6 hN hl ho
 unfold O9 AZ6
 rw [e1,e2,Option.bind_some,Option.bind_some]
 refine ⟨e,_, ?_, ?_,he,rfl⟩
 ·by_cases h0:e=0
  case neg=>rw [if_pos (by simpa using h0),if_neg h0];rfl
  obtain ⟨hok,h256,hpo⟩:=he.1 h0
  have h64:=hok.1
  rw [if_neg (by simp [h0]),if_pos h0,G4,Option.bind_some]
  show ((D4 N laws l).bind _)=_
  rw [AA7 hN hl (by omega) ho (by omega),Option.bind_some,Bz4,Option.bind_some,h0];rfl
 ·by_cases h0:e=0
  case neg=>rw [if_pos (by simpa using h0),if_neg h0];rfl
  obtain ⟨hok,h256,hpo⟩:=he.1 h0
  have h64:=hok.1
  rw [if_neg (by simp [h0]),if_pos h0]
  have inner:∀ (self3:Sl Int->Int->Option (S4 × Bool × Int)) (x3:Sl Int) (i:Nat),i<=laws.n->x3.n<=3000000->∀ (m j M:Nat) (b:Bool),l.n<=j+m->m < M->(b=true ↔ ∀ q,q < j->gv N (laws.drop i) (l.g q).From (l.g q).To=true)->j<=l.n ->
   T0 M (fun (self4:Bool->Int->Option (S4 × Bool × Int)) (x7:Bool) (x8:Int)=>
    if (decide (x8 < (l.n:Int)))=true then
     if x7=true then
      if ((((0:Int)<=(i:Int)/\(i:Int)<=(laws.n:Int))/\((0:Int)<=x8/\x8 < (l.n:Int)))/\((0:Int)<=x8/\x8 < (l.n:Int))) then
       (H5 N (laws.drop (i:Int).toNat) (l.g x8.toNat).From (l.g x8.toNat).To).bind fun y10=>
       self4 y10 (IntKind.wrap .i64 (x8+1))
      else none
     else
      self4 false (IntKind.wrap .i64 (x8+1))
    else
     if x7=true then
      if ((x3.n+(Sl.of [(i:Int)]:Sl Int).n) * 8<=140737488355328/\x3.n+(Sl.of [(i:Int)]:Sl Int).n<=140737488355328) then
       self3 (x3.push (i:Int)) (IntKind.wrap .i64 ((i:Int)+1))
      else none
     else
      self3 x3 (IntKind.wrap .i64 ((i:Int)+1))
    ) b (j:Int)=if AT2 N laws l i=true then self3 (x3.push (i:Int)) ((i+1:Nat):Int) else self3 x3 ((i+1:Nat):Int):=by
   intro self3 x3 i hi hx m
   have fin:∀ (M:Nat) (b:Bool),(b=true ↔ ∀ q,q < l.n->gv N (laws.drop i) (l.g q).From (l.g q).To=true)->(if b=true then
    if ((x3.n+(Sl.of [(i:Int)]:Sl Int).n) * 8<=140737488355328/\x3.n+(Sl.of [(i:Int)]:Sl Int).n<=140737488355328) then
     self3 (x3.push (i:Int)) (IntKind.wrap .i64 ((i:Int)+1))
    else none
    else
     self3 x3 (IntKind.wrap .i64 ((i:Int)+1)))=if AT2 N laws l i=true then self3 (x3.push (i:Int)) ((i+1:Nat):Int) else self3 x3 ((i+1:Nat):Int):=by
    intro M b hb
    have:AT2 N laws l i=b:=by
     unfold AT2
     rw [Bool.eq_iff_iff,hb,decide_eq_true_eq]
    rw [this,C0 (by omega),if_pos (show (x3.n+(Sl.of [(i:Int)]:Sl Int).n) * 8<=140737488355328/\x3.n+(Sl.of [(i:Int)]:Sl Int).n<=140737488355328 from by show (x3.n+1) * 8<=_/\x3.n+1<=_;omega)]
   induction m with
   | zero=>
    intro j M b h hM hb hj
    obtain ⟨M,rfl⟩:∃ K,M=K+1:=⟨M - 1,by omega⟩
    rw [E3,if_neg (by simp;omega)]
    exact fin M b (by rw [hb,show j=l.n by omega])
   | succ m ih=>
    intro j M b h hM hb hj
    obtain ⟨M,rfl⟩:∃ K,M=K+1:=⟨M - 1,by omega⟩
    by_cases hlt:j < l.n
    case neg=>
     rw [E3,if_neg (by simp;omega)]
     exact fin M b (by rw [hb,show j=l.n by omega])
    rw [E3,if_pos (by simp;omega),C0 (i:=j) (by omega)]
    cases b
    ·rw [if_neg (by simp)]
     refine ih (j+1) M false (by omega) (by omega) ?_ hlt
     have hb' : ¬ ∀ q,q < j->gv N (laws.drop i) (l.g q).From (l.g q).To=true:=fun h=>by have:=hb.2 h;cases this
     exact ⟨fun h=>(by cases h),fun h=>absurd (fun q hq=>h q (by omega)) hb'⟩
    ·have hg:=(AQ5 (N:=N) hN (Ae9 hl i) (SE.refl _) (SE.refl (l.g j).From) (ho j hlt).1 (SE.refl (l.g j).To)).2.1
     rw [if_pos rfl,if_pos (by omega),Int.toNat_natCast,Int.toNat_natCast,hg,Option.bind_some]
     refine ih (j+1) M _ (by omega) (by omega) ?_ hlt
     have hb:=hb.1 rfl
     constructor
     ·intro h q hq
      by_cases e:q=j
      ·subst e;exact h
      ·exact hb q (by omega)
     ·exact fun h=>h j (by omega)
  obtain ⟨y,h1,h2⟩:=CH5 (P:=AT2 N laws l) (n:=laws.n+1) (k:=fun x3=>(W4 N x3).bind fun y11=>some (y11.1,y11.2,(0:Int))) (body:=fun self3 (x3:Sl Int) (x4:Int)=>
   if (decide (x4<=(laws.n:Int)))=true then
    T0 N (fun self4 (x7:Bool) (x8:Int)=>
     if (decide (x8 < (l.n:Int)))=true then
      if x7=true then
       if ((((0:Int)<=x4/\x4<=(laws.n:Int))/\((0:Int)<=x8/\x8 < (l.n:Int)))/\((0:Int)<=x8/\x8 < (l.n:Int))) then
        (H5 N (laws.drop x4.toNat) (l.g x8.toNat).From (l.g x8.toNat).To).bind fun y10=>
        self4 y10 (IntKind.wrap .i64 (x8+1))
       else none
      else
       self4 false (IntKind.wrap .i64 (x8+1))
     else
      if x7=true then
       if ((x3.n+(Sl.of [x4]:Sl Int).n) * 8<=140737488355328/\x3.n+(Sl.of [x4]:Sl Int).n<=140737488355328) then
        self3 (x3.push x4) (IntKind.wrap .i64 (x4+1))
       else none
      else
       self3 x3 (IntKind.wrap .i64 (x4+1))
     ) true 0
   else
    (W4 N x3).bind fun y11=>
    some (y11.1,y11.2,0)) (fun self x i hi _=>by rw [if_neg (by simp;omega)])
   (fun self x i hi hx hp=>by
    have e:=inner self x i (by omega) hx l.n 0 N true (by omega) (by omega) ⟨fun _ q hq=>absurd hq (by omega),fun _=>rfl⟩ (by omega)
    rw [if_pos hp] at e
    rw [if_pos (by simp;omega)];exact e)
   (fun self x i hi hx hp=>by
    have e:=inner self x i (by omega) hx l.n 0 N true (by omega) (by omega) ⟨fun _ q hq=>absurd hq (by omega),fun _=>rfl⟩ (by omega)
    rw [if_neg (show ¬ AT2 N laws l i=true by simp [hp])] at e
    rw [if_pos (by simp;omega)];exact e)
   (laws.n+1) 0 (Sl.nil:Sl Int) N (by omega) (by omega) (by show 0+_<=_;omega)
  have hyl:y.toList=daL N laws l:=h2
  have hyn:=BT1 hyl
  have hlen:(daL N laws l).length<=laws.n+1:=Bo9 _ _ 0
  show T0 N _ (Sl.nil:Sl Int) ((0:Nat):Int)=_
  rw [h1,AJ9 y (by omega),hyl,Option.bind_some,h0]
end Go.AM
set_option linter.unusedVariables false
namespace Go.AM
open Go.Proofs
abbrev isT (o:Option Bool):Prop:=∃ r,o=some r/\r=true
theorem isT.eq {o:Option Bool} (h:isT o):o=some true:=by obtain ⟨r,h,rfl⟩:=h;exact h
theorem Cf5 {N:Nat} (hN:3000000<=N) (hW:B7 N=some true) {laws:Sl Law} (hl:N2 laws) {v w:Sl Sound} (hv:okA v) (hw:okA w):Ap8 N laws v w=some true:=by
 refine isT.eq ?_
 unfold Ap8
 obtain ⟨r,hr⟩:=AA6 (N:=N) (by omega) laws
 refine B0 hr ?_
 by_cases h0:((decide (4 < r)) || ((decide (8 < (laws.n:Int))) && (decide ((laws.n:Int)<=64))))=true
 ·exact ifT h0 (B0 hW ⟨true,rfl,rfl⟩)
 refine ifF h0 ?_
 obtain ⟨e,s,s',p1,p2,_,p3,p4,p5,p6⟩:=Aq1 hN hl hv hw
 obtain ⟨e2,L,q1,q2,_,_⟩:=AT3 hN hl hv hw
 obtain ⟨e3,b,n1,n2,_,_⟩:=AA8 hN hl hv hw
 refine B0 p1 (B0 p2 (B0 q1 (B0 q2 (B0 n1 (B0 n2 (B0 (Cf1 (by show s.n < N;omega) (by show s.n < _;omega) (p3.trans p4.symm)) (ltX ?_)))))))
 refine ifT rfl (ifT (by simp) (B0 (x:=true) (by unfold AA3;simp) (ifT rfl (ifT (by simp) (ifT (by simp) (ifT (by simp) (ifT (by simp) (B0 hW ⟨true,rfl,rfl⟩))))))))
theorem Bp2 {N:Nat} {laws:Sl Law} {v w:Sl Sound} {k:Nat} (hk:k<=laws.n):(k:Int) ∈ plL N laws v w ↔ gv N (laws.drop k) v w=true:=by
 unfold plL
 rw [AT1]
 constructor
 ·rintro ⟨j,h1,_,_,h2⟩
  rw [show k=j by omega];exact h2
 ·exact fun h=>⟨k,rfl,by omega,by omega,h⟩
theorem CH6 {α : Type} (s:Sl α):s.drop 0=s:=by cases s;simp [Sl.drop]
theorem BT7 {N:Nat} (hN:3000000<=N) {laws:Sl Law} (h0:laws.n=0) {v w:Sl Sound} (hv:wOk v):gv N laws v w=true ↔ SE v w:=by
 have hl:N2 laws:=fun i hi=>by omega
 have hls:SE laws (Sl.nil:Sl Law):=⟨h0,fun i hi=>by omega⟩
 have hvo:okA v:=fun i hi=>(hv.2 i hi).ok
 rw [(AQ5 hN hl hls (SE.refl v) hvo (SE.refl w)).2.2]
 obtain ⟨r,r',h1,h2,h3,h4,h5⟩:=AN2 hN hl (SE.refl laws) (SE.refl v) hvo
 have hok:Ai2 N laws:=⟨by omega,fun i hi=>by omega⟩
 have key:E8 N laws v=some (v,0):=by
  obtain ⟨e,e1,he⟩:=AF2 hN hl hvo
  have:e=0:=by
   rcases he with ⟨h,h'⟩ | ⟨_,h⟩
   ·exact Ae8 h (lawsE_zero.2 hok)
   ·exact (R5 h).2 hv
  subst this
  have h32:=hv.1
  have hclone:B2 N v=some v:=by
   unfold B2
   rw [if_pos (by omega)]
  have hf:T0 N (Ah2 N 0 laws) v 0=some []:=by
   obtain ⟨M,rfl⟩:∃ K,N=K+1:=⟨N - 1,by omega⟩
   rw [E3,Ah2,if_neg (by simp;omega),if_pos rfl]
  have hout:C9 N 0 laws v=some v:=by
   unfold C9 Y9 Q9
   rw [Option.bind_some,hclone,Option.bind_some]
   show (Ab4 (0,v) (T0 N (Ah2 N 0 laws) v 0)).bind _=_
   rw [hf];rfl
  unfold E8 H8
  rw [e1,Option.bind_some,if_neg (by decide),hout];rfl
 constructor
 ·rintro ⟨q,hq,_,h⟩
  rw [key] at hq
  obtain rfl:=Option.some.inj hq
  exact h
 ·exact fun h=>⟨_,key,rfl,h⟩
theorem Cf6 {L:List Int}:(Q5 L).2.2=decide (0 < L.length):=by cases L <;> simp [Q5]
theorem Bp3 {N:Nat} (hN:3000000<=N) (hW:B7 N=some true) {laws:Sl Law} (hl:N2 laws) {v w:Sl Sound} (hv:okA v) (hvn:v.n < 2000000) (hw:okA w):Ad2 N laws v w=some true:=by
 refine isT.eq ?_
 unfold Ad2
 obtain ⟨r,hr⟩:=AA6 (N:=N) (by omega) laws
 refine B0 hr ?_
 by_cases h0:decide (4 < r)=true
 ·exact ifT h0 (B0 hW ⟨true,rfl,rfl⟩)
 refine ifF h0 ?_
 obtain ⟨e,s,s',p1,_,he,p3,_,p5,_⟩:=Aq1 hN hl hv hw
 refine B0 p1 ?_
 by_cases h8:8 < laws.n
 ·exact ifT (by simp;omega) (ltX (ifT (by simp;omega) (B0 hW ⟨true,rfl,rfl⟩)))
 by_cases hz:e=0
 case neg=>
  rw [if_neg hz] at p3
  have hsn:s.n=0:=by rw [BT1 p3];rfl
  exact ifT (by simp [hz]) (ltX (ifF (by simp;omega) (ifT (by simp [hsn]) (B0 hW ⟨true,rfl,rfl⟩))))
 refine ifF (by simp [hz];omega) ?_
 rw [if_pos hz] at p3
 obtain ⟨hok,hvk,hwk⟩:=he.1 hz
 obtain ⟨e2,L,q1,_,he2,hL⟩:=AT3 hN hl hv hw
 have hz2:=he2.2 (he.1 hz)
 rw [if_pos hz2] at hL
 obtain ⟨e3,b,n1,_,he3,hb⟩:=AA8 hN hl hv hw
 have hz3:=he3.2 (he.1 hz)
 rw [if_pos hz3] at hb
 refine B0 n1 (B0 q1 (ltX ?_))
 have hsl:=BT1 p3
 have hst:(Q5 L).2.2=decide (0 < s.n):=by rw [Cf6,hL,hsl]
 have h32:=hvk.1
 obtain ⟨b1,m1,hb1⟩:=Ba5 (N:=N) (l:=s) (by omega) (by omega) 0
 obtain ⟨b2,m2,hb2⟩:=Ba5 (N:=N) (l:=s) (by omega) (by omega) (laws.n:Int)
 obtain ⟨b3,m3,hb3⟩:=BH3 (N:=N) (x:=v) (y:=w) (by omega) (by omega)
 have c1:b1=b:=by
  rw [Bool.eq_iff_iff,hb1,p3,hb]
  have:=Bp2 (N:=N) (laws:=laws) (v:=v) (w:=w) (k:=0) (by omega)
  rw [CH6] at this
  exact this
 have c2:b2=b3:=by
  rw [Bool.eq_iff_iff,hb2,p3,hb3,Bp2 (Nat.le_refl _)]
  exact BT7 hN (by show laws.n - laws.n=0;omega) hvk
 refine ifF (by simp [hz3]) (ifF (by simp [hz2]) (B0 m1 (ifF (by simp [c1]) (B0 m2 (B0 m3 (ifF (by simp [c2]) ?_))))))
 refine ifF (by simp [hst]) ?_
 by_cases hs0:s.n=0
 ·have hLn:L=[]:=by rw [hL];exact List.eq_nil_of_length_eq_zero (by omega)
  subst hLn
  exact ifT (by simp [Q5]) (ltX (ifT (by simp [Q5]) (B0 hW ⟨true,rfl,rfl⟩)))
 ·have hR:=AJ9 (N:=N) s (by omega)
  unfold W4 at hR
  have ew:IntKind.wrap .i64 ((s.n:Int) - 1)=((s.n - 1:Nat):Int):=Cy4 (by omega) (by omega)
  rw [if_neg (by simp [hs0]),ew,if_pos (by omega),Int.toNat_natCast,p3, <- hL] at hR
  have hR:=Option.some.inj hR
  have f1:s.g 0=(Q5 L).1:=congrArg (fun x=>x.1.First) hR
  have f2:s.g (s.n - 1)=(Q5 L).2.1:=congrArg (fun x=>x.1.Last) hR
  refine ifF (by rw [hst];simp;omega) (ifT (by dsimp only;omega) (ifT (by simp [f1]) ?_))
  rw [ew]
  exact ifT (by dsimp only;rw [Int.toNat_natCast];omega) (ifT (by rw [Int.toNat_natCast];simp [f2]) (B0 hW ⟨true,rfl,rfl⟩))
theorem AS3 {N:Nat} (hN:3000000<=N) (hW:B7 N=some true) {laws:Sl Law} (hl:N2 laws) {v w:Sl Sound} (hv:okA v) (hw:okA w):S5 N laws v w=some true:=by
 refine isT.eq ?_
 unfold S5
 obtain ⟨r,hr⟩:=AA6 (N:=N) (by omega) laws
 refine B0 hr ?_
 by_cases h0:decide (4 < r)=true
 ·exact ifT h0 (B0 hW ⟨true,rfl,rfl⟩)
 refine ifF h0 ?_
 obtain ⟨e,s,s',p1,_,he,p3,_,p5⟩:=BT3 hN hl hv hw
 refine B0 p1 ?_
 by_cases h8:8 < laws.n
 ·exact ifT (by simp;omega) (ltX (ifT (by simp;omega) (B0 hW ⟨true,rfl,rfl⟩)))
 by_cases hz:e=0
 case neg=>
  rw [if_neg hz] at p3
  have hsn:s.n=0:=by rw [BT1 p3];rfl
  exact ifT (by simp [hz]) (ltX (ifF (by simp;omega) (ifT (by simp [hsn]) (B0 hW ⟨true,rfl,rfl⟩))))
 refine ifF (by simp [hz];omega) ?_
 rw [if_pos hz] at p3
 obtain ⟨hok,hvk,hwk⟩:=he.1 hz
 obtain ⟨e3,b,n1,_,he3,hb⟩:=AA8 hN hl hv hw
 have hz3:=he3.2 (he.1 hz)
 rw [if_pos hz3] at hb
 refine B0 n1 (ifF (by simp [hz3]) ?_)
 refine Ak9 (fun i x1=>x1=(i:Int)) laws.n _ (by omega) rfl ?_
 rintro self i x1 hi rfl hs
 by_cases hlt:i < laws.n
 case neg=>exact ifF (by simp;omega) (B0 hW ⟨true,rfl,rfl⟩)
 refine ifT (by simp;omega) ?_
 rw [C0 (by omega),Cd3 (s:=(Sl.of []:Sl Law)) rfl,Int.toNat_natCast,Int.toNat_natCast]
 refine ifT ⟨⟨⟨by omega,by show (0+i) * 200<=_/\0+i<=_;omega⟩,by omega⟩,by show (i+(laws.n - (i+1))) * 200<=_/\i+(laws.n - (i+1))<=_;omega⟩ ?_
 have hc:=Bj1 hl hlt
 have hcok:Ai2 N (Cf3 laws i):=⟨by show i+(laws.n - (i+1))<=_;omega,fun j hj=>by
  have hj:j < i+(laws.n - (i+1)):=hj
  show chkAll N (if j < i then laws.g j else laws.g (i+1+(j - i)))
  split
  ·exact hok.2 _ (by omega)
  ·exact hok.2 _ (by omega)⟩
 obtain ⟨e4,b4,k1,_,he4,hb4⟩:=AA8 hN hc hv hw
 have hz4:=he4.2 ⟨hcok,hvk,hwk⟩
 rw [if_pos hz4] at hb4
 obtain ⟨b1,m1,hb1⟩:=Ba5 (N:=N) (l:=s) (by omega) (by omega) (i:Int)
 rw [p3] at hb1
 have hm:b1=true ↔ (b4=true/\b=false):=by
  rw [hb1,hb4,hb]
  unfold miL
  cases hg:gv N laws v w
  ·rw [if_neg (by simp),AT1]
   constructor
   ·rintro ⟨j,h1,_,_,h2⟩
    exact ⟨by rw [show i=j by omega];exact h2,rfl⟩
   ·exact fun h=>⟨i,rfl,by omega,hlt,h.1⟩
  ·simp
 refine B0 k1 (ltX (ifF (by simp [hz4]) (B0 m1 ?_)))
 have go:∃ r,self ((i+1:Nat):Int)=some r/\r=true:=hs hlt _ rfl
 cases hb4' : b4
 ·refine ifF (by simp) (ifF ?_ go)
  have:b1=false:=by cases h:b1 with
   | false=>rfl
   | true=>have:=(hm.1 h).1;rw [hb4'] at this;cases this
  simp [this]
 ·refine ifT rfl (ifF ?_ go)
  rw [hb4'] at hm
  have:b1 = !b:=by rw [Bool.eq_iff_iff,hm];cases b <;> simp
  simp [this]
theorem BH5 {N:Nat} {laws:Sl Law} (h:Ai2 N laws) (k:Nat):Ai2 N (laws.drop k):=⟨by have:=h.1;show laws.n - k<=64;omega,fun i hi=>h.2 _ (by have hi:i < laws.n - k:=hi;omega)⟩
theorem Be7 {N:Nat} (hN:3000000<=N) (hW:B7 N=some true) {laws:Sl Law} (hl:N2 laws) {v w:Sl Sound} (hv:okA v) (hw:okA w) (at_:Nat) (ha:at_ < 1000000):Z7 N laws v w (at_:Int)=some true:=by
 refine isT.eq ?_
 unfold Z7
 obtain ⟨r,hr⟩:=AA6 (N:=N) (by omega) laws
 refine B0 hr ?_
 by_cases h0:decide (4 < r)=true
 ·exact ifT h0 (B0 hW ⟨true,rfl,rfl⟩)
 refine ifF h0 ?_
 obtain ⟨e,s,s',p1,_,he,p3,_,p5,_⟩:=Aq1 hN hl hv hw
 refine B0 p1 ?_
 by_cases h8:8 < laws.n
 ·exact ifT (by simp;omega) (B0 hW ⟨true,rfl,rfl⟩)
 by_cases hz:e=0
 case neg=>exact ifT (by simp [hz]) (B0 hW ⟨true,rfl,rfl⟩)
 refine ifF (by simp [hz];omega) ?_
 rw [if_pos hz] at p3
 obtain ⟨hok,hvk,hwk⟩:=he.1 hz
 rw [C0 (by omega),F2 (n:=(at_:Int)) (by omega) (by omega)]
 have em:((at_:Int)).tmod ((laws.n+1:Nat):Int)=((at_ % (laws.n+1):Nat):Int):=rfl
 rw [em]
 have hlt:at_ % (laws.n+1) < laws.n+1:=Nat.mod_lt _ (by omega)
 generalize at_ % (laws.n+1)=i at hlt
 refine ifT (by omega) ?_
 rw [Int.toNat_natCast]
 obtain ⟨e2,t,t',r1,_,he2,r3,_,r5,_⟩:=Aq1 hN (Ae9 hl i) hv hw
 have hz2:=he2.2 ⟨BH5 hok i,hvk,hwk⟩
 rw [if_pos hz2] at r3
 obtain ⟨y6,d1,d2⟩:∃ y:Sl Sound × Int,E8 N (laws.drop i) v=some y/\deE N (laws.drop i) v y:=by
  obtain ⟨y,_,d1,_,_,_,d2⟩:=AN2 hN (Ae9 hl i) (SE.refl _) (SE.refl v) hv
  exact ⟨y,d1,d2⟩
 have hp:Ad0 N laws (i:Int) (laws.n:Int) v=some (y6.1,y6.2):=by
  unfold Ad0
  obtain ⟨a,a1,ha⟩:=AF2 hN hl hv
  have:a=0:=by
   rcases ha with ⟨h,h'⟩ | ⟨_,h⟩
   ·exact Ae8 h (lawsE_zero.2 hok)
   ·exact (R5 h).2 hvk
  subst this
  rw [a1,Option.bind_some,if_neg (by decide),if_neg (by simp;omega),if_pos (by omega),Int.toNat_natCast,Int.toNat_natCast]
  show (E8 N (laws.drop i) v).bind _=_
  rw [d1];rfl
 obtain ⟨b1,m1,hb1⟩:=Ba5 (N:=N) (l:=s) (by omega) (by omega) (i:Int)
 obtain ⟨b2,m2,hb2⟩:=Ba5 (N:=N) (l:=t) (by omega) (by omega) 0
 have c1:b1=true ↔ gv N (laws.drop i) v w=true:=by rw [hb1,p3,Bp2 (by omega)]
 have c2:b2=true ↔ gv N (laws.drop i) v w=true:=by
  have:=Bp2 (N:=N) (laws:=laws.drop i) (v:=v) (w:=w) (k:=0) (by omega)
  rw [CH6] at this
  rw [hb2,r3];exact this
 have c12:b1=b2:=by rw [Bool.eq_iff_iff,c1,c2]
 have hg:=(AQ5 hN (Ae9 hl i) (SE.refl _) (SE.refl v) hv (SE.refl w)).2.2
 refine B0 r1 (B0 hp (ltX ?_))
 have last:∀ z1:Bool,(z1=true ↔ gv N (laws.drop i) v w=true)->∃ r,(lt (fun (z2:Bool)=>some z2) fun k2=>
  if (e2 == 0)=true then
   (Q0 N s (i:Int)).bind fun y13=>
   (Q0 N t 0).bind fun y14=>
   if ((y13 == y14) != false)=true then
    (Q0 N s (i:Int)).bind fun y15=>
    if ((y15 == z1) != false)=true then
     (B7 N ).bind fun y16=>
     k2 y16
    else
     k2 false
   else
    k2 false
  else
   k2 false)=some r/\r=true:=by
  intro z1 hz1
  have:b1=z1:=by rw [Bool.eq_iff_iff,c1,hz1]
  exact ltX (ifT (by simp [hz2]) (B0 m1 (B0 m2 (ifT (by simp [c12]) (B0 m1 (ifT (by simp [this]) (B0 hW ⟨true,rfl,rfl⟩)))))))
 by_cases hy:y6.2=0
 ·have hk:wOk y6.1:=by
   rcases d2 with ⟨_,h⟩ | ⟨_,_,h⟩ | ⟨_,_,h | ⟨_,h⟩⟩
   ·exact absurd hy h
   ·exact absurd hy h
   ·rw [h] at hy;cases hy
   ·exact h
  have h32:=hk.1
  obtain ⟨b,x1,hb⟩:=BH3 (N:=N) (x:=y6.1) (y:=w) (by omega) (by omega)
  refine ifT (by simp [hy]) (B0 x1 (last b ?_))
  rw [hb,hg]
  constructor
  ·exact fun h=>⟨_,d1,hy,h⟩
  ·rintro ⟨q,hq,_,h⟩
   obtain rfl:=Option.some.inj (d1.symm.trans hq)
   exact h
 ·refine ifF (by simp [hy]) (last false ?_)
  rw [hg]
  constructor
  ·intro h;cases h
  ·rintro ⟨q,hq,h,_⟩
   obtain rfl:=Option.some.inj (d1.symm.trans hq)
   exact absurd h hy
theorem Bp4 {N:Nat} (hN:3000000<=N) (hW:B7 N=some true) {laws:Sl Law} (hl:N2 laws) {l:Sl O1} (ho:BT0 l):Ad3 N laws l=some true:=by
 refine isT.eq ?_
 unfold Ad3
 obtain ⟨r,hr⟩:=AA6 (N:=N) (by omega) laws
 refine B0 hr ?_
 by_cases h0:(((decide (4 < r)) || (decide (8 < (laws.n:Int)))) || (decide (20 < (l.n:Int))))=true
 ·exact ifT h0 (B0 hW ⟨true,rfl,rfl⟩)
 refine ifF h0 ?_
 obtain ⟨e,s,s',p1,_,he,p3,_,p5⟩:=BT6 hN hl ho
 refine B0 p1 ?_
 by_cases hz:e=0
 case neg=>
  rw [if_neg hz] at p3
  have hsn:s.n=0:=by rw [BT1 p3];rfl
  exact ifT (by simp [hz]) (ltX (ifT (by simp [hsn]) (B0 hW ⟨true,rfl,rfl⟩)))
 refine ifF (by simp [hz]) ?_
 rw [if_pos hz] at p3
 obtain ⟨hok,h256,hpo⟩:=he.1 hz
 have hsl:s.n=l.n:=by rw [BT1 p3];unfold lyL;rw [List.length_map,List.length_range]
 have hg:∀ i,i < l.n->s.g i=lyF N laws (l.g i):=by
  intro i hi
  have:=congrArg (fun q=>q[i]?) p3
  simp only [Sl.toList,lyL,List.getElem?_map] at this
  rw [List.getElem?_range (by omega),List.getElem?_range hi] at this
  exact Option.some.inj this
 refine ifF (by simp [hsl]) ?_
 refine Ak9 (fun i x1=>x1=(i:Int)) l.n _ (by omega) rfl ?_
 rintro self i x1 hi rfl hs
 by_cases hlt:i < l.n
 case neg=>exact ifF (by simp;omega) (B0 hW ⟨true,rfl,rfl⟩)
 refine ifT (by simp;omega) (ifT (by omega) ?_)
 rw [Int.toNat_natCast]
 obtain ⟨e2,L,q1,_,he2,hL⟩:=AT3 hN hl (ho i hlt).1 (ho i hlt).2
 have hz2:=he2.2 ⟨hok,hpo i hlt⟩
 rw [if_pos hz2] at hL
 have go:∃ r,self (IntKind.wrap .i64 ((i:Int)+1))=some r/\r=true:=hs hlt _ (C0 (by omega))
 have hla:=Cf4 L
 have hgi:s.g i=L.getLastD (-1):=by rw [hg i hlt,hL];rfl
 refine B0 q1 (ifF (by simp [hz2]) ?_)
 cases hb:(Q5 L).2.2
 ·rw [if_neg (by simp [hb])] at hla
  rw [hla] at hgi
  exact ifF (by simp) (ifT (by simp) (ifT (by dsimp only;omega) (ifF (by dsimp only;rw [hgi];decide) go)))
 ·rw [if_pos hb] at hla
  rw [hla] at hgi
  exact ifT rfl (ifT (by dsimp only;omega) (ifF (by dsimp only;rw [hgi];simp) (ifF (by simp) go)))
theorem AN3 {P:Nat->Bool} {n:Nat} (h:(Q5 (Az0 P n 0)).2.2=true):∃ a b:Nat,(Q5 (Az0 P n 0)).1=(a:Int)/\(Q5 (Az0 P n 0)).2.1=(b:Int)/\a < n/\b < n/\P a=true/\P b=true/\∀ j,j < n->P j=true->a<=j/\j<=b:=by
 have hs:(Az0 P n 0).Pairwise (· < ·):=by
  unfold Az0
  rw [List.pairwise_map]
  refine (List.Pairwise.filter _ (List.pairwise_lt_range' (s:=0) (n:=n - 0))).imp fun h=>?_
  omega
 have hm:=fun y=>AT1 (P:=P) (n:=n) (i:=0) (y:=y)
 revert h hs hm
 generalize Az0 P n 0=L
 intro h hs hm
 cases L with
 | nil=>cases h
 | cons x L=>
  show ∃ a b:Nat,x=_/\(x :: L).getLast _=_/\_
  obtain ⟨a,rfl,_,a1,a2⟩:=(hm x).1 (by simp)
  obtain ⟨b,hb,_,b1,b2⟩:=(hm ((((a:Nat):Int) :: L).getLast (by simp))).1 (List.getLast_mem _)
  refine ⟨a,b,rfl,hb,a1,b1,a2,b2,fun j hj hp=>?_⟩
  have hj:=(hm (j:Int)).2 ⟨j,rfl,by omega,hj,hp⟩
  constructor
  ·rcases List.mem_cons.1 hj with e | hj
   ·omega
   ·have:=(List.pairwise_cons.1 hs).1 _ hj;omega
  ·have:∀ (M:List Int) (hne:M ≠ []),M.Pairwise (· < ·)->∀ y ∈ M,y<=M.getLast hne:=by
    intro M
    induction M with
    | nil=>exact fun h=>absurd rfl h
    | cons c M ih=>
     intro hne hp y hy
     cases M with
     | nil=>simp at hy;simp [hy]
     | cons d M=>
      rw [List.getLast_cons (by simp)]
      obtain ⟨g1,g2⟩:=List.pairwise_cons.1 hp
      rcases List.mem_cons.1 hy with rfl | hy
      ·have:=g1 _ (List.getLast_mem (l:=d :: M) (by simp));omega
      ·exact ih (by simp) g2 y hy
   have:=this _ (by simp) hs _ hj
   omega
theorem Bz8 {P:Nat->Bool} {n:Nat} (h:(Q5 (Az0 P n 0)).2.2=false):∀ j,j < n->P j=false:=by
 intro j hj
 cases hp:P j
 ·rfl
 ·have:=(AT1 (P:=P) (n:=n) (i:=0) (y:=(j:Int))).2 ⟨j,rfl,by omega,hj,hp⟩
  cases e:Az0 P n 0 with
  | nil=>rw [e] at this;cases this
  | cons x L=>rw [e] at h;cases h
theorem Co9 {l m:Sl O1} (h:BT0 l) (h' : BT0 m):BT0 (l.app m):=fun j hj=>by
 have hj:j < l.n+m.n:=hj
 show okA (if j < l.n then l.g j else m.g (j - l.n)).From/\okA (if j < l.n then l.g j else m.g (j - l.n)).To
 split
 ·exact h _ (by assumption)
 ·exact h' _ (by omega)
theorem pairsOk_app {l m:Sl O1}:AF3 (l.app m) ↔ AF3 l/\AF3 m:=by
 constructor
 ·intro h
  constructor
  ·intro j hj
   have:=h j (by show j < l.n+m.n;omega)
   have e:(l.app m).g j=l.g j:=if_pos hj
   rw [e] at this;exact this
  ·intro j hj
   have:=h (l.n+j) (by show l.n+j < l.n+m.n;omega)
   have e:(l.app m).g (l.n+j)=m.g j:=by
    show (if l.n+j < l.n then _ else m.g (l.n+j - l.n))=_
    rw [if_neg (by omega)];congr 1;omega
   rw [e] at this;exact this
 ·rintro ⟨h,h'⟩ j hj
  have hj:j < l.n+m.n:=hj
  show wOk (if j < l.n then l.g j else m.g (j - l.n)).From/\wOk (if j < l.n then l.g j else m.g (j - l.n)).To
  split
  ·exact h _ (by assumption)
  ·exact h' _ (by omega)
theorem allG_app {N:Nat} {laws:Sl Law} {l m:Sl O1} {i:Nat}:AT2 N laws (l.app m) i=true ↔ AT2 N laws l i=true/\AT2 N laws m i=true:=by
 unfold AT2
 rw [decide_eq_true_eq,decide_eq_true_eq,decide_eq_true_eq]
 constructor
 ·intro h
  constructor
  ·intro j hj
   have:=h j (by show j < l.n+m.n;omega)
   have e:(l.app m).g j=l.g j:=if_pos hj
   rw [e] at this;exact this
  ·intro j hj
   have:=h (l.n+j) (by show l.n+j < l.n+m.n;omega)
   have e:(l.app m).g (l.n+j)=m.g j:=by
    show (if l.n+j < l.n then _ else m.g (l.n+j - l.n))=_
    rw [if_neg (by omega)];congr 1;omega
   rw [e] at this;exact this
 ·rintro ⟨h,h'⟩ j hj
  have hj:j < l.n+m.n:=hj
  show gv N _ (if j < l.n then l.g j else m.g (j - l.n)).From (if j < l.n then l.g j else m.g (j - l.n)).To=true
  split
  ·exact h _ (by assumption)
  ·exact h' _ (by omega)
theorem Be8 {N:Nat} (hN:3000000<=N) (hW:B7 N=some true) {laws:Sl Law} (hl:N2 laws) {l m:Sl O1} (ho:BT0 l) (ho' : BT0 m):Z8 N laws l m=some true:=by
 refine isT.eq ?_
 unfold Z8
 obtain ⟨r,hr⟩:=AA6 (N:=N) (by omega) laws
 refine B0 hr ?_
 by_cases h0:((((decide (4 < r)) || (decide (8 < (laws.n:Int)))) || (decide (20 < (l.n:Int)))) || (decide (20 < (m.n:Int))))=true
 ·exact ifT h0 (B0 hW ⟨true,rfl,rfl⟩)
 refine ifF h0 ?_
 have hb:¬ 8 < laws.n/\¬ 20 < l.n/\¬ 20 < m.n:=by
  simp only [Bool.or_eq_true,decide_eq_true_eq,not_or] at h0
  omega
 rw [Cd3 (s:=(Sl.of []:Sl O1)) rfl]
 refine ifT ⟨by show (0+l.n) * 48<=_/\0+l.n<=_;omega,by omega⟩ ?_
 obtain ⟨e1,L1,p1,_,he1,hL1⟩:=AK0 hN hl (Co9 ho ho')
 obtain ⟨e2,L2,p2,_,he2,hL2⟩:=AK0 hN hl ho
 obtain ⟨e3,L3,p3,_,he3,hL3⟩:=AK0 hN hl ho'
 refine B0 p1 (B0 p2 (B0 p3 ?_))
 have hlen:(l.app m).n=l.n+m.n:=rfl
 by_cases z1:e1=0
 case neg=>
  rw [if_neg z1] at hL1
  subst hL1
  refine ifT (by simpa using z1) (ltX (ifT (by simp [Q5]) ?_))
  by_cases z2:e2=0
  ·have z3:e3 ≠ 0:=by
    intro z3
    obtain ⟨a1,a2,a3⟩:=he2.1 z2
    obtain ⟨b1,b2,b3⟩:=he3.1 z3
    exact z1 (he1.2 ⟨a1,by omega,pairsOk_app.2 ⟨a3,b3⟩⟩)
   exact ifF (by simp [z2]) (ifT (by simpa using z3) (B0 hW ⟨true,rfl,rfl⟩))
  ·exact ifT (by simpa using z2) (B0 hW ⟨true,rfl,rfl⟩)
 rw [if_pos z1] at hL1
 obtain ⟨hok,_,hpo⟩:=he1.1 z1
 obtain ⟨hpl,hpm⟩:=pairsOk_app.1 hpo
 have z2:=he2.2 ⟨hok,by omega,hpl⟩
 have z3:=he3.2 ⟨hok,by omega,hpm⟩
 rw [if_pos z2] at hL2
 rw [if_pos z3] at hL3
 refine ifF (by simp [z1]) (ifF ?_ ?_)
 ·simp only [z2,z3,bne_self_eq_false,Bool.or_self,Bool.false_or,Bool.and_eq_true,Bool.or_eq_true,decide_eq_true_eq,Bool.not_eq_true',not_and,not_or]
  intro hs
  have hs1:(Q5 (Az0 (AT2 N laws (l.app m)) (laws.n+1) 0)).2.2=true:=by rw [hL1] at hs;exact hs
  obtain ⟨a,b,f1,f2,f3,f4,f5,f6,f7⟩:=AN3 hs1
  have ga:=allG_app.1 f5
  have gb:=allG_app.1 f6
  have t2:(Q5 (Az0 (AT2 N laws l) (laws.n+1) 0)).2.2=true:=by
   cases h:(Q5 (Az0 (AT2 N laws l) (laws.n+1) 0)).2.2
   ·have:=Bz8 h a f3;rw [this] at ga;cases ga.1
   ·rfl
  have t3:(Q5 (Az0 (AT2 N laws m) (laws.n+1) 0)).2.2=true:=by
   cases h:(Q5 (Az0 (AT2 N laws m) (laws.n+1) 0)).2.2
   ·have:=Bz8 h a f3;rw [this] at ga;cases ga.2
   ·rfl
  obtain ⟨a2,b2,g1,g2,_,_,_,_,g7⟩:=AN3 t2
  obtain ⟨a3,b3,k1,k2,_,_,_,_,k7⟩:=AN3 t3
  have q1:=g7 a f3 ga.1
  have q2:=g7 b f4 gb.1
  have q3:=k7 a f3 ga.2
  have q4:=k7 b f4 gb.2
  rw [hL1,hL2,hL3]
  unfold daL
  rw [t2,t3,f1,f2,g1,g2,k1,k2]
  refine ⟨⟨⟨⟨⟨by simp,by simp⟩,by omega⟩,by omega⟩,by omega⟩,by omega⟩
 refine Ak9 (fun i x1=>x1=(i:Int)) l.n _ (by omega) rfl ?_
 rintro self i x1 hi rfl hs
 by_cases hlt:i < l.n
 case neg=>exact ifF (by simp;omega) (B0 hW ⟨true,rfl,rfl⟩)
 refine ifT (by simp;omega) (ifT (by omega) ?_)
 rw [C0 (by omega),Int.toNat_natCast,Int.toNat_natCast]
 obtain ⟨e4,L4,q1,_,he4,hL4⟩:=AT3 hN hl (ho i hlt).1 (ho i hlt).2
 have z4:=he4.2 ⟨hok,hpl i hlt⟩
 rw [if_pos z4] at hL4
 have hsub:BT0 (l.sub i (i+1)):=fun j hj=>ho _ (by have hj:j < i+1 - i:=hj;omega)
 obtain ⟨e5,L5,q2,_,he5,hL5⟩:=AK0 hN hl hsub
 have z5:=he5.2 ⟨hok,by show i+1 - i<=_;omega,fun j hj=>hpl _ (by have hj:j < i+1 - i:=hj;omega)⟩
 rw [if_pos z5] at hL5
 have hLL:L5=L4:=by
  rw [hL5,hL4]
  exact Bp0 N laws (l.sub i (i+1)) (by show i+1 - i=1;omega)
 subst hLL
 exact B0 q1 (ifT (by omega) (B0 q2 (ifF (by simp [z4,z5]) (hs hlt _ rfl))))
end Go.AM
set_option linter.unusedVariables false
namespace Go.AM
set_option maxRecDepth 1000000
theorem Aq2:B7 4194304=some true:=by decide +kernel
end Go.AM
