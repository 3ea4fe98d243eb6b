/- What a law's walk and its plain proof need, part 17: no condition of its own. -/
import Derived.Test.YtlbooedblpdmaaaGreatDoorAJ
import Derived.Test.YtlbooedblpdmaaaGreatDoorAH
import Derived.Test.YtlbooedblpdmaaaGreatDoorAI
import Derived.Test.YtlbooedblpdmaaaGreatDoorAK
import Derived.Lay
set_option linter.defProp false
set_option linter.unusedSimpArgs false
set_option linter.unusedVariables false
set_option linter.unusedSectionVars false
namespace Go.AM
def Cs0:=@Go.Claim7.holds_tied_plain_at
def Ct8:=@Go.Proofs.Tryz.underlying28
def Cu5:=@Go.OpenSpec.preRow_of_cond
def Cv2:=@Go.OpenClaim.holds_of_cond
def Cv9:=@Go.OpenClaim.pre_eq_preRow
def Cy9:=@List.filterMap_cons
def CA0:=@List.mem_toArray
def CA7:=@List.not_mem_nil
def CH2:=@List.mem_filterMap
def CY3:=@Go.Proofs.Tryz.params6
def CY5:=@Go.Proofs.Tryz.func29
open Go.Proofs
abbrev Ev:Nat:=6
abbrev Mx:Nat:=29
def YI:Cl1[Mx]? = some Tryz.f29:=CY5
end Go.AM
namespace Go.AM
open IntKind (wrap)
open Go.Proofs
set_option maxRecDepth 10000
set_option maxHeartbeats 2000000
variable {S:W1}(hS:H9 S Tryz.prog) (hL:GD S)
include hS hL
def BD (N:Nat)(b:A5)(a:Sl E6)(c:Sl Entry):Option Bool:= (S8 N b).bind fun y1=>lt (fun (z1:Bool)=>some z1) fun k1=>if y1 then (S9 N a c).bind fun y4=>if y4 then (N8 N b a c).bind fun y5=>k1 (y5==0) else k1 false else k1 false
theorem YJ {N:Nat}{c:A5}{a:Sl E6}{d:Sl Entry}{y:Bool}(h:BD N c a d=some y) :FunO S Mx [.p (.agg (A4 c)),.p (vSl 2 C6 a),.p (vSl 2 B7 d)] [] (pB y) ([]) []:=by
 unfold BD at h;refine A1 hS YI ?_;refine kC hS h (Ek hS hL) (fun y1 h=>?_);refine Ai hS T3 (A2 hS) h 0 (fun z1=>⟨[(6,pB z1)],[]⟩) (fun M1 k1 b h=>?_) (fun z1 h=>?_)
 .refine kG hS h (fun h=>?_) (fun h=>?_)
  .refine kC hS h (El hS hL) (fun y4 h=>?_);refine kG hS h (fun h=>?_) (fun h=>?_)
   .refine kC hS h (AS hS hL) (fun y5 h=>?_);exact b _ [] _ (y5==0) T3 h
   exact b _ [] _ false T3 h
  exact b _ [] _ false T3 h
 cases h;exact kR hS
def Ce (N:Nat)(a:A5)(b:Sl E6)(r:Sl Entry):Option Bool:= (BD N a b r).bind fun y1=>if (!y1) then (E1 N ).bind fun y2=>some y2 else (L0 N a b r).bind fun y3=>(G2 N a b r 0).bind fun y4=>if (((y3.2 != 0)||(y4.2 != 0))||((y3.1.n:Int) != (a.Laws.n:Int))) then some false else T9 N (fun s (d:Int)=>if (decide (d<(a.Laws.n:Int))) then Zb N (fun t (u:Sl (Sl Int)) (w:Bool) (c:Int)=>if (decide (c<(a.On.n:Int))) then Zb N (fun o (x:Bool) (m:Sl Int) (i:Int)=>if ((0:Int)<=c/\c<(a.On.n:Int))then if (decide (i<((a.On.g c.toNat).n:Int))) then if (((0:Int)<=c/\c<(a.On.n:Int))/\((0:Int)<=i/\i<((a.On.g c.toNat).n:Int)))then if (((a.On.g c.toNat).g i.toNat) != d) then if ((((0:Int)<=c/\c<(a.On.n:Int))/\((0:Int)<=i/\i<((a.On.g c.toNat).n:Int)))/\((m.n+(Sl.of [(a.On.g c.toNat).g i.toNat]:Sl Int).n)*8<=140737488355328/\m.n+(Sl.of [(a.On.g c.toNat).g i.toNat]:Sl Int).n<=140737488355328))then o x (m.push ((a.On.g c.toNat).g i.toNat)) (wrap .i64 (i+1)) else none else o true m (wrap .i64 (i+1)) else none else if ((u.n+(Sl.of [m]:Sl (Sl Int)).n)*24<=140737488355328/\u.n+(Sl.of [m]:Sl (Sl Int)).n<=140737488355328)then t (u.push m) x (wrap .i64 (c+1)) else none else none) w (Sl.nil:Sl Int) 0 else (G2 N (⟨a.Tree,a.Laws,u⟩:A5) b r 0).bind fun y7=>if (y7.2 != 0) then some false else P9 N (fun q (v:Int) (j:Int)=>if (decide (j<(y7.1.n:Int))) then P9 N (fun l (y:Bool) (f:Int)=>if (decide (f<(y4.1.n:Int))) then if y then l true (wrap .i64 (f+1)) else if (((((0:Int)<=f/\f<(y4.1.n:Int))/\f.toNat<y4.1.n)/\((0:Int)<=j/\j<(y7.1.n:Int)))/\j.toNat<y7.1.n)then if ((y4.1.g f.toNat).Entry==(y7.1.g j.toNat).Entry) then if (((((0:Int)<=f/\f<(y4.1.n:Int))/\f.toNat<y4.1.n)/\((0:Int)<=j/\j<(y7.1.n:Int)))/\j.toNat<y7.1.n)then l ((y4.1.g f.toNat).Leaf==(y7.1.g j.toNat).Leaf) (wrap .i64 (f+1)) else none else l false (wrap .i64 (f+1)) else none else if (!y) then q (wrap .i64 (v+1)) (wrap .i64 (j+1)) else q v (wrap .i64 (j+1))) false 0 else if (((0:Int)<=d/\d<(y3.1.n:Int))/\d.toNat<y3.1.n)then if (((y3.1.g d.toNat) != v)=false->((!w)=true->(((0:Int)<=d/\d<(y3.1.n:Int))/\d.toNat<y3.1.n)))then if (((y3.1.g d.toNat) != v)||((!w)&&((y3.1.g d.toNat) != 0))) then some false else s (wrap .i64 (d+1)) else none else none) 0 0) (Sl.nil:Sl (Sl Int)) false 0 else (E1 N ).bind fun y8=>some y8) 0
theorem Sn {N:Nat}{f:A5}{d:Sl E6}{s:Sl Entry}{y:Bool}(h:Ce N f d s=some y) :FunO S Ev [.p (.agg (A4 f)),.p (vSl 2 C6 d),.p (vSl 2 B7 s)] [] (pB y) ([]) []:=by
 unfold Ce at h;refine A1 hS Tryz.func6 ?_;refine D8 hS T3 6 4000 (A4 f) ?_;obtain⟨y1,e1,h⟩:=B1 h;refine B6 hS [] (by decide:(3:Nat)<=3) (YJ hS hL e1) ?_;apply kI hS h<;>intro h
 .refine kC hS h (N0 hS hL) (fun y2 h=>?_);cases h;exact kR hS
 obtain⟨y3,e3,h⟩:=B1 h;refine B6 hS [] (by decide:(3:Nat)<=3) (Hr hS hL e3) ?_;obtain⟨y4,e4,h⟩:=B1 h;refine B6 hS [] (by decide:(3:Nat)<=3) (U6 hS hL e4) ?_;refine kB hS (A2 hS) T3 T3 11 (.o (.o (.a (y3.2 != 0)) (.a (y4.2 != 0))) (.a ((y3.1.n:Int) != (f.Laws.n:Int)))) ?_;apply kI hS h<;>intro h
 .cases h;exact kR hS
 refine E2 hS T3 h (fun m=>⟨[(11,pN m),(9,.vec 41000),(7,.vec 34000),(3,.p (.ptr (A4 f))),(2,.p (vSl 2 B7 s)),(1,.p (vSl 2 C6 d))],[(41000,.vec B5 4 y4.1.n (fun i=>A9 (y4.1.g i)) false),(34000,.vec B8 1 y3.1.n (fun i=>cI .i64 (y3.1.g i)) true)]⟩) (ids:=[(34000,34000),(41000,41000)]) (fun _ _ _ _ _ a8 m a6 h=>?_);apply kI hS h<;>intro h
 .refine Cv hS T3 h (fun l w q=>⟨[(14,pN q),(13,pB w),(12,.reg 13000 0),(11,pN m),(9,.vec 41000),(7,.vec 34000),(3,.p (.ptr (A4 f))),(2,.p (vSl 2 B7 s)),(1,.p (vSl 2 C6 d))],[(41000,.vec B5 4 y4.1.n (fun i=>A9 (y4.1.g i)) false),(34000,.vec B8 1 y3.1.n (fun i=>cI .i64 (y3.1.g i)) true),(13500,.vec PS 1 l.n (fun i=>cL 1 (cI .i64) (l.g i)) false),(13000,.cells [.p (vSl 2 E4 f.Tree),.p (vSl 18 B2 f.Laws),.vec 13500])]⟩) (ids:=[(13000,13000),(34000,34000),(41000,41000)]) (fun _ _ _ _ _ a9 l w q a7 h=>?_);apply kI hS h<;>intro h
  .refine Cv hS T3 h (fun a2 j r=>⟨[(16,pN r),(15,.vec 16500),(14,pN q),(13,pB a2),(12,.reg 13000 0),(11,pN m),(9,.vec 41000),(7,.vec 34000),(3,.p (.ptr (A4 f))),(2,.p (vSl 2 B7 s)),(1,.p (vSl 2 C6 d))],[(41000,.vec B5 4 y4.1.n (fun i=>A9 (y4.1.g i)) false),(34000,.vec B8 1 y3.1.n (fun i=>cI .i64 (y3.1.g i)) true),(16500,.vec B8 1 j.n (fun i=>cI .i64 (j.g i)) false),(13500,.vec PS 1 l.n (fun i=>cL 1 (cI .i64) (l.g i)) false),(13000,.cells [.p (vSl 2 E4 f.Tree),.p (vSl 18 B2 f.Laws),.vec 13500])]⟩) (ids:=[(13000,13000),(13500,13500),(34000,34000),(41000,41000)]) (fun _ _ _ _ _ b0 a2 j r a3 h=>?_);obtain⟨c233,h⟩:=C7 h;refine D1 hS c233 (b:=decide (r<((f.On.g q.toNat).n:Int))) (fun c234=>?_) (fun c234=>?_)
   .replace h:=itT c234 h;obtain⟨c235,h⟩:=C7 h;refine D1 hS c235 (b:=((f.On.g q.toNat).g r.toNat) != m) (fun c236=>?_) (fun c236=>?_)
    .replace h:=itT c236 h;obtain⟨c237,h⟩:=C7 h;exact a3 _ [(13000,13000),(13500,13500),(16500,107000),(34000,34000),(41000,41000)] _ a2 (j.push ((f.On.g q.toNat).g r.toNat)) (wrap .i64 (r+1)) (And.intro (And.intro (And.intro c237.1.1 c237.1.2) (rfl:true=true)) c237.2) h (hle:=klR [(9,.fn (j.n+1) (j.push ((f.On.g q.toNat).g r.toNat)).n (I4 j.n (fun i=>cI .i64 (j.g i)) (D0 [pI .i64 0] [(0,cI .i64 ((f.On.g q.toNat).g r.toNat))])) (fun i=>cI .i64 ((j.push ((f.On.g q.toNat).g r.toNat)).g i)))] (al1 ⟨rfl,W3 (c:=cI .i64) (v:=j) (x:=(f.On.g q.toNat).g r.toNat) (z:=[(pI .i64 0)]) same rfl rfl⟩ al0))
    replace h:=itF c236 h;exact a3 _ [(13000,13000),(13500,13500),(16500,16500),(34000,34000),(41000,41000)] _ true j (wrap .i64 (r+1)) T3 h
   replace h:=itF c234 h;obtain⟨c238,h⟩:=C7 h;exact a7 _ [(13000,13000),(13500,112000),(34000,34000),(41000,41000)] _ (l.push j) a2 (wrap .i64 (q+1)) (And.intro (rfl:true=true) c238) h (hle:=klR [(8,.fn (l.n+1) (l.push j).n (I4 l.n (fun i=>cL 1 (cI .i64) (l.g i)) (D0 [G6] [(0,cL 1 (cI .i64) j)])) (fun i=>cL 1 (cI .i64) ((l.push j).g i)))] (al1 ⟨rfl,W3 (c:=cL 1 (cI .i64)) (v:=l) (x:=j) (z:=[G6]) same rfl rfl⟩ al0))
  refine G9 hS T3 114 ⟨[(13,pB w),(12,.reg 13000 0),(11,pN m),(9,.vec 41000),(7,.vec 34000),(3,.p (.ptr (A4 f))),(2,.p (vSl 2 B7 s)),(1,.p (vSl 2 C6 d))],[(41000,.vec B5 4 y4.1.n (fun i=>A9 (y4.1.g i)) false),(34000,.vec B8 1 y3.1.n (fun i=>cI .i64 (y3.1.g i)) true),(13000,.cells [.p (vSl 2 E4 f.Tree),.p (vSl 18 B2 f.Laws),.p (vSl 1 (cL 1 (cI .i64)) l)])]⟩ (ids:=[(13000,13000),(34000,34000),(41000,41000)]) ?_;refine kC hS h (U6 hS hL) (fun y7 h=>?_);apply kI hS h<;>intro h
  .cases h;exact kR hS
  refine D7 hS T3 h (fun a0 t=>⟨[(20,pN t),(19,pN a0),(17,.vec 118000),(13,pB w),(11,pN m),(9,.vec 41000),(7,.vec 34000),(3,.p (.ptr (A4 f))),(2,.p (vSl 2 B7 s)),(1,.p (vSl 2 C6 d))],[(118000,.vec B5 4 y7.1.n (fun i=>A9 (y7.1.g i)) false),(41000,.vec B5 4 y4.1.n (fun i=>A9 (y4.1.g i)) false),(34000,.vec B8 1 y3.1.n (fun i=>cI .i64 (y3.1.g i)) true)]⟩) (ids:=[(34000,34000),(41000,41000),(118000,118000)]) (fun _ _ _ _ _ b1 a0 t a4 h=>?_);apply kI hS h<;>intro h
  .refine D7 hS T3 h (fun a5 u=>⟨[(22,pN u),(21,pB a5),(20,pN t),(19,pN a0),(17,.vec 118000),(13,pB w),(11,pN m),(9,.vec 41000),(7,.vec 34000),(3,.p (.ptr (A4 f))),(2,.p (vSl 2 B7 s)),(1,.p (vSl 2 C6 d))],[(118000,.vec B5 4 y7.1.n (fun i=>A9 (y7.1.g i)) false),(41000,.vec B5 4 y4.1.n (fun i=>A9 (y4.1.g i)) false),(34000,.vec B8 1 y3.1.n (fun i=>cI .i64 (y3.1.g i)) true)]⟩) (ids:=[(34000,34000),(41000,41000),(118000,118000)]) (fun _ _ _ _ _ b2 a5 u a1 h=>?_);apply kI hS h<;>intro h
   .refine Ec hS T3 ?_;refine AY T3 (b:=a5) (fun c283=>?_) (fun c283=>?_)
    .replace h:=itT c283 h;refine D9 T3 ?_;exact a1 _ [(34000,34000),(41000,41000),(118000,118000)] _ true (wrap .i64 (u+1)) T3 h
    replace h:=itF c283 h;obtain⟨c284,h⟩:=C7 h;refine AY c284 (b:=(y4.1.g u.toNat).Entry==(y7.1.g t.toNat).Entry) (fun c285=>?_) (fun c285=>?_)
    .replace h:=itT c285 h;obtain⟨c286,h⟩:=C7 h;refine D9 c286 ?_;exact a1 _ [(34000,34000),(41000,41000),(118000,118000)] _ ((y4.1.g u.toNat).Leaf==(y7.1.g t.toNat).Leaf) (wrap .i64 (u+1)) T3 h
    replace h:=itF c285 h;refine D9 T3 ?_;exact a1 _ [(34000,34000),(41000,41000),(118000,118000)] _ false (wrap .i64 (u+1)) T3 h
   apply kI hS h<;>intro h
   .exact a4 _ [(34000,34000),(41000,41000),(118000,118000)] _ (wrap .i64 (a0+1)) (wrap .i64 (t+1)) T3 h
   exact a4 _ [(34000,34000),(41000,41000),(118000,118000)] _ a0 (wrap .i64 (t+1)) T3 h
  obtain⟨c288,h⟩:=C7 h;obtain⟨c289,h⟩:=C7 h;refine kB hS (A2 hS) c288 c289 10 (.o (.a ((y3.1.g m.toNat) != a0)) (.n (.a (!w)) (.a ((y3.1.g m.toNat) != 0)))) ?_;apply kI hS h<;>intro h
  .cases h;exact kR hS
  exact a6 _ [(34000,34000),(41000,41000)] _ (wrap .i64 (m+1)) T3 h
 refine kC hS h (N0 hS hL) (fun y8 h=>?_);cases h;exact kR hS
end Go.AM
namespace Go.AM
open Go.Proofs
def Bc0 {R A:Type}{Q:R->Prop}{k:A->Option R}{f:(A->Option R)->Option R}(u:A)(h1:∃r,k u=some r/\Q r)(a:∀k:A->Option R,(∃r,k u=some r/\Q r)->∃r,f k=some r/\Q r):∃r,lt k f=some r/\Q r:=a k h1
def Th {N:Nat}(d:3000000<=N){o:Option (Sl To)}{w:Sl To}{b:Bool}(a:outF o ⟨b,w⟩)(W:Sl To):∃c,(c=true ↔ ∃y,o=some y/\SE y W)/\∀{R:Type}{Q:R->Prop}(K:Bool->Option R),(∃r,K (!c)=some r/\Q r)->∃r,(if (!b) then K true else (N2 N w W).bind fun y=>K (!y))=some r/\Q r:=by
 cases b with
 |false=>refine⟨false,⟨fun f=>(by cases f),?_⟩,fun K h=>ifT rfl h⟩;rintro⟨y,z1,_⟩;rw[a.no]at z1;cases z1
 |true=>obtain⟨e,e1,e2⟩:=Cl0 d a W rfl;exact⟨e,e2,fun K h=>Ck (B4 e1 h)⟩
open Classical in
noncomputable def V9 (P:Nat×Nat->Prop) (L:List (Nat×Nat)):Nat:=(L.filter fun q=>decide (P q)).length
open Classical in
theorem Av4 {P:Nat×Nat->Prop}{L:List (Nat×Nat)}{q:Nat×Nat}(h:P q):V9 P (L++[q])=V9 P L+1:=by unfold V9;rw[Cr0,Cm0];congr 1;simp[h]
open Classical in
theorem AI3 {P:Nat×Nat->Prop}{L:List (Nat×Nat)}{q:Nat×Nat}(h:¬P q):V9 P (L++[q])=V9 P L:=by unfold V9;rw[Cr0,Cm0];simp[h]
open Classical in
theorem AI4 (P:Nat×Nat->Prop)(L:List (Nat×Nat)):V9 P L<=L.length:=Cr4 _ _
def S4 (N:Nat)(h:A5)(p:Sl E6)(l:Sl Entry)(x:Int)(q:Nat×Nat):Prop:= RG N h (Y5 h q.2) (-1) (p.g q.1) ((l.g q.1).Forms.g q.2)/\¬RG N h (Y5 h q.2) x (p.g q.1) ((l.g q.1).Forms.g q.2)
def Bc1 (N:Nat)(h:A5)(p:Sl E6)(l:Sl Entry)(s:Sl Int):Prop:=s.n=h.Laws.n/\∀x,x<h.Laws.n->s.g x=((V9 (S4 N h p l (x:Int)) (DT l):Nat):Int)
def YK {N:Nat}(m:3000000<=N){h:A5}(hi:I6 h){p:Sl E6}{l:Sl Entry}(hp:K0 p)(hl:S3 l)(ha:attOk N h p l) :∃r,L0 N h p l=some r/\(r.2=0/\Bc1 N h p l r.1):=by
 have hlen:=ha.len;have h64:=ha.hist.laws.1;have hpn:=ha.pn;obtain⟨X,x1,x2⟩:=Ak9 m hi ha.hist (-1);unfold L0;refine B4 (W7 m hi hp hl) ?_;rw[(Cr (by omega) hp hl).2 ha];refine Ck (B4 x1 (Ab ?_));have hm0:Df N h (-1) (F7 h.Tree h.Tree.n) (⟨X.n,fun _=>[]⟩:Sl (List (Str×E6))):=by rw[x2.n];exact Bi7 N h (-1) _
 refine KU (fun i (M:Sl (List (Str×E6))) (s:Sl Int) x=>x=(i:Int)/\Df N h (-1) (F7 h.Tree h.Tree.n) M/\s.n=h.Laws.n/\(∀j,j<i->s.g j=((V9 (S4 N h p l (j:Int)) (DT l):Nat):Int))/\∀j,i<=j->s.g j=0) h.Laws.n _ (by omega) ⟨rfl,hm0,by show (h.Laws.n:Int).toNat=_;omega,fun j hj=>Kh hj (by omega),fun j _=>rfl⟩ ?_;rintro self i M s x hle ⟨rfl,hM,hsn,hlo,hhi⟩ hs;by_cases hil:i<h.Laws.n
 case neg=>
  obtain rfl:i=h.Laws.n:=by omega
  exact Ci ⟨_,rfl,rfl,hsn,hlo⟩
 obtain⟨Y,y1,y2⟩:=Ak9 m hi ha.hist (i:Int);refine Ax (B4 y1 (B4 rfl (B4 (AG6 m ha) ?_)));have hm1:Df N h (i:Int) (F7 h.Tree h.Tree.n) (⟨Y.n,fun _=>[]⟩:Sl (List (Str×E6))):=by rw[y2.n];exact Bi7 N h _ _
 refine AE2 (fun L a=>∃done todo,DT l=done++todo/\L=todo.map (Bk8 l)/\Df N h (-1) (F7 h.Tree h.Tree.n) a.1/\Df N h (i:Int) (F7 h.Tree h.Tree.n) a.2.2/\a.2.1.n=h.Laws.n/\(∀j,j≠i->a.2.1.g j=s.g j)/\a.2.1.g i=((V9 (S4 N h p l (i:Int)) done:Nat):Int)) ?_ ?_ _ _ ⟨[],DT l,rfl,rfl,hM,hm1,hsn,fun _ _=>rfl,hhi i (Cl9 _)⟩
 .rintro a ⟨done,todo,h1,h2,h3,h4,w,h6,h7⟩
  have:todo=[]:=by simpa using h2.symm
  subst this;rw[Cn0]at h1;refine hs hil _ _ _ ⟨Cl,h3,w,fun j hj=>?_,fun j hj=>by rw[h6 j (by omega)];exact hhi j (by omega)⟩;by_cases e:j=i
  .subst e;rw[h7,<- h1]
  rw[h6 j e];exact hlo j (by omega)
 rintro t L ⟨M1,z,M2⟩ v ⟨done,todo,h1,h2,h3,h4,w,h6,h7⟩ hs4;cases todo with
 |nil=>cases h2
 |cons q todo=>
  obtain⟨rfl,rfl⟩:=CF9 h2;have hmem:q∈DT l:=by rw[h1];simp
  obtain⟨q1,q2,q3⟩:=Jp hmem;have hk:q.2<(F7 h.Tree h.Tree.n).n:=by rw[<- ha.fn q.1 q1];exact q2
  have hd:done.length<=16128:=by
   have:=congrArg List.length h1
   rw[Cm0]at this;omega
  have hcl:=AI4 (S4 N h p l (i:Int)) done;replace w:z.n=h.Laws.n:=w;replace h7:z.g i=((V9 (S4 N h p l (i:Int)) done:Nat):Int):=h7;have o:DT l=(done++[q])++todo:=by rw[h1,Cn9];rfl
  obtain⟨r,r1,r2,r3⟩:=MJ m hi ha.hist x2 (p:=p.g q.1) (fun _=>ha.pw q.1 (by omega)) hk h3;obtain⟨u,u1,u2,u3⟩:=MJ m hi ha.hist y2 (p:=p.g q.1) (fun _=>ha.pw q.1 (by omega)) hk h4;have d:∀M2',Df N h (i:Int) (F7 h.Tree h.Tree.n) M2' -> ¬S4 N h p l (i:Int) q->∃y,v (r.2.2,z,M2')=some y/\(y.2=0/\Bc1 N h p l y.1):=fun M2' m2 hno=>
   hs4 _ ⟨done++[q],todo,o,rfl,r2,m2,w,h6,by show z.g i=_;rw[AI3 hno];exact h7⟩
  refine ifT (by show (0:Int)<=(q.1:Int)/\(q.1:Int)<(p.n:Int);omega) ?_;show ∃y,(E7 N (p.g (q.1:Int).toNat) (q.2:Int) M1 X).bind _=some y/\_;rw[Cl2];obtain⟨b,b1,b2⟩:=Th m r3 ((l.g q.1).Forms.g q.2).W;obtain⟨c,c1,c2⟩:=Th m u3 ((l.g q.1).Forms.g q.2).W;refine B4 r1 (Bc0 (!b) ?_ (fun K hK=>b2 K hK));cases b with
  |false=>exact ifT rfl (d _ h4 fun f=>by have:=b1.2 f.1;cases this)
  |true=>
   refine Ck (ifT (by show (0:Int)<=(q.1:Int)/\(q.1:Int)<(p.n:Int);omega) ?_);show ∃y,(E7 N (p.g (q.1:Int).toNat) (q.2:Int) M2 Y).bind _=some y/\_;rw[Cl2];refine B4 u1 (Bc0 (!c) ?_ (fun K hK=>c2 K hK));cases c with
   |true=>exact Ck (d _ u2 fun f=>f.2 (c1.1 rfl))
   |false=>
    have hyes:S4 N h p l (i:Int) q:=⟨b1.1 rfl,fun f=>by have:=c1.2 f;cases this⟩;refine ifT rfl (ifT (by dsimp only;omega) (hs4 _ ⟨done++[q],todo,o,rfl,r2,u2,w,fun j hj=>?_,?_⟩))
    .show (if j=(i:Int).toNat then _ else z.g j)=_;rw[Fp];exact h6 j hj
    show (if i=(i:Int).toNat then _ else z.g i)=_;rw[Cw,Cl2,h7,Cl,Av4 hyes]
end Go.AM
namespace Go.AM
open Go.Proofs
def Ae8 {N:Nat}(a:3000000<=N){h:A5}(d:I6 h){p:Sl E6}{l:Sl Entry}(hp:K0 p)(hl:S3 l):∃b,BD N h p l=some b/\(b=true->attOk N h p l):=by
 unfold BD;obtain⟨b,b1,_⟩:=HZ a h;obtain⟨c,c1,_⟩:=Ia a p l;refine B4 b1 (ltX ?_);by_cases g1:b=true
 .refine ifT g1 (B4 c1 ?_);by_cases g2:c=true
  .exact ifT g2 (B4 (W7 a d hp hl) ⟨_,rfl,fun e=>(Cr (by omega) hp hl).1 (by simpa using e)⟩)
  exact ifF g2 ⟨_,rfl,fun e=>by cases e⟩
 exact ifF g1 ⟨_,rfl,fun e=>by cases e⟩
end Go.AM
namespace Go.AM
variable {N:Nat}
open Go.Proofs
structure Ok (h:A5) (x:Int) (o:Sl (Sl Int)):Prop where
 n:o.n=h.On.n
 g:∀v,v<h.On.n->(o.g v).toList=(h.On.g v).toList.filter fun i=>i != x
abbrev MU (h:A5)(o:Sl (Sl Int)):A5:=⟨h.Tree,h.Laws,o⟩
def Bc2 {h:A5}{x:Int}{o:Sl (Sl Int)}(a:Ok h x o){v:Nat}(b:v<h.On.n):(o.g v).n<=(h.On.g v).n:=by rw[<- W2 (o.g v),a.g v b,<- W2 (h.On.g v)];exact Cr4 _ _
def BK1 {h:A5}{x:Int}{o:Sl (Sl Int)}(a:Ok h x o){v:Nat}(b:v<h.On.n){j:Nat}(c:j<(o.g v).n):∃i,i<(h.On.g v).n/\(o.g v).g j=(h.On.g v).g i:=by have hm:(o.g v).g j∈(o.g v).toList:=Cp2.2 ⟨j,Cn2.2 c,rfl⟩;rw[a.g v b]at hm;obtain⟨i,d,f⟩:=Cp2.1 (Cy8.1 hm).1;exact⟨i,Cn2.1 d,f.symm⟩
def Ca7 {h:A5}{x:Int}{o:Sl (Sl Int)}(g:Ok h x o)(i:I6 h):I6 (MU h o):=by
 obtain⟨a,b,c,d⟩:=i;exact⟨a,b,by show o.n<_;rw[g.n];exact c,fun v f=>by
  have f:v<h.On.n:=by rw[<- g.n];exact f
  exact CH0 (Bc2 g f) (d v f)⟩
def AI5 {h:A5}{x:Int}{o:Sl (Sl Int)}(b:Ok h x o){N:Nat}(a:U7 N h):∀(m v:Nat),v<m->v<h.Tree.n->(Fe (MU h o) v).n<=(Fe h v).n
 |0,v,h1,_=>by omega
 |m+1,v,h1,h2=>by
  have hl:=Bc2 b (v:=v) (by rw[a.on];exact h2);rcases Z5 a.tree h2 with⟨_,e⟩ | ⟨p,hp,e⟩
  .rw[En (h:=h) (by omega),En (h:=MU h o) (by show (h.Tree.g v).Parent<0;omega)];show 0+(o.g v).n<=0+(h.On.g v).n;omega
  rw[Jn (h:=h) e hp,Jn (h:=MU h o) e hp]
  have:=AI5 b a m p (by omega) (by omega)
  show (Fe (MU h o) p).n+(o.g v).n<=(Fe h p).n+(h.On.g v).n;omega
def Ca8 {h:A5}{x:Int}{o:Sl (Sl Int)}(b:Ok h x o){N:Nat}(a:U7 N h):U7 N (MU h o) where
 tree:=a.tree
 laws:=a.laws
 dup:=a.dup
 on:=by show o.n=h.Tree.n;rw[b.n,a.on]
 long:=fun⟨v,h1,d⟩=>by
  have h1:v<h.On.n:=by rw[<- b.n];exact h1
  have:=AI5 b a (v+1) v (by omega) (by rw[<- a.on];exact h1)
  exact a.long ⟨v,h1,by omega⟩
 bad:=fun v h1 ⟨k,d,c⟩=>by
  have h1:v<h.On.n:=by rw[<- b.n];exact h1
  obtain⟨i,i1,i2⟩:=BK1 b h1 (show k<(o.g v).n from d);have c:(o.g v).g k<0 \/ (h.Laws.n:Int)<=(o.g v).g k:=c;rw[i2]at c;exact a.bad v h1 ⟨i,i1,c⟩
def BK2 {h:A5}{x:Int}{o:Sl (Sl Int)}(a:Ok h x o){N:Nat}{p:Sl E6}{l:Sl Entry}(ha:attOk N h p l):attOk N (MU h o) p l where
 hist:=Ca8 a ha.hist
 n:=ha.n
 pn:=ha.pn
 pe:=ha.pe
 fn:=ha.fn
 fe:=ha.fe
 nm:=ha.nm
 pw:=ha.pw
 fw:=ha.fw
def AI6 {h:A5}{x:Int}{o:Sl (Sl Int)}(b:Ok h x o){N:Nat}(a:U7 N h):∀L:List Nat,(∀v∈L,v<h.Tree.n)->Fx (MU h o) L (-1)=Fx h L x
 |[],_=>rfl
 |v::L,hL=>by
  have c:=hL v (by simp);unfold Fx;rw[Cq2,Cq2]
  have:=AI6 b a L fun w hw=>hL w (by simp[hw])
  unfold Fx at this;rw[this];congr 1;unfold AS4;show ((o.g v).toList.filter _).map _=_;rw[b.g v (by rw[a.on];exact c),List.filter_filter];congr 1;refine CH9 fun i d=>?_;obtain⟨j,f,rfl⟩:=Cp2.1 d
  have:=(AG0 a c).2 j (Cn2.1 f)
  have:((h.On.g v).g j != -1)=true:=by simp;omega
  rw[this,CD2]
def AI7 {h:A5}{x:Int}{N:Nat}(a:U7 N h)(hx:0<=x)(b:∀v,v<h.On.n->∀j,j<(h.On.g v).n->(h.On.g v).g j≠x):∀L:List Nat,(∀v∈L,v<h.Tree.n)->Fx h L (-1)=Fx h L x
 |[],_=>rfl
 |v::L,hL=>by
  have c:=hL v (by simp)
  have:=AI7 a hx b L fun w hw=>hL w (by simp[hw])
  unfold Fx at this⊢;rw[Cq2,Cq2,this];congr 1;unfold AS4;congr 1;refine CH9 fun i f=>?_;obtain⟨j,d,rfl⟩:=Cp2.1 f;have h1:=(AG0 a c).2 j (Cn2.1 d);have l:=b v (by rw[a.on];exact c) j (Cn2.1 d);have e1:((h.On.g v).g j != -1)=true:=by simp;omega
  have e2:((h.On.g v).g j != x)=true:=by simpa using l
  rw[e1,e2]
def BP6 {h:A5}{N:Nat}(a:U7 N h){u:Nat}(b:u<h.Tree.n):∀v∈Ku h.Tree u,v<h.Tree.n:=fun v c=>by
 have:=RD a.tree u u (Cl9 _) b v c
 omega
def BK3 {h:A5}{x:Int}{o:Sl (Sl Int)}(b:Ok h x o){N:Nat}(a:U7 N h){u:Nat}(c:u<h.Tree.n)(p f:E6):RG N (MU h o) u (-1) p f↔RG N h u x p f:=by
 have e:DF N (MU h o) u (-1) p=DF N h u x p:=by unfold DF DX;rw[AI6 b a _ (BP6 a c)]
 unfold RG;rw[e]
def BK4 {h:A5}{x:Int}{N:Nat}(a:U7 N h)(hx:0<=x)(b:∀v,v<h.On.n->∀j,j<(h.On.g v).n->(h.On.g v).g j≠x){u:Nat}(c:u<h.Tree.n)(p f:E6):RG N h u (-1) p f↔RG N h u x p f:=by
 have e:DF N h u (-1) p=DF N h u x p:=by unfold DF DX;rw[AI7 a hx b _ (BP6 a c)]
 unfold RG;rw[e]
def Ti (L:List A3)(y:A3):Prop:=∃x∈L,x.Entry=y.Entry/\x.Leaf=y.Leaf
open Classical in
noncomputable def YL (L:List A3) (s:Sl A3) (j:Nat):Nat:=((s.take j).toList.filter fun y=>!decide (Ti L y)).length
open Classical in
theorem BK5 {L:List A3}{s:Sl A3}{j:Nat}(a:Ti L (s.g j)):YL L s (j+1)=YL L s j:=by unfold YL;rw[Jo,Cr0,Cm0,Ct4 (by simpa using a)];rfl
open Classical in
theorem Ca9 {L:List A3}{s:Sl A3}{j:Nat}(a:¬Ti L (s.g j)):YL L s (j+1)=YL L s j+1:=by unfold YL;rw[Jo,Cr0,Cm0,Cx0 (by simpa using a)];rfl
def Cb0 (L:List A3)(s:Sl A3)(j:Nat):YL L s j<=j:=by unfold YL;refine Cp0 (Cr4 _ _) ?_;rw[W2];exact Cl9 _
def exc_ne {h:A5}{p:Sl E6}{l:Sl Entry}{c:Int}{q:Nat×Nat}:(exc N h p l c q=none↔RG N h (Y5 h q.2) (-1) (p.g q.1) ((l.g q.1).Forms.g q.2))/\∀x,exc N h p l c q=some x->x.Entry=(q.1:Int)/\x.Leaf=(q.2:Int):=by
 by_cases a:RG N h (Y5 h q.2) (-1) (p.g q.1) ((l.g q.1).Forms.g q.2)
 .rw[Hu a];exact⟨⟨fun _=>a,fun _=>rfl⟩,fun x g=>by cases g⟩
 by_cases b:DF N h (Y5 h q.2) (-1) (p.g q.1)=none
 .rw[DD b];exact⟨⟨fun g=>(by cases g),fun g=>Kh g a⟩,fun x g=>by rw[<- Cm3 g];exact⟨rfl,rfl⟩⟩
 rw[Nt a b];exact⟨⟨fun g=>(by cases g),fun g=>Kh g a⟩,fun x g=>by rw[<- Cm3 g];exact⟨rfl,rfl⟩⟩
def By7 {h:A5}{p:Sl E6}{l:Sl Entry}{c:Int}{q:Nat×Nat}(d:q∈DT l){y:A3}(h1:y.Entry=(q.1:Int))(i:y.Leaf=(q.2:Int)):Ti (GX N h p l c) y ↔ ¬RG N h (Y5 h q.2) (-1) (p.g q.1) ((l.g q.1).Forms.g q.2):=by
 constructor
 .rintro⟨x,hx,e1,e2⟩ b;obtain⟨q',f,a⟩:=CH2.1 hx;obtain⟨g1,g2⟩:=exc_ne.2 x a;obtain rfl:q' = q:=Prod.ext (by omega) (by omega);rw[exc_ne.1.2 b]at a;cases a
 intro b;cases hx:exc N h p l c q with
 |none=>exact Kh (exc_ne.1.1 hx) b
 |some x=>obtain⟨g1,g2⟩:=exc_ne.2 x hx;exact⟨x,CH2.2 ⟨q,d,hx⟩,by omega,by omega⟩
open Classical in
theorem Cb1 {h:A5}{x:Int}{o:Sl (Sl Int)}(v:Ok h x o){p:Sl E6}{l:Sl Entry}(ha:attOk N h p l){s:Sl A3}(hs:s.toList=GX N (MU h o) p l 0):YL (GX N h p l 0) s s.n=V9 (S4 N h p l x) (DT l):=by
 unfold YL;show (s.toList.filter _).length=_;rw[hs];unfold GX V9;have key:∀L:List (Nat×Nat),(∀q∈L,q∈DT l)->((L.filterMap (exc N (MU h o) p l 0)).filter fun y=>!decide (Ti ((DT l).filterMap (exc N h p l 0)) y)).length=(L.filter fun q=>decide (S4 N h p l x q)).length:=by
  intro L
  induction L with
  |nil=>intro _;rfl
  |cons q L ih=>
   intro hL;have a:=hL q (by simp);obtain⟨q1,q2,q3⟩:=Jp a;have hk:q.2<(F7 h.Tree h.Tree.n).n:=by rw[<- ha.fn q.1 q1];exact q2
   obtain⟨u,z,b⟩:=Lc h.Tree h.Tree.n q.2 hk;have d:Y5 h q.2=u:=by unfold Y5;rw[b,Cl2]
   have t:RG N (MU h o) (Y5 (MU h o) q.2) (-1) (p.g q.1) ((l.g q.1).Forms.g q.2)↔RG N h (Y5 h q.2) x (p.g q.1) ((l.g q.1).Forms.g q.2):=by show RG N (MU h o) (Y5 h q.2) (-1) _ _↔_;rw[d];exact BK3 v ha.hist z _ _
   have ih:=ih fun w hw=>hL w (by simp[hw]);rw[Cy9];cases hx:exc N (MU h o) p l 0 q with
   |none=>
    have:=t.1 (exc_ne.1.1 hx)
    rw[Ct4 (by simp[S4,this])];exact ih
   |some y=>
    have i:¬RG N h (Y5 h q.2) x (p.g q.1) ((l.g q.1).Forms.g q.2):=fun g=>by rw[exc_ne.1.2 (t.2 g)]at hx;cases hx
    obtain⟨g1,g2⟩:=exc_ne.2 y hx;have j:=By7 (N:=N) (h:=h) (p:=p) (c:=0) a g1 g2;unfold GX at j;by_cases hb:RG N h (Y5 h q.2) (-1) (p.g q.1) ((l.g q.1).Forms.g q.2)
    .have m:¬Ti ((DT l).filterMap (exc N h p l 0)) y:=fun f=>j.1 f hb;show (List.filter _ (y::_)).length=_;rw[Cx0 (by simp[m]),Cx0 (by simp[S4,hb,i]),Co6,Co6,ih]
    have r:=j.2 hb;show (List.filter _ (y::_)).length=_;rw[Ct4 (by simp[r]),Ct4 (by simp[S4,hb]),ih]
 exact key _ fun q a=>a
open Classical in
theorem By8 {h:A5}{x:Int}(hx:0<=x)(b:∀v,v<h.On.n->∀j,j<(h.On.g v).n->(h.On.g v).g j≠x){p:Sl E6}{l:Sl Entry}(ha:attOk N h p l):V9 (S4 N h p l x) (DT l)=0:=by
 unfold V9;rw[List.length_eq_zero_iff,CE6];intro q f a;have a:=of_decide_eq_true a;obtain⟨q1,q2,q3⟩:=Jp f;have hk:q.2<(F7 h.Tree h.Tree.n).n:=by rw[<- ha.fn q.1 q1];exact q2
 obtain⟨u,i,c⟩:=Lc h.Tree h.Tree.n q.2 hk;have d:Y5 h q.2=u:=by unfold Y5;rw[c,Cl2]
 unfold S4 at a;rw[d]at a;exact a.2 ((BK4 ha.hist hx b i _ _).1 a.1)
def on_lt {h:A5}(a:U7 N h):h.On.n<=1000:=by
 have:=a.on
 have:=a.tree.2.1
 omega
def YM (hN:3000000<=N)(hw:E1 N=some true){h:A5}(hi:I6 h){p:Sl E6}{l:Sl Entry}(hp:K0 p)(hl:S3 l):Ce N h p l=some true:=by
 refine eqR ?_;unfold Ce;obtain⟨b,b1,b2⟩:=Ae8 hN hi hp hl;refine B4 b1 ?_;by_cases g:(!b)=true
 .exact ifT g (B4 hw ⟨_,rfl,rfl⟩)
 refine ifF g ?_;have ha:=b2 (by simpa using g);have a0:=ha.hist;have hon:=on_lt a0;have h64:=a0.laws.1;have a3:=ha.len;obtain⟨s,s1,s2,s3,s4⟩:=YK hN hi hp hl ha;obtain⟨x,x1,x2⟩:=GY hN hi hp hl ha (c:=0) (by omega);have hxn:x.n<=16128:=by rw[<- W2 x,x2];exact Cp0 Fz a3
 refine B4 s1 (B4 x1 (ifF (by simp[s2,s3]) ?_));refine Aq (fun i y=>y=(i:Int)) h.Laws.n _ (by omega) rfl ?_;rintro self i y hle rfl hs;by_cases a6:i<h.Laws.n
 case neg=>exact Bm (B4 hw ⟨_,rfl,rfl⟩)
 refine Ax ?_;refine KU (fun v (o:Sl (Sl Int)) met y=>y=(v:Int)/\o.n=v/\(∀u,u<v->(o.g u).toList=(h.On.g u).toList.filter fun t=>t != (i:Int))/\(met=false->∀u,u<v->∀j,j<(h.On.g u).n->(h.On.g u).g j≠(i:Int))) h.On.n _ (by omega) ⟨rfl,rfl,fun u hu=>Kh hu (Cp7 _),fun _ u hu=>Kh hu (Cp7 _)⟩ ?_;rintro self2 v o met y hv ⟨rfl,ho1,ho2,ho3⟩ hs2;by_cases hvl:v<h.On.n
 .refine Ax ?_;have hrow:=(AG0 a0 (x:=v) (by rw[<- a0.on];exact hvl)).1;refine KU (fun j m (w:Sl Int) y=>y=(j:Int)/\w.toList=((h.On.g v).take j).toList.filter (fun t=>t != (i:Int))/\(m=false->met=false/\∀t,t<j->(h.On.g v).g t≠(i:Int))) (h.On.g v).n _ (by omega) ⟨rfl,rfl,fun e=>⟨e,fun t ht=>Kh ht (Cp7 _)⟩⟩ ?_;rintro self3 j m w y hj ⟨rfl,a1,a2⟩ hs3;have hwn:w.n<=j:=by rw[<- W2 w,a1];refine Cp0 (Cr4 _ _) ?_;rw[W2];exact Cl9 _
  refine Ab ?_;rw[Cl2];by_cases d:j<(h.On.g v).n
  .refine Ax (Ab ?_);rw[Cl2];by_cases e:(h.On.g v).g j=(i:Int)
   .refine ifF (by simp[e]) (hs3 d _ _ _ ⟨Cl,?_,fun f=>by cases f⟩);rw[a1,Jo,Cr0,Ct4 (by simp[e]),List.filter_nil,Cn0]
   refine ifT (by simpa using e) (ifT ⟨by omega,by simp;omega⟩ (hs3 d _ _ _ ⟨Cl,?_,fun f=>⟨(a2 f).1,fun t ht=>?_⟩⟩))
   .rw[La,a1,Jo,Cr0,Cx0 (by simpa using e),List.filter_nil]
   by_cases et:t=j
   .subst et;exact e
   exact (a2 f).2 t (by omega)
  obtain rfl:j=(h.On.g v).n:=by omega
  refine Ci (Ax (hs2 hvl _ _ _ ⟨Cl,by show o.n+1=_;omega,?_,?_⟩))
  .intro u hu;show (if u<o.n then o.g u else w).toList=_;by_cases e:u<v
   .rw[Cw];exact ho2 u e
   obtain rfl:u=v:=by omega
   rw[Fp,a1]
  intro f u hu;by_cases e:u<v
  .exact ho3 (a2 f).1 u e
  obtain rfl:u=v:=by omega
  exact (a2 f).2
 obtain rfl:v=h.On.n:=by omega
 have a:Ok h (i:Int) o:=⟨ho1,ho2⟩;have hal:=BK2 a ha;obtain⟨z,z1,z2⟩:=GY hN (Ca7 a hi) hp hl hal (c:=0) (by omega);have hzn:z.n<=16128:=by rw[<- W2 z,z2];exact Cp0 Fz a3
 refine Ci (B4 z1 (Ci ?_));refine N4 (fun j c y=>y=(j:Int)/\c=((YL (GX N h p l 0) z j:Nat):Int)) z.n _ (by omega) ⟨rfl,rfl⟩ ?_;rintro self4 c0 c y hj ⟨rfl,rfl⟩ hs4;have hlo:=Cb0 (GX N h p l 0) z c0;by_cases d:c0<z.n
 .refine Ax ?_;refine N4 (fun t f y=>y=(t:Int)/\(f=true ↔ ∃r:Nat,r<t/\(x.g r).Entry=(z.g c0).Entry/\(x.g r).Leaf=(z.g c0).Leaf)) x.n _ (by omega) ⟨rfl,by simp⟩ ?_;rintro self5 t f y ht ⟨rfl,hf⟩ a4;by_cases a5:t<x.n
  .refine Ax ?_;cases f with
   |true=>obtain⟨r,r1,r2⟩:=hf.1 rfl;exact ifT rfl (a4 a5 _ _ ⟨Cl,⟨fun _=>⟨r,Nat.lt_succ_of_lt r1,r2⟩,fun _=>rfl⟩⟩)
   |false=>
    have hno:∀r,r<t->(x.g r).Entry=(z.g c0).Entry->(x.g r).Leaf≠(z.g c0).Leaf:=fun r r1 r2 r3=>by cases hf.2 ⟨r,r1,r2,r3⟩
    refine Ck ?_;dsimp only;refine Ab ?_;rw[Cl2,Cl2];by_cases e:(x.g t).Entry=(z.g c0).Entry
    .refine ifT (by simp[e]) (Ab (a4 a5 _ _ ⟨Cl,?_⟩));rw[beq_iff_eq];constructor
     .intro q;exact⟨t,CJ2 t,e,q⟩
     rintro⟨r,r1,r2,r3⟩;by_cases er:r=t
     .subst er;exact r3
     exact Kh r3 (hno r (by omega) r2)
    refine ifF (by simpa using e) (a4 a5 _ _ ⟨Cl,⟨fun q=>(by cases q),?_⟩⟩);rintro⟨r,r1,r2,r3⟩;by_cases er:r=t
    .subst er;exact Kh r2 e
    exact Kh r3 (hno r (by omega) r2)
  obtain rfl:t=x.n:=by omega
  have hfd:f=true↔Ti (GX N h p l 0) (z.g c0):=by
   rw[hf];unfold Ti;rw[<- x2];constructor
   .rintro⟨r,r1,r2⟩;exact⟨x.g r,Cp2.2 ⟨r,Cn2.2 r1,rfl⟩,r2⟩
   rintro⟨e,e1,e2⟩;obtain⟨r,r1,rfl⟩:=Cp2.1 e1;exact⟨r,Cn2.1 r1,e2⟩
  refine Ci ?_;cases f with
  |true=>exact Ck (hs4 d _ _ ⟨Cl,by rw[BK5 (hfd.1 rfl)]⟩)
  |false=>exact ifT rfl (hs4 d _ _ ⟨Cl,by rw[Ca9 fun q=>by cases hfd.2 q];exact Cl⟩)
 obtain rfl:c0=z.n:=by omega
 have hcnt:=Cb1 a ha z2;have hsi:=s4 i a6;refine Ci (Ab ?_);rw[Cl2,hcnt];refine ifT (fun _ _=>by omega) (ifF ?_ (hs a6 _ (Cl)));rw[hsi];cases met with
 |true=>simp
 |false=>rw[By8 (by omega) (ho3 rfl) ha];simp
end Go.AM
namespace Go.AM
open Go.RowKit Go.ChangeShapes Go.WideShapes Go.ChangeAt Go.Deep Go.Proofs Go.Proofs.YtlbooedblpdmaaaGreatDoor
namespace AtNeeds
set_option maxRecDepth 100000
def contract (H:Type)(enc:TypeId×Value->H)(W:World)(base:Nat)(args:Array Value)(ds gs:List (DataW H))(before:List MemPlace)
 (a:∀(j:Nat) t v,Tryz.f6.params[j]? = some t->args[j]? = some v->Value.okWide Tryz.prog W .any base t v)
 (u:DataW.Whole enc Tryz.prog Tryz.f6.params.toList Rows.attestNeedsSpec.vars false W args.toList ds gs before) (hk:Rows.uptoSmall H (ds++gs)=true) (hL:laidMetH Tryz.prog Rows.attestNeedsUptoRow.laid W) :
 Calls Tryz.prog 6 args W fun e W'=>∃v,e=.returned v/\Rows.attestNeedsSpec.post enc Tryz.prog Tryz.f6 false true false false W args v W':=by
 have d:=u;obtain⟨p,q,f,x,rfl,y,z⟩:=u;have w:DataW.TrodAll enc Tryz.prog W 0 (fun _=>true) true Tryz.f6.params.toList args.toList ds p:=f;rw[CY3]at w a;obtain⟨v0,vs0,d0,ds0,p0,q0,l,rfl,rfl,h0,r0⟩:=trodAll_cons w;obtain⟨v1,vs1,d1,ds1,p1,q1,rfl,rfl,rfl,h1,r1⟩:=trodAll_cons r0;obtain⟨v2,vs2,d2,ds2,p2,q2,rfl,rfl,rfl,h2,r2⟩:=trodAll_cons r1;obtain⟨rfl,rfl,rfl⟩:=trodAll_nil r2;obtain rfl:args = #[v0,v1,v2]:=by cases args;simp_all
 obtain⟨rfl,rfl⟩:=trodVars_none x;have hb:=of_decide_eq_true hk;simp only[Cn0,Rows.uptoBulkAll]at hb;obtain⟨cs0,c,_⟩:=okWide_struct Cy7 (a 0 26 v0 rfl rfl);obtain⟨a1,len1,cap1,m⟩:=okWide_slice Cs8 (a 1 27 v1 rfl rfl);obtain⟨a2,len2,cap2,o⟩:=okWide_slice Ct8 (a 2 28 v2 rfl rfl);obtain⟨fu0,g0⟩:=h0;obtain⟨fu1,g1⟩:=h1;obtain⟨fu2,g2⟩:=h2;have r:SJ Tryz.prog [26,22,112,3,9,23,90,87,72,70,4,85,51,88,142,24,43,27,68,28,49]=true:=by kernel_rfl
 have b:∀t∈([26,22,112,3,9,23,90,87,72,70,4,85,51,88,142,24,43,27,68,28,49]:List Nat),t<Tryz.prog.types.size:=by decide +kernel
 obtain⟨pv0,c0,sh0⟩:=I1 GG GH r b fu0 26 _ _ (by simp) g0;obtain⟨x0,l0,w0,s0⟩:=Ca _ _ sh0;have s0:AT x0<=Rows.uptoBulk d0:=s0;have e0:=c0.leD l0;rw[c]at e0;have e0:=OL e0;rw[<- c]at e0;obtain⟨pv1,c1,sh1⟩:=I1 GG GH r b fu1 27 _ _ (by simp) g1;obtain⟨x1,l1,w1,s1⟩:=H1 Cs8 (by kernel_rfl) FH _ _ sh1;have s1:(EK (fun i=>Gp (x1.g i)) x1.n+1)<=Rows.uptoBulk d1:=s1;have e1:=CU (by rw[m];rfl) (c1.leD l1);obtain⟨pv2,c2,sh2⟩:=I1 GG GH r b fu2 28 _ _ (by simp) g2;obtain⟨x2,l2,w2,s2⟩:=H1 Ct8 (by kernel_rfl) Eo _ _ sh2;have s2:(EK (fun i=>Ar (x2.g i)) x2.n+1)<=Rows.uptoBulk d2:=s2;have e2:=CU (by rw[o];rfl) (c2.leD l2);have hP:FunO (Jw Tryz.prog) Ev [.p (.agg (A4 x0)),.p (vSl 2 C6 x1),.p (vSl 2 B7 x2)] [] (.p (.bb true)) [] []:=
  Sn (BB9 _) Ca4 (YM (N:=4194304) (by omega) Em (Ib w0 (by omega)) (Ep w1) (Lg w2 (by omega)))
 have hc:=Ah (args:=[.agg (A4 x0),vSl 2 C6 x1,vSl 2 B7 x2]) (enters_of Tryz.func6 (by decide +kernel) rfl) hP (W:=W) (vs:=#[v0,v1,v2]) (OM hL) rfl (fun i hi=>by
  match i,hi with
  |0,_=>exact e0
  |1,_=>exact e1
  |2,_=>exact e2
  )
 refine hc.mono fun e W' ⟨he,s⟩=>?_;subst he;exact⟨_,rfl,IP rfl (by kernel_rfl) Cs7 (by kernel_rfl) (by rw[CY3];decide +kernel) d rfl s⟩
def own:ownKnob Tryz.prog.godebug=none:=by kernel_rfl
def reads (os:Os){H:Type}(enc:TypeId×Value->H):∃places,DataW.whole enc Tryz.prog ((World.laidAll Tryz.prog os Rows.attestNeedsUptoRow.laid).forCall (fun _ _=>0) ⟨#[],#[.agg #[.slice none 0 0,.slice none 0 0,.slice none 0 0],.slice none 0 0,.slice none 0 0],[]⟩).memory Tryz.f6.params.toList Rows.attestNeedsSpec.vars false (#[.agg #[.slice none 0 0,.slice none 0 0,.slice none 0 0],.slice none 0 0,.slice none 0 0]:Array Value).toList 16=some ([.agg [.nil,.nil,.nil],.nil,.nil],[],places):=
 ⟨[],by kernel_rfl⟩
def laid_met (os:Os):laidMet Tryz.prog Rows.attestNeedsUptoRow.laid ((World.laidAll Tryz.prog os Rows.attestNeedsUptoRow.laid).forCall (fun _ _=>0) ⟨#[],#[.agg #[.slice none 0 0,.slice none 0 0,.slice none 0 0],.slice none 0 0,.slice none 0 0],[]⟩).memory:=
 laidMet_laidAll _ (by kernel_rfl) (by kernel_rfl)
def liftedUpto (os:Os)(started:os.Started)(H:Type)(enc:TypeId×Value->H)(F:Stop.Interp) :ReturnsInHanded {} Tryz.checked os 6 .any ((Rows.OpenSpec.upto Rows.attestNeedsSpec).preRow enc Tryz.prog Tryz.f6 Rows.attestNeedsUptoRow.domain false Rows.attestNeedsUptoRow.laid) (((Rows.OpenSpec.upto Rows.attestNeedsSpec).at F).post enc Tryz.prog Tryz.f6 false true false false):=by
 obtain⟨places,hx⟩:=reads os enc;refine returnsInHanded_of_row (C:=Tryz.checked) (s:=Rows.OpenSpec.upto Rows.attestNeedsSpec) own started (by kernel_rfl) Tryz.func6
  (witness_row_at (enc:=enc) (C:=Tryz.checked) false (World.laidAll Tryz.prog os Rows.attestNeedsUptoRow.laid) #[.agg #[.slice none 0 0,.slice none 0 0,.slice none 0 0],.slice none 0 0,.slice none 0 0] (World.laidAll_os _ _ _) (by kernel_rfl) (by kernel_rfl) (by kernel_rfl)
   (Cu5 16 hx (by kernel_rfl) (fun k hk=>by cases hk;kernel_rfl) (by kernel_rfl) (laid_met os))) ?_
 intro W base args ds gs before b c _ a _ hL _ _;exact contract H enc W base args ds gs before b c (a _ rfl) hL
def gA:jA_ Tryz.pinned.checked.prog 6 Tryz.f6 (Rows.OpenSpec.upto Rows.attestNeedsSpec).bare Rows.attestNeedsUptoRow=true:=by kernel_rfl
def gB:jB_ Tryz.pinned.checked.prog 6 Tryz.f6 (Rows.OpenSpec.upto Rows.attestNeedsSpec).bare Rows.attestNeedsUptoRow=true:=by kernel_rfl
def gC:jC_ Tryz.pinned.checked.prog 6 Tryz.f6 (Rows.OpenSpec.upto Rows.attestNeedsSpec).bare Rows.attestNeedsUptoRow=true:=by kernel_rfl
def gD:jD_ Tryz.pinned.checked.prog 6 Tryz.f6 (Rows.OpenSpec.upto Rows.attestNeedsSpec).bare Rows.attestNeedsUptoRow=true:=by kernel_rfl
def gE:jE_ Tryz.pinned.checked.prog 6 Tryz.f6 (Rows.OpenSpec.upto Rows.attestNeedsSpec).bare Rows.attestNeedsUptoRow=true:=by kernel_rfl
def gF:jF_ Tryz.pinned.checked.prog 6 Tryz.f6 (Rows.OpenSpec.upto Rows.attestNeedsSpec).bare Rows.attestNeedsUptoRow=true:=by kernel_rfl
def saidUpto:Rows.AttestNeedsUptoSaid:=
 Cv2 6 Tryz.f6 rfl rfl rfl rfl rfl rfl rfl ⟨rfl,rfl,rfl,rfl,rfl⟩ rfl rfl rfl rfl rfl (by kernel_rfl) Tryz.func6 (Gm gA gB gC gD gE gF)
  (of_decide_eq_true (by kernel_rfl)) (by unfold Func.isWrapper;first|(rw[Il (by decide +kernel)];kernel_rfl)|(rw[Ix (by decide +kernel)];exact⟨rfl,rfl⟩))
  (fun os started H enc _ F=>by rw[Cv9];exact liftedUpto os started H enc F)
def plain (f:FuncId)(fn:Func)(b:Tryz.pinned.checked.prog.funcNamed "ablaut/ablautlaw26.AttestNeeds" = some f)(a:Tryz.pinned.checked.prog.funcs[f]? = some fn) :true=Tryz.pinned.checked.prog.looks []/\∀(j:Nat) t,fn.params[j]? = some t->Tryz.pinned.checked.prog.wantsStandIn t=false:=by
 obtain rfl:f=6:=Cm3 ((show Tryz.prog.funcNamed "ablaut/ablautlaw26.AttestNeeds" = some 6 by kernel_rfl).symm.trans b) |>.symm;obtain rfl:fn=Tryz.f6:=(Cm3 (Tryz.func6.symm.trans a)).symm;refine⟨by kernel_rfl,fun j t ht=>?_⟩;rw[CY3]at ht;have hm:=Ct1 ht;simp only[CA0,Co1,CA7,or_false]at hm;rcases hm with rfl|rfl|rfl
 .exact (show Tryz.prog.wantsStandIn 26=false by kernel_rfl)
 .exact (show Tryz.prog.wantsStandIn 27=false by kernel_rfl)
 exact (show Tryz.prog.wantsStandIn 28=false by kernel_rfl)
def cardUpto:Rows.AttestNeedsUptoCardSaid:=
 Cs0 .later [] _ _ _ _ saidUpto (fun _ h=>by cases h) (by kernel_rfl) (fun _ h=>by cases h) attestNeedsUpto_row_tie rfl ⟨rfl,rfl⟩ (by kernel_rfl) rfl plain (by kernel_rfl)
end AtNeeds
end Go.AM
