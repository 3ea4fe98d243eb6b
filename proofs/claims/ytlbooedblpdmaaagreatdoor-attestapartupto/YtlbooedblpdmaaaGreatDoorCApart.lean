/- What a law's walk and its plain proof need, part 16: no condition of its own. -/
import Derived.Test.YtlbooedblpdmaaaGreatDoorAJ
import Derived.Test.YtlbooedblpdmaaaGreatDoorAH
import Derived.Test.YtlbooedblpdmaaaGreatDoorAI
import Derived.Test.YtlbooedblpdmaaaGreatDoorAK
import Derived.Lay
set_option linter.defProp false
set_option linter.unusedSimpArgs false
set_option linter.unusedVariables false
set_option linter.unusedSectionVars false
namespace Go.AM
def Cr5:=@Go.Claim7.holds_tied_plain_at
def Ct5:=@Go.Proofs.Tryz.underlying28
def Cu0:=@Go.OpenSpec.preRow_of_cond
def Cu7:=@Go.OpenClaim.holds_of_cond
def Cv4:=@Go.OpenClaim.pre_eq_preRow
def Cz5:=@List.mem_toArray
def CA2:=@List.not_mem_nil
def CF5:=@Go.Proofs.Tryz.underlying5
def CH1:=@List.mem_filterMap
def CN1:=@Go.Proofs.Tryz.params7
def CY4:=@Go.Proofs.Tryz.func29
open Go.Proofs
abbrev Er:Nat:=7
abbrev Lh:Nat:=29
def WJ:Cl1[Lh]? = some Tryz.f29:=CY4
abbrev Al1:Nat:=30
end Go.AM
namespace Go.AM
open IntKind (wrap)
open Go.Proofs
set_option maxRecDepth 10000
set_option maxHeartbeats 2000000
variable {S:W1}(hS:H9 S Tryz.prog) (hL:GD S)
include hS hL
def Id (N:Nat)(p_x:Sl A3)(a:Sl A3):Option Bool:= if ((p_x.n:Int) != (a.n:Int)) then some false else T9 N (fun b (x1:Int)=>if (decide (x1<(p_x.n:Int))) then if (((0:Int)<=x1/\x1<(p_x.n:Int))/\((0:Int)<=x1/\x1<(a.n:Int)))then if ((((p_x.g x1.toNat).Entry==(a.g x1.toNat).Entry)&&(((p_x.g x1.toNat).Leaf==(a.g x1.toNat).Leaf)&&(((p_x.g x1.toNat).Kind==(a.g x1.toNat).Kind)&&((p_x.g x1.toNat).Cost==(a.g x1.toNat).Cost)))) != true) then some false else b (wrap .i64 (x1+1)) else none else some true) 0
theorem Bj1 {N:Nat}{p_x:Sl A3}{a:Sl A3}{y:Bool}(h:Id N p_x a=some y) :FunO S Al1 [.p (vSl 4 A9 p_x),.p (vSl 4 A9 a)] [] (pB y) ([]) []:=by
 unfold Id at h;refine A1 hS Tryz.func30 ?_;apply kI hS h<;>intro h
 .cases h;exact kR hS
 refine E2 hS T3 h (fun x1=>⟨[(5,pN x1),(1,.p (vSl 4 A9 a)),(0,.p (vSl 4 A9 p_x))],[]⟩) (ids:=[]) (fun _ _ _ _ _ b x1 c h=>?_);apply kI hS h<;>intro h
 .refine C5 hS T3 [2,3,6,7] ?_;obtain⟨c9,h⟩:=C7 h;refine D9 (And.intro (And.intro (And.intro (And.intro c9.1 (by decide:(4:Nat)<=4)) c9.2) (by decide:(4:Nat)<=4)) (by decide +kernel:AJ4 Tryz.prog B5=true)) ?_;apply kI hS h<;>intro h
  .cases h;exact kR hS
  exact c _ [] _ (wrap .i64 (x1+1)) T3 h
 cases h;exact kR hS
end Go.AM
namespace Go.AM
open IntKind (wrap)
open Go.Proofs
set_option maxRecDepth 10000
set_option maxHeartbeats 2000000
variable {S:W1}(hS:H9 S Tryz.prog) (hL:GD S)
include hS hL
def BB (N:Nat)(b:A5)(a:Sl E6)(c:Sl Entry):Option Bool:= (S8 N b).bind fun y1=>lt (fun (z1:Bool)=>some z1) fun k1=>if y1 then (S9 N a c).bind fun y4=>if y4 then (N8 N b a c).bind fun y5=>k1 (y5==0) else k1 false else k1 false
theorem WK {N:Nat}{c:A5}{a:Sl E6}{d:Sl Entry}{y:Bool}(h:BB N c a d=some y) :FunO S Lh [.p (.agg (A4 c)),.p (vSl 2 C6 a),.p (vSl 2 B7 d)] [] (pB y) ([]) []:=by
 unfold BB at h;refine A1 hS WJ ?_;refine kC hS h (Ek hS hL) (fun y1 h=>?_);refine Ai hS T3 (A2 hS) h 0 (fun z1=>⟨[(6,pB z1)],[]⟩) (fun M1 k1 b h=>?_) (fun z1 h=>?_)
 .refine kG hS h (fun h=>?_) (fun h=>?_)
  .refine kC hS h (El hS hL) (fun y4 h=>?_);refine kG hS h (fun h=>?_) (fun h=>?_)
   .refine kC hS h (AS hS hL) (fun y5 h=>?_);exact b _ [] _ (y5==0) T3 h
   exact b _ [] _ false T3 h
  exact b _ [] _ false T3 h
 cases h;exact kR hS
def Cb (N:Nat)(d:A5)(a:Sl E6)(b:Sl Entry)(c:Int):Option Bool:= (BB N d a b).bind fun y1=>if (!y1) then (E1 N ).bind fun y2=>some y2 else if (wrap .i64 ((b.n:Int)+1))≠0 then (G2 N d a b 3).bind fun y3=>if (((0:Int)<=((wrap .i64 c).tmod (wrap .i64 ((b.n:Int)+1)))/\((wrap .i64 c).tmod (wrap .i64 ((b.n:Int)+1)))<=(a.n:Int))/\((0:Int)<=((wrap .i64 c).tmod (wrap .i64 ((b.n:Int)+1)))/\((wrap .i64 c).tmod (wrap .i64 ((b.n:Int)+1)))<=(b.n:Int)))then (G2 N d (a.take ((wrap .i64 c).tmod (wrap .i64 ((b.n:Int)+1))).toNat) (b.take ((wrap .i64 c).tmod (wrap .i64 ((b.n:Int)+1))).toNat) 3).bind fun y4=>if (((0:Int)<=((wrap .i64 c).tmod (wrap .i64 ((b.n:Int)+1)))/\((wrap .i64 c).tmod (wrap .i64 ((b.n:Int)+1)))<=(a.n:Int))/\((0:Int)<=((wrap .i64 c).tmod (wrap .i64 ((b.n:Int)+1)))/\((wrap .i64 c).tmod (wrap .i64 ((b.n:Int)+1)))<=(b.n:Int)))then (G2 N d (a.drop ((wrap .i64 c).tmod (wrap .i64 ((b.n:Int)+1))).toNat) (b.drop ((wrap .i64 c).tmod (wrap .i64 ((b.n:Int)+1))).toNat) 3).bind fun y5=>if (((y3.2 != 0)||(y4.2 != 0))||(y5.2 != 0)) then some false else P9 N (fun f (x1:Sl A3) (x2:Int)=>if (decide (x2<(x1.n:Int))) then if (((((0:Int)<=x2/\x2<(x1.n:Int))/\x2.toNat<x1.n)/\((0:Int)<=x2/\x2<(x1.n:Int)))/\x2.toNat<x1.n)then f (x1.upd x2.toNat (⟨wrap .i64 ((x1.g x2.toNat).Entry+((wrap .i64 c).tmod (wrap .i64 ((b.n:Int)+1)))),(x1.g x2.toNat).Leaf,(x1.g x2.toNat).Kind,(x1.g x2.toNat).Cost⟩:A3)) (wrap .i64 (x2+1)) else none else if ((((Sl.of []:Sl A3).n+y4.1.n)*32<=140737488355328/\(Sl.of []:Sl A3).n+y4.1.n<=140737488355328)/\((((Sl.of []:Sl A3).app y4.1).n+x1.n)*32<=140737488355328/\((Sl.of []:Sl A3).app y4.1).n+x1.n<=140737488355328))then (Id N y3.1 (((Sl.of []:Sl A3).app y4.1).app x1)).bind fun y6=>lt (fun (z1:Bool)=>some z1) fun k1=>if y6 then (E1 N ).bind fun y8=>k1 y8 else k1 false else none) y5.1 0 else none else none else none
theorem RI {N:Nat}{j:A5}{d:Sl E6}{f:Sl Entry}{b:Int}{y:Bool}(h:Cb N j d f b=some y) :FunO S Er [.p (.agg (A4 j)),.p (vSl 2 C6 d),.p (vSl 2 B7 f),.p (pI .u8 b)] [] (pB y) ([]) []:=by
 unfold Cb at h;refine A1 hS Tryz.func7 ?_;refine D8 hS T3 8 5000 (A4 j) ?_;obtain⟨y1,e1,h⟩:=B1 h;refine B6 hS [] (by decide:(3:Nat)<=3) (WK hS hL e1) ?_;apply kI hS h<;>intro h
 .refine kC hS h (N0 hS hL) (fun y2 h=>?_);cases h;exact kR hS
 obtain⟨c2,h⟩:=C7 h;obtain⟨y3,e3,h⟩:=B1 h;refine B6 hS [] (And.intro c2 (by decide:(3:Nat)<=3)) (U6 hS hL e3) ?_;refine C5 hS T3 [0] ?_;obtain⟨c3,h⟩:=C7 h;obtain⟨y4,e4,h⟩:=B1 h;refine Ac [] (And.intro (And.intro (by decide:(3:Nat)<=3) c3.1) c3.2) (U6 hS hL e4) ?_;refine D9 T3 ?_;refine C5 hS T3 [0] ?_;obtain⟨c4,h⟩:=C7 h;obtain⟨y5,e5,h⟩:=B1 h;refine Ac [] (And.intro (And.intro (by decide:(3:Nat)<=3) c4.1) c4.2) (U6 hS hL e5) ?_;refine D9 T3 ?_;refine kB hS (A2 hS) T3 T3 7 (.o (.o (.a (y3.2 != 0)) (.a (y4.2 != 0))) (.a (y5.2 != 0))) ?_;apply kI hS h<;>intro h
 .cases h;exact kR hS
 refine D7 hS T3 h (fun x1 x2=>⟨[(16,pN x2),(14,.vec 56000),(12,.vec 45000),(10,.vec 34000),(9,pN ((wrap .i64 b).tmod (wrap .i64 ((f.n:Int)+1))))],[(56000,.vec B5 4 x1.n (fun i=>A9 (x1.g i)) false),(45000,.vec B5 4 y4.1.n (fun i=>A9 (y4.1.g i)) false),(34000,.vec B5 4 y3.1.n (fun i=>A9 (y3.1.g i)) false)]⟩) (ids:=[(34000,34000),(45000,45000),(56000,56000)]) (fun _ _ _ _ _ q x1 x2 r h=>?_);apply kI hS h<;>intro h
 .obtain⟨c9,h⟩:=C7 h;exact r _ [(34000,34000),(45000,45000),(56000,56000)] _ (x1.upd x2.toNat (⟨wrap .i64 ((x1.g x2.toNat).Entry+((wrap .i64 b).tmod (wrap .i64 ((f.n:Int)+1)))),(x1.g x2.toNat).Leaf,(x1.g x2.toNat).Kind,(x1.g x2.toNat).Cost⟩:A3)) (wrap .i64 (x2+1)) (And.intro (And.intro (And.intro c9.1.1.1 c9.1.1.2) c9.1.2) (And.intro (rfl:(1:Nat)=1) (And.intro c9.2 (by decide:(1:Nat)<=4)))) h (hle:=klR [(2,.fn x1.n (x1.upd x2.toNat (⟨wrap .i64 ((x1.g x2.toNat).Entry+((wrap .i64 b).tmod (wrap .i64 ((f.n:Int)+1)))),(x1.g x2.toNat).Leaf,(x1.g x2.toNat).Kind,(x1.g x2.toNat).Cost⟩:A3)).n (fun l=>if l=x2.toNat then splice ((fun i=>A9 (x1.g i)) l) 0 [pI .i64 (wrap .i64 ((x1.g x2.toNat).Entry+((wrap .i64 b).tmod (wrap .i64 ((f.n:Int)+1)))))]else (fun i=>A9 (x1.g i)) l) (fun i=>A9 ((x1.upd x2.toNat (⟨wrap .i64 ((x1.g x2.toNat).Entry+((wrap .i64 b).tmod (wrap .i64 ((f.n:Int)+1)))),(x1.g x2.toNat).Leaf,(x1.g x2.toNat).Kind,(x1.g x2.toNat).Cost⟩:A3)).g i)))] (al1 ⟨rfl,QW (c:=A9) (v:=x1) (x:=(⟨wrap .i64 ((x1.g x2.toNat).Entry+((wrap .i64 b).tmod (wrap .i64 ((f.n:Int)+1)))),(x1.g x2.toNat).Leaf,(x1.g x2.toNat).Kind,(x1.g x2.toNat).Cost⟩:A3)) same (fun _=>by first|rfl|(dsimp only;split<;>rfl))⟩ al0))
 obtain⟨c10,h⟩:=C7 h;refine Da hS (And.intro (And.intro (rfl:true=true) c10.1) c10.2) ⟨[(90,.vec 91000),(85,.vec 34000)],[(91000,.vec B5 4 (((Sl.of []:Sl A3).app y4.1).app x1).n (fun i=>A9 ((((Sl.of []:Sl A3).app y4.1).app x1).g i)) false),(34000,.vec B5 4 y3.1.n (fun i=>A9 (y3.1.g i)) false)]⟩ (ids:=[(34000,34000),(91000,91000)]) ?_ (hle:=klR [(0,.fn ((0+y4.1.n)+x1.n) (((Sl.of []:Sl A3).app y4.1).app x1).n (I4 (0+y4.1.n) (I4 0 (D0 [pI .i64 0,pI .i64 0,pI .i64 0,pI .i64 0] []) (fun i=>A9 (y4.1.g i))) (fun i=>A9 (x1.g i))) (fun i=>A9 ((((Sl.of []:Sl A3).app y4.1).app x1).g i)))] (al1 ⟨rfl,KB (c:=A9) (v:=(Sl.of []:Sl A3).app y4.1) (w:=x1) (KB (c:=A9) (v:=(Sl.of []:Sl A3)) (w:=y4.1) (fun i s=>Kh s (by omega)) rfl same rfl) rfl same rfl⟩ al0));refine kC hS h (Bj1 hS hL) (fun y6 h=>?_);refine Ai hS T3 (A2 hS) h 0 (fun z1=>⟨[(8,pB z1)],[]⟩) (fun M1 k1 m h=>?_) (fun z1 h=>?_)
 .refine kG hS h (fun h=>?_) (fun h=>?_)
  .refine kC hS h (N0 hS hL) (fun y8 h=>?_);exact m _ [] _ y8 T3 h
  exact m _ [] _ false T3 h
 cases h;exact kR hS
end Go.AM
namespace Go.AM
open Go.Proofs
def AT1 {α : Type}{s t:Sl α}(h:s.toList=t.toList):s.n=t.n/\∀i,i<s.n->s.g i=t.g i:=by
 have hn:s.n=t.n:=by rw[<- W2 s,<- W2 t,h]
 refine⟨hn,fun i a=>?_⟩
 have:=congrArg (fun l=>l[i]?) h
 simpa[Sl.toList,a,hn ▸ a]using this
end Go.AM
namespace Go.AM
open Go.Proofs
def Ca5 (a b:Nat):(a:Int).tmod (b:Int)=((a % b:Nat):Int):=rfl
end Go.AM
namespace Go.AM
open Go.Proofs
def ZD {N:Nat}(a:3000000<=N){h:A5}(d:I6 h){p:Sl E6}{l:Sl Entry}(hp:K0 p)(hl:S3 l):∃b,BB N h p l=some b/\(b=true->attOk N h p l):=by
 unfold BB;obtain⟨b,b1,_⟩:=HZ a h;obtain⟨c,c1,_⟩:=Ia a p l;refine B4 b1 (ltX ?_);by_cases g1:b=true
 .refine ifT g1 (B4 c1 ?_);by_cases g2:c=true
  .exact ifT g2 (B4 (W7 a d hp hl) ⟨_,rfl,fun e=>(Cr (by omega) hp hl).1 (by simpa using e)⟩)
  exact ifF g2 ⟨_,rfl,fun e=>by cases e⟩
 exact ifF g1 ⟨_,rfl,fun e=>by cases e⟩
end Go.AM
namespace Go.AM
variable {N:Nat}
open Go.Proofs
def BJ5 {s:Sl E6}{k:Nat}(hk:k<=s.n)(h:¬emp s):¬emp (s.take k):=fun⟨i,h1,a⟩=>h ⟨i,Cm6 h1 hk,a⟩
def BJ6 {s:Sl E6}{k:Nat}(hk:k<=s.n)(h:¬emp s):¬emp (s.drop k):=fun⟨i,h1,a⟩=>h ⟨k+i,by have:i<s.n-k:=h1;omega,a⟩
def Al2 {h:A5}{p:Sl E6}{l:Sl Entry}(ha:attOk N h p l){k:Nat}(hk:k<=l.n):attOk N h (p.take k) (l.take k) where
 hist:=ha.hist
 n:=Cp0 hk ha.n
 pn:=rfl
 pe:=BJ5 (by rw[ha.pn];exact hk) ha.pe
 fn:=fun i a=>ha.fn i (Cm6 a hk)
 fe:=fun i a=>ha.fe i (Cm6 a hk)
 nm:=fun i a=>ha.nm i (Cm6 a hk)
 pw:=fun i a=>ha.pw i (by rw[ha.pn];exact Cm6 a hk)
 fw:=fun i a=>ha.fw i (Cm6 a hk)
def Al3 {h:A5}{p:Sl E6}{l:Sl Entry}(ha:attOk N h p l){k:Nat}(hk:k<=l.n):attOk N h (p.drop k) (l.drop k) where
 hist:=ha.hist
 n:=Cp0 (Nat.sub_le _ _) ha.n
 pn:=by show p.n-k=l.n-k;rw[ha.pn]
 pe:=BJ6 (by rw[ha.pn];exact hk) ha.pe
 fn:=fun i a=>ha.fn (k+i) (by have:i<l.n-k:=a;omega)
 fe:=fun i a=>ha.fe (k+i) (by have:i<l.n-k:=a;omega)
 nm:=fun i a=>ha.nm (k+i) (by have:i<l.n-k:=a;omega)
 pw:=fun i a=>ha.pw (k+i) (by have:i<p.n-k:=a;omega)
 fw:=fun i a=>ha.fw (k+i) (by have:i<l.n-k:=a;omega)
def shQ (k:Nat)(q:Nat×Nat):Nat×Nat:=(k+q.1,q.2)
def shE (k:Nat)(x:A3):A3:=⟨x.Entry+(k:Int),x.Leaf,x.Kind,x.Cost⟩
def Bx5 (l:Sl Entry)(k i n:Nat):attR l (k+i) n=(attR (l.drop k) i n).map (shQ k):=by unfold attR;rw[Cw2];rfl
def AH0 (l:Sl Entry)(k:Nat):∀m,CN l (k+m)=CN l k++(CN (l.drop k) m).map (shQ k)
 |0=>by simp[CN]
 |m+1=>by rw[<- CA9,Gl,AH0 l k m,Gl,Cq9,Cn9,Bx5]
def Bj2 (l:Sl Entry){k:Nat}(hk:k<=l.n):DT l=DT (l.take k)++(DT (l.drop k)).map (shQ k):=by show CN l l.n=CN l k++(CN (l.drop k) (l.n-k)).map (shQ k);rw[<- AH0];congr 1;omega
def BJ7 (N:Nat)(h:A5)(p:Sl E6)(l:Sl Entry)(c:Int)(k:Nat)(q:Nat×Nat):exc N h p l c (shQ k q)=(exc N h (p.drop k) (l.drop k) c q).map (shE k):=by
 by_cases a:RG N h (Y5 h q.2) (-1) (p.g (k+q.1)) ((l.g (k+q.1)).Forms.g q.2)
 .rw[Hu (q:=shQ k q) a,Hu (p:=p.drop k) (l:=l.drop k) a];rfl
 by_cases b:DF N h (Y5 h q.2) (-1) (p.g (k+q.1))=none
 .rw[DD (q:=shQ k q) b,DD (p:=p.drop k) (l:=l.drop k) b];simp[shQ,shE];omega
 rw[Nt (q:=shQ k q) a b,Nt (p:=p.drop k) (l:=l.drop k) a b];simp[shQ,shE];omega
def Bj3 (N:Nat)(h:A5)(p:Sl E6)(l:Sl Entry)(c:Int){k:Nat}(hk:k<=l.n):GX N h p l c=GX N h (p.take k) (l.take k) c++(GX N h (p.drop k) (l.drop k) c).map (shE k):=by unfold GX;rw[Bj2 l hk,Cx7,List.filterMap_map,List.map_filterMap];congr 1;exact congrArg (fun f=>List.filterMap f _) (funext fun q=>BJ7 N h p l c k q)
def Ca6 {h:A5}{p:Sl E6}{l:Sl Entry}{c:Int}{s:Sl A3}(hs:s.toList=GX N h p l c){i:Nat}(d:i<s.n):0<=(s.g i).Entry/\(s.g i).Entry<(l.n:Int):=by
 have hm:s.g i∈s.toList:=Cp2.2 ⟨i,Cn2.2 d,rfl⟩;rw[hs]at hm;obtain⟨q,q1,q2⟩:=CH1.1 hm
 have:=(Jp q1).1
 by_cases a:RG N h (Y5 h q.2) (-1) (p.g q.1) ((l.g q.1).Forms.g q.2)
 .rw[Hu a]at q2;cases q2
 by_cases b:DF N h (Y5 h q.2) (-1) (p.g q.1)=none
 .rw[DD b]at q2;rw[<- Cm3 q2];exact⟨by show (0:Int)<=(q.1:Int);omega,by show (q.1:Int)<_;omega⟩
 rw[Nt a b]at q2;rw[<- Cm3 q2];exact⟨by show (0:Int)<=(q.1:Int);omega,by show (q.1:Int)<_;omega⟩
def Bx6 {a b:Sl A3}(f:a.n<N)(hs:a.n<1000000000)(h:a.toList=b.toList):Id N a b=some true:=by
 obtain⟨h1,g⟩:=AT1 h;refine eqR ?_;unfold Id;refine ifF (by simp[h1]) ?_;refine Aq (fun i x=>x=(i:Int)) a.n _ f rfl ?_;rintro d i x j rfl c;by_cases hl:i<a.n
 .refine Ax (Ab ?_);rw[Cl2,g i hl];exact Ci (c hl _ (Cl))
 exact Bm ⟨_,rfl,rfl⟩
def AH1 {p:Sl E6}(h:K0 p){k:Nat}(hk:k<=p.n):K0 (p.take k):=fun i a=>h i (Cm6 a hk)
def AH2 {p:Sl E6}(h:K0 p){k:Nat}(hk:k<=p.n):K0 (p.drop k):=fun i a=>h (k+i) (by have:i<p.n-k:=a;omega)
def AT2 {p:Sl Entry}(h:S3 p){k:Nat}(hk:k<=p.n):S3 (p.take k):=fun i a=>h i (Cm6 a hk)
def AT3 {p:Sl Entry}(h:S3 p){k:Nat}(hk:k<=p.n):S3 (p.drop k):=fun i a=>h (k+i) (by have:i<p.n-k:=a;omega)
def WL (q:3000000<=N)(hw:E1 N=some true){h:A5}(r:I6 h){p:Sl E6}{l:Sl Entry}(hp:K0 p)(hl:S3 l){at_:Nat}(hat:at_<4294967296):Cb N h p l (at_:Int)=some true:=by
 refine eqR ?_;unfold Cb;obtain⟨b,b1,b2⟩:=ZD q r hp hl;refine B4 b1 ?_;by_cases g:(!b)=true
 .exact ifT g (B4 hw ⟨_,rfl,rfl⟩)
 refine ifF g ?_;have ha:=b2 (by simpa using g);have hn:=ha.n;have hpn:=ha.pn;have m:=ha.len;have e1:IntKind.i64.wrap (at_:Int)=(at_:Int):=E8 (by omega) (by omega);have e2:IntKind.i64.wrap ((l.n:Int)+1)=((l.n+1:Nat):Int):=Cl;rw[e1,e2,Ca5];have hk:at_ % (l.n+1)<=l.n:=Nat.le_of_lt_succ (CL0 _ (by omega));generalize at_ % (l.n+1)=k at hk;rw[Cl2];obtain⟨x,x1,x2⟩:=GY q r hp hl ha (c:=3) (by omega);obtain⟨y,y1,y2⟩:=GY q r (AH1 hp (k:=k) (by omega)) (AT2 hl hk) (Al2 ha hk) (c:=3) (by omega);obtain⟨z,z1,z2⟩:=GY q r (AH2 hp (k:=k) (by omega)) (AT3 hl hk) (Al3 ha hk) (c:=3) (by omega);have hx:x.n<=16128:=by rw[<- W2 x,x2];exact Cp0 Fz m
 have hy:y.n<=16128:=by rw[<- W2 y,y2];exact Cp0 Fz (Al2 ha hk).len
 have hz:z.n<=16128:=by rw[<- W2 z,z2];exact Cp0 Fz (Al3 ha hk).len
 refine Ab (B4 x1 (Ab (B4 y1 (Ab (B4 z1 (Ci ?_))))));refine N4 (fun i (s:Sl A3) j=>j=(i:Int)/\s.n=z.n/\∀t,t<z.n->s.g t=if t<i then shE k (z.g t)else z.g t) z.n _ (by omega) ⟨rfl,rfl,fun t _=>by rw[Fp]⟩ ?_;rintro w i s j hle ⟨rfl,o,hs⟩ u;by_cases d:i<z.n
 .refine Ax (Ab ?_);rw[Cl2];have hv:s.g i=z.g i:=by rw[hs i d,Fp]
  obtain⟨h1,h2⟩:=Ca6 z2 d;have h2:(z.g i).Entry<((l.n-k:Nat):Int):=h2;have h3:IntKind.i64.wrap ((z.g i).Entry+(k:Int))=(z.g i).Entry+(k:Int):=E8 (by omega) (by omega);refine u d _ _ ⟨Cl,o,fun t ht=>?_⟩;show (if t=i then _ else s.g t)=_;by_cases e:t=i
  .subst e;rw[Il rfl,Cw,hv,h3];rfl
  rw[Ix e,hs t ht];by_cases e2:t<i
  .rw[Il e2,Cw]
  rw[Ix e2,Fp]
 obtain rfl:i=z.n:=by omega
 refine Bm (Ax ?_);have v:s.toList=z.toList.map (shE k):=by
  unfold Sl.toList;rw[o,Cw2];exact Co7 fun t ht=>by
   have:=Cn2.1 ht
   rw[hs t this,Il this];rfl
 have f:x.toList=(((Sl.of []:Sl A3).app y).app s).toList:=by rw[Ba4,Ba4,v,x2,y2,z2];exact Bj3 N h p l 3 hk
 exact B4 (Bx6 (a:=x) (by omega) (by omega) f) (ltX (ifT rfl (B4 hw ⟨_,rfl,rfl⟩)))
end Go.AM
namespace Go.AM
open Go.RowKit Go.ChangeShapes Go.WideShapes Go.ChangeAt Go.Deep Go.Proofs Go.Proofs.YtlbooedblpdmaaaGreatDoor
section
variable {H:Type}{enc:TypeId×Value->H}{P:Program}{W:World}
end
theorem wf_u8 {n:Int}(h:(Lit.int .u8 n).wf=true):∃k:Nat,n=(k:Int)/\k<256:=by
 simp only[Lit.wf,IntKind.min,IntKind.max,IntKind.signed,IntKind.bits,Cl8,Sp]at h;have a:0<=n:=by have:=h.1;simpa using this
 have h1:n<256:=by have:=h.2;simp at this;omega
 exact⟨n.toNat,by omega,by omega⟩
end Go.AM
namespace Go.AM
open Go.RowKit Go.ChangeShapes Go.WideShapes Go.ChangeAt Go.Deep Go.Proofs Go.Proofs.YtlbooedblpdmaaaGreatDoor
namespace AtApart
set_option maxRecDepth 100000
def contract (H:Type)(enc:TypeId×Value->H)(W:World)(base:Nat)(args:Array Value)(ds gs:List (DataW H))(before:List MemPlace)
 (a:∀(j:Nat) t v,Tryz.f7.params[j]? = some t->args[j]? = some v->Value.okWide Tryz.prog W .any base t v)
 (x:DataW.Whole enc Tryz.prog Tryz.f7.params.toList Rows.attestApartSpec.vars false W args.toList ds gs before) (hk:Rows.uptoSmall H (ds++gs)=true) (hL:laidMetH Tryz.prog Rows.attestApartUptoRow.laid W) :
 Calls Tryz.prog 7 args W fun e W'=>∃v,e=.returned v/\Rows.attestApartSpec.post enc Tryz.prog Tryz.f7 false true false false W args v W':=by
 have f:=x;obtain⟨p,q,l,z,rfl,a0,a3⟩:=x;have y:DataW.TrodAll enc Tryz.prog W 0 (fun _=>true) true Tryz.f7.params.toList args.toList ds p:=l;rw[CN1]at y a;obtain⟨v0,vs0,d0,ds0,p0,q0,m,rfl,rfl,h0,r0⟩:=trodAll_cons y;obtain⟨v1,vs1,d1,ds1,p1,q1,rfl,rfl,rfl,h1,r1⟩:=trodAll_cons r0;obtain⟨v2,vs2,d2,ds2,p2,q2,rfl,rfl,rfl,h2,r2⟩:=trodAll_cons r1;obtain⟨v3,vs3,d3,ds3,p3,q3,rfl,rfl,rfl,h3,r3⟩:=trodAll_cons r2;obtain⟨rfl,rfl,rfl⟩:=trodAll_nil r3;obtain rfl:args = #[v0,v1,v2,v3]:=by cases args;simp_all
 obtain⟨rfl,rfl⟩:=trodVars_none z;have hb:=of_decide_eq_true hk;simp only[Cn0,Rows.uptoBulkAll]at hb;obtain⟨cs0,c,_⟩:=okWide_struct Cy7 (a 0 26 v0 rfl rfl);obtain⟨a1,len1,cap1,o⟩:=okWide_slice Cs8 (a 1 27 v1 rfl rfl);obtain⟨a2,len2,cap2,r⟩:=okWide_slice Ct5 (a 2 28 v2 rfl rfl);obtain⟨_,s⟩:=okWide_int CF5 (a 3 5 v3 rfl rfl);obtain⟨fu0,g0⟩:=h0;obtain⟨fu1,g1⟩:=h1;obtain⟨fu2,g2⟩:=h2;obtain⟨fu3,g3⟩:=h3;have d:SJ Tryz.prog [26,22,112,3,9,23,90,87,72,70,4,85,51,88,142,24,43,27,68,28,49,5]=true:=by kernel_rfl
 have b:∀t∈([26,22,112,3,9,23,90,87,72,70,4,85,51,88,142,24,43,27,68,28,49,5]:List Nat),t<Tryz.prog.types.size:=by decide +kernel
 obtain⟨pv0,c0,sh0⟩:=I1 GG GH d b fu0 26 _ _ (by simp) g0;obtain⟨x0,l0,w0,s0⟩:=Ca _ _ sh0;have s0:AT x0<=Rows.uptoBulk d0:=s0;have e0:=c0.leD l0;rw[c]at e0;have e0:=OL e0;rw[<- c]at e0;obtain⟨pv1,c1,sh1⟩:=I1 GG GH d b fu1 27 _ _ (by simp) g1;obtain⟨x1,l1,w1,s1⟩:=H1 Cs8 (by kernel_rfl) FH _ _ sh1;have s1:(EK (fun i=>Gp (x1.g i)) x1.n+1)<=Rows.uptoBulk d1:=s1;have e1:=CU (by rw[o];rfl) (c1.leD l1);obtain⟨pv2,c2,sh2⟩:=I1 GG GH d b fu2 28 _ _ (by simp) g2;obtain⟨x2,l2,w2,s2⟩:=H1 Ct5 (by kernel_rfl) Eo _ _ sh2;have s2:(EK (fun i=>Ar (x2.g i)) x2.n+1)<=Rows.uptoBulk d2:=s2;have e2:=CU (by rw[r];rfl) (c2.leD l2);obtain⟨pv3,c3,sh3⟩:=I1 GG GH d b fu3 5 _ _ (by simp) g3;obtain⟨x3,l3,w3,s3⟩:=N9 CF5 _ _ sh3;have s3:1<=Rows.uptoBulk d3:=s3;have e3:=CU (by rw[s];rfl) (c3.leD l3);obtain⟨k3,u,hj3⟩:=wf_u8 w3;have hP:FunO (Jw Tryz.prog) Er [.p (.agg (A4 x0)),.p (vSl 2 C6 x1),.p (vSl 2 B7 x2),.p (pI .u8 x3)] [] (.p (.bb true)) [] []:=
  RI (BB9 _) Ca4 (by rw[u];exact WL (N:=4194304) (by omega) Em (Ib w0 (by omega)) (Ep w1) (Lg w2 (by omega)) (by omega))
 have hc:=Ah (args:=[.agg (A4 x0),vSl 2 C6 x1,vSl 2 B7 x2,pI .u8 x3]) (enters_of Tryz.func7 (by decide +kernel) rfl) hP (W:=W) (vs:=#[v0,v1,v2,v3]) (OM hL) rfl (fun i hi=>by
  match i,hi with
  |0,_=>exact e0
  |1,_=>exact e1
  |2,_=>exact e2
  |3,_=>exact e3
  )
 refine hc.mono fun e W' ⟨he,w⟩=>?_;subst he;exact⟨_,rfl,IP rfl (by kernel_rfl) Cs7 (by kernel_rfl) (by rw[CN1];decide +kernel) f rfl w⟩
def own:ownKnob Tryz.prog.godebug=none:=by kernel_rfl
def reads (os:Os){H:Type}(enc:TypeId×Value->H):∃places,DataW.whole enc Tryz.prog ((World.laidAll Tryz.prog os Rows.attestApartUptoRow.laid).forCall (fun _ _=>0) ⟨#[],#[.agg #[.slice none 0 0,.slice none 0 0,.slice none 0 0],.slice none 0 0,.slice none 0 0,.int .u8 0],[]⟩).memory Tryz.f7.params.toList Rows.attestApartSpec.vars false (#[.agg #[.slice none 0 0,.slice none 0 0,.slice none 0 0],.slice none 0 0,.slice none 0 0,.int .u8 0]:Array Value).toList 16=some ([.agg [.nil,.nil,.nil],.nil,.nil,.lit (.int .u8 0)],[],places):=
 ⟨[],by kernel_rfl⟩
def laid_met (os:Os):laidMet Tryz.prog Rows.attestApartUptoRow.laid ((World.laidAll Tryz.prog os Rows.attestApartUptoRow.laid).forCall (fun _ _=>0) ⟨#[],#[.agg #[.slice none 0 0,.slice none 0 0,.slice none 0 0],.slice none 0 0,.slice none 0 0,.int .u8 0],[]⟩).memory:=
 laidMet_laidAll _ (by kernel_rfl) (by kernel_rfl)
def liftedUpto (os:Os)(started:os.Started)(H:Type)(enc:TypeId×Value->H)(F:Stop.Interp) :ReturnsInHanded {} Tryz.checked os 7 .any ((Rows.OpenSpec.upto Rows.attestApartSpec).preRow enc Tryz.prog Tryz.f7 Rows.attestApartUptoRow.domain false Rows.attestApartUptoRow.laid) (((Rows.OpenSpec.upto Rows.attestApartSpec).at F).post enc Tryz.prog Tryz.f7 false true false false):=by
 obtain⟨places,hx⟩:=reads os enc;refine returnsInHanded_of_row (C:=Tryz.checked) (s:=Rows.OpenSpec.upto Rows.attestApartSpec) own started (by kernel_rfl) Tryz.func7
  (witness_row_at (enc:=enc) (C:=Tryz.checked) false (World.laidAll Tryz.prog os Rows.attestApartUptoRow.laid) #[.agg #[.slice none 0 0,.slice none 0 0,.slice none 0 0],.slice none 0 0,.slice none 0 0,.int .u8 0] (World.laidAll_os _ _ _) (by kernel_rfl) (by kernel_rfl) (by kernel_rfl)
   (Cu0 16 hx (by kernel_rfl) (fun k hk=>by cases hk;kernel_rfl) (by kernel_rfl) (laid_met os))) ?_
 intro W base args ds gs before b c _ a _ hL _ _;exact contract H enc W base args ds gs before b c (a _ rfl) hL
def gA:jA_ Tryz.pinned.checked.prog 7 Tryz.f7 (Rows.OpenSpec.upto Rows.attestApartSpec).bare Rows.attestApartUptoRow=true:=by kernel_rfl
def gB:jB_ Tryz.pinned.checked.prog 7 Tryz.f7 (Rows.OpenSpec.upto Rows.attestApartSpec).bare Rows.attestApartUptoRow=true:=by kernel_rfl
def gC:jC_ Tryz.pinned.checked.prog 7 Tryz.f7 (Rows.OpenSpec.upto Rows.attestApartSpec).bare Rows.attestApartUptoRow=true:=by kernel_rfl
def gD:jD_ Tryz.pinned.checked.prog 7 Tryz.f7 (Rows.OpenSpec.upto Rows.attestApartSpec).bare Rows.attestApartUptoRow=true:=by kernel_rfl
def gE:jE_ Tryz.pinned.checked.prog 7 Tryz.f7 (Rows.OpenSpec.upto Rows.attestApartSpec).bare Rows.attestApartUptoRow=true:=by kernel_rfl
def gF:jF_ Tryz.pinned.checked.prog 7 Tryz.f7 (Rows.OpenSpec.upto Rows.attestApartSpec).bare Rows.attestApartUptoRow=true:=by kernel_rfl
def saidUpto:Rows.AttestApartUptoSaid:=
 Cu7 7 Tryz.f7 rfl rfl rfl rfl rfl rfl rfl ⟨rfl,rfl,rfl,rfl,rfl⟩ rfl rfl rfl rfl rfl (by kernel_rfl) Tryz.func7 (Gm gA gB gC gD gE gF)
  (of_decide_eq_true (by kernel_rfl)) (by unfold Func.isWrapper;first|(rw[Il (by decide +kernel)];kernel_rfl)|(rw[Ix (by decide +kernel)];exact⟨rfl,rfl⟩))
  (fun os started H enc _ F=>by rw[Cv4];exact liftedUpto os started H enc F)
def plain (f:FuncId)(fn:Func)(b:Tryz.pinned.checked.prog.funcNamed "ablaut/ablautlaw26.AttestApart" = some f)(a:Tryz.pinned.checked.prog.funcs[f]? = some fn) :true=Tryz.pinned.checked.prog.looks []/\∀(j:Nat) t,fn.params[j]? = some t->Tryz.pinned.checked.prog.wantsStandIn t=false:=by
 obtain rfl:f=7:=Cm3 ((show Tryz.prog.funcNamed "ablaut/ablautlaw26.AttestApart" = some 7 by kernel_rfl).symm.trans b) |>.symm;obtain rfl:fn=Tryz.f7:=(Cm3 (Tryz.func7.symm.trans a)).symm;refine⟨by kernel_rfl,fun j t ht=>?_⟩;rw[CN1]at ht;have hm:=Ct1 ht;simp only[Cz5,Co1,CA2,or_false]at hm;rcases hm with rfl|rfl|rfl|rfl
 .exact (show Tryz.prog.wantsStandIn 26=false by kernel_rfl)
 .exact (show Tryz.prog.wantsStandIn 27=false by kernel_rfl)
 .exact (show Tryz.prog.wantsStandIn 28=false by kernel_rfl)
 exact (show Tryz.prog.wantsStandIn 5=false by kernel_rfl)
def cardUpto:Rows.AttestApartUptoCardSaid:=
 Cr5 .later [] _ _ _ _ saidUpto (fun _ h=>by cases h) (by kernel_rfl) (fun _ h=>by cases h) attestApartUpto_row_tie rfl ⟨rfl,rfl⟩ (by kernel_rfl) rfl plain (by kernel_rfl)
end AtApart
end Go.AM
