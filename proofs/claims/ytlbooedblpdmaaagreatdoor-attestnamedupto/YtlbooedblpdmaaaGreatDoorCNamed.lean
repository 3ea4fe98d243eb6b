/- Part 12. -/
import Derived.Test.YtlbooedblpdmaaaGreatDoorEI
import Derived.Test.YtlbooedblpdmaaaGreatDoorEG
import Derived.Test.YtlbooedblpdmaaaGreatDoorEH
import Derived.Test.YtlbooedblpdmaaaGreatDoorEJ
import Derived.Lay
set_option linter.defProp false
set_option linter.unusedSimpArgs false
set_option linter.unusedVariables false
set_option linter.unusedSectionVars false
namespace Go.AM
def Bz5:=@Go.Proofs.Tryz.underlying28
def BA1:=@Go.Proofs.Tryz.underlying5
def BB6:=@Go.Claim7.holds_tied_plain_at
def BC4:=@List.Pairwise.imp
def BD2:=@Go.OpenSpec.preRow_of_cond
def BD4:=@Go.OpenClaim.holds_of_cond
def BD6:=@Go.OpenClaim.pre_eq_preRow
def BF6:=@List.filterMap_cons
def BG1:=@Go.Proofs.Tryz.params10
def BH4:=@Go.Proofs.Tryz.func10
def BH5:=@Prod.ext
section
variable {S:U3}{P:Program}{F:K6}{K:List It}{st:St}{g:Cfg}{pr:Prop}
theorem Bc6 {k:Nat}{g:Nat->List PV}:AV.p (.v (.slice none 0 0))=.p (.sl false k 0 g) \/ ∃x y,AV.p (.v (.slice none 0 0))=.p x/\AV.p (.sl false k 0 g)=.p y/\leQ x y:=
 .inr ⟨_,_,rfl,rfl,.inl (.inr (.inr (.inl ⟨_,_,rfl,rfl⟩)))⟩
end
end Go.AM
namespace Go.AM
open Go.Proofs
abbrev Cf:Nat:=10
def EK:Bm1[Cf]? = some Tryz.f10:=BH4
abbrev Qa:Nat:=29
abbrev Jb:Nat:=31
end Go.AM
namespace Go.AM
open IntKind (wrap)
open Go.Proofs
set_option maxRecDepth 10000
set_option maxHeartbeats 2000000
variable {S:U3}(Z:H2 S Tryz.prog) (Y:Ij S)
include Z Y
def By (N:Nat)(a:Sl A1):Option (Int×Int):= Am8 N (fun b (x1:Int) (x2:Bool) (x3:Int)=>if (decide (x3<(a.n:Int))) then if ((0:Int)<=x3/\x3<(a.n:Int))then if (decide ((a.g x3.toNat).Cost<0)) then some (0,2) else if (decide ((wrap .i64 (9223372036854775807-x1))<(a.g x3.toNat).Cost)) then b x1 true (wrap .i64 (x3+1)) else b (wrap .i64 (x1+(a.g x3.toNat).Cost)) x2 (wrap .i64 (x3+1)) else none else if x2 then some (0,7) else some (x1,0)) 0 false 0
theorem Rq {N:Nat}{a:Sl A1}{y:Int×Int}(h:By N a=some y) :FunO S Jb [.p (vSl 4 A4 a)] [] (.tup [pN y.1,pN y.2]) ([]) []:=by
 unfold By at h;refine A3 Z Tryz.func31 ?_;refine IU Z Pq h (fun x1 x2 x3=>⟨[(10,pN x3),(9,pN (a.n:Int)),(8,.p (vSl 4 A4 a)),(5,pB x2),(4,pN x1)],[]⟩) (ids:=[]) (fun _ _ _ _ _ d x1 x2 x3 c h=>?_);apply kI Z h<;>intro h
 .obtain⟨c10,h⟩:=D6 h;refine D4 Z (And.intro c10 Rh) (b:=decide ((a.g x3.toNat).Cost<0)) (fun c11=>?_) (fun c11=>?_)
  .replace h:=itT c11 h;cases h;exact kR Z
  replace h:=itF c11 h;apply kI Z h<;>intro h
  .exact c _ [] _ x1 true (wrap .i64 (x3+1)) Pq h
  exact c _ [] _ (wrap .i64 (x1+(a.g x3.toNat).Cost)) x2 (wrap .i64 (x3+1)) Pq h
 apply kI Z h<;>intro h
 .cases h;exact kR Z
 cases h;exact kR Z
end Go.AM
namespace Go.AM
open Go.Proofs
set_option maxRecDepth 10000
set_option maxHeartbeats 2000000
variable {S:U3}(Z:H2 S Tryz.prog) (Y:Ij S)
include Z Y
def EL (N:Nat)(b:A6)(a:Sl F0)(c:Sl Entry):Option Bool:= (Cd N b).bind fun y1=>lt (fun (z1:Bool)=>some z1) fun k1=>if y1 then (Ce N a c).bind fun y4=>if y4 then (S9 N b a c).bind fun y5=>k1 (y5==0) else k1 false else k1 false
theorem Ae3 {N:Nat}{c:A6}{a:Sl F0}{d:Sl Entry}{y:Bool}(h:EL N c a d=some y) :FunO S Qa [.p (.agg (A7 c)),.p (vSl 2 C0 a),.p (vSl 2 B2 d)] [] (pB y) ([]) []:=by
 unfold EL at h;refine A3 Z Tryz.func29 ?_;refine kC Z h (MT Z Y) (fun y1 h=>?_);refine EC Z Pq (A5 Z) h 0 (fun z1=>⟨[(6,pB z1)],[]⟩) (fun M1 k1 b h=>?_) (fun z1 h=>?_)
 .refine kG Z h (fun h=>?_) (fun h=>?_)
  .refine kC Z h (MU Z Y) (fun y4 h=>?_);refine kG Z h (fun h=>?_) (fun h=>?_)
   .refine kC Z h (El Z Y) (fun y5 h=>?_);exact b _ [] _ (y5==0) Pq h
   exact b _ [] _ false Pq h
  exact b _ [] _ false Pq h
 cases h;exact kR Z
end Go.AM
namespace Go.AM
open IntKind (wrap)
open Go.Proofs
set_option maxRecDepth 10000
set_option maxHeartbeats 2000000
variable {S:U3}(Z:H2 S Tryz.prog) (Y:Ij S)
include Z Y
def Ai (N:Nat)(c:A6)(b:Sl F0)(d:Sl Entry)(a:Int):Option Bool:= (EL N c b d).bind fun y1=>if (!y1) then (P9 N ).bind fun y2=>some y2 else (I2 N c b d 7).bind fun y3=>(G7 N c b d y3.1).bind fun y4=>(G7 N c b d (Sl.nil:Sl A1)).bind fun y5=>(J9 N c.Tree).bind fun y6=>if ((((((y3.2 != 0)||(y4.2 != 0))||(y5.2 != 0))||(y6.2 != 0))||(!y4.1))||((y5.1==((y3.1.n:Int)==0)) != true)) then some false else Q7 N (fun i (x4:Int)=>if (decide (x4<(y6.1.n:Int))) then (N4 N c b d x4).bind fun j=>S0 N (fun f (x8:Sl Int) (x9:Int)=>if (decide (x9<(y3.1.n:Int))) then if (((0:Int)<=x9/\x9<(y3.1.n:Int))/\x9.toNat<y3.1.n)then if ((y3.1.g x9.toNat).Leaf==x4) then if ((((0:Int)<=x9/\x9<(y3.1.n:Int))/\x9.toNat<y3.1.n)/\((x8.n+(Sl.of [(y3.1.g x9.toNat).Entry]:Sl Int).n)*8<=140737488355328/\x8.n+(Sl.of [(y3.1.g x9.toNat).Entry]:Sl Int).n<=140737488355328))then f (x8.push (y3.1.g x9.toNat).Entry) (wrap .i64 (x9+1)) else none else f x8 (wrap .i64 (x9+1)) else none else lt (fun (z3:Bool)=>if z3 then some false else i (wrap .i64 (x4+1))) fun k3=>if (j.2 != 0) then k3 true else (U8 N j.1 x8).bind fun o=>k3 (!o)) Sh 0 else (N4 N c b d (y6.1.n:Int)).bind fun q=>if (q.2 != 3) then some false else if ((y3.1.n:Int)==0) then (P9 N ).bind fun r=>some r else if (y3.1.n:Int)≠0 then if (((((0:Int)<=((wrap .i64 a).tmod (y3.1.n:Int))/\((wrap .i64 a).tmod (y3.1.n:Int))<=(y3.1.n:Int))/\(((Sl.of []:Sl A1).n+(y3.1.take ((wrap .i64 a).tmod (y3.1.n:Int)).toNat).n)*32<=140737488355328/\(Sl.of []:Sl A1).n+(y3.1.take ((wrap .i64 a).tmod (y3.1.n:Int)).toNat).n<=140737488355328))/\((0:Int)<=(wrap .i64 (((wrap .i64 a).tmod (y3.1.n:Int))+1))/\(wrap .i64 (((wrap .i64 a).tmod (y3.1.n:Int))+1))<=(y3.1.n:Int)))/\((((Sl.of []:Sl A1).app (y3.1.take ((wrap .i64 a).tmod (y3.1.n:Int)).toNat)).n+(y3.1.drop (wrap .i64 (((wrap .i64 a).tmod (y3.1.n:Int))+1)).toNat).n)*32<=140737488355328/\((Sl.of []:Sl A1).app (y3.1.take ((wrap .i64 a).tmod (y3.1.n:Int)).toNat)).n+(y3.1.drop (wrap .i64 (((wrap .i64 a).tmod (y3.1.n:Int))+1)).toNat).n<=140737488355328))then (G7 N c b d (((Sl.of []:Sl A1).app (y3.1.take ((wrap .i64 a).tmod (y3.1.n:Int)).toNat)).app (y3.1.drop (wrap .i64 (((wrap .i64 a).tmod (y3.1.n:Int))+1)).toNat))).bind fun l=>(By N y3.1).bind fun m=>lt (fun (z4:Bool)=>some z4) fun k4=>if (l.2==0) then if (!l.1) then if (m.2==0) then if (m.1==(wrap .i64 (7*(y3.1.n:Int)))) then (P9 N ).bind fun s=>k4 s else k4 false else k4 false else k4 false else k4 false else none else none) 0
theorem Kq {N:Nat}{j:A6}{f:Sl F0}{l:Sl Entry}{d:Int}{y:Bool}(h:Ai N j f l d=some y) :FunO S Cf [.p (.agg (A7 j)),.p (vSl 2 C0 f),.p (vSl 2 B2 l),.p (pI .u8 d)] [] (pB y) ([]) []:=by
 unfold Ai at h;refine A3 Z EK ?_;refine G4 Z Pq 8 5000 (A7 j) ?_;obtain⟨y1,e1,h⟩:=B9 h;refine C6 Z [] Rg (Ae3 Z Y e1) ?_;apply kI Z h<;>intro h
 .refine kC Z h (Dp Z Y) (fun y2 h=>?_);cases h;exact kR Z
 obtain⟨y3,e3,h⟩:=B9 h;refine C6 Z [] Rg (Bn Z Y e3) ?_;obtain⟨y4,e4,h⟩:=B9 h;refine C6 Z [] Rg (Af Z Y e4) ?_;obtain⟨y5,e5,h⟩:=B9 h;refine C6 Z [] Rg (FunO.le Z (args:=[(.p (.agg (A7 j))),.p (vSl 2 C0 f),.p (vSl 2 B2 l),.p M8]) (by exact⟨.inl rfl,⟨.inl rfl,⟨.inl rfl,⟨Bc6,trivial⟩⟩⟩⟩) (Af Z Y e5)) ?_;refine kC Z h (Aj Z Y) (fun y6 h=>?_);refine kB Z (A5 Z) Pq Pq 22 (.o (.o (.o (.o (.o (.a (y3.2 != 0)) (.a (y4.2 != 0))) (.a (y5.2 != 0))) (.a (y6.2 != 0))) (.a (!y4.1))) (.a ((y5.1==((y3.1.n:Int)==0)) != true))) ?_;apply kI Z h<;>intro h
 .cases h;exact kR Z
 refine H0 Z Pq h (fun x4=>⟨[(17,pN x4),(15,.vec 62000),(9,.vec 41000),(4,.p (.ptr (A7 j))),(3,.p (pI .u8 d)),(2,.p (vSl 2 B2 l)),(1,.p (vSl 2 C0 f))],[(62000,.vec C7 1 y6.1.n (fun i=>cI .i64 (y6.1.g i)) true),(41000,.vec B1 4 y3.1.n (fun i=>A4 (y3.1.g i)) true)]⟩) (ids:=[(41000,41000),(62000,62000)]) (fun _ _ _ _ _ t x4 u h=>?_);apply kI Z h<;>intro h
 .obtain⟨q,e13,h⟩:=B9 h;refine C6 Z [] Rg (Fn Z Y e13) ?_;refine G9 Z Pq h (fun x8 x9=>⟨[(21,pN x9),(20,.vec 21500),(19,pN q.2),(18,.vec 101000),(17,pN x4),(15,.vec 62000),(9,.vec 41000),(4,.p (.ptr (A7 j))),(3,.p (pI .u8 d)),(2,.p (vSl 2 B2 l)),(1,.p (vSl 2 C0 f))],[(101000,.vec C7 1 q.1.n (fun i=>cI .i64 (q.1.g i)) true),(62000,.vec C7 1 y6.1.n (fun i=>cI .i64 (y6.1.g i)) true),(41000,.vec B1 4 y3.1.n (fun i=>A4 (y3.1.g i)) true),(21500,.vec C7 1 x8.n (fun i=>cI .i64 (x8.g i)) false)]⟩) (ids:=[(41000,41000),(62000,62000),(101000,101000)]) (fun _ _ _ _ _ a0 x8 x9 r h=>?_);apply kI Z h<;>intro h
  .obtain⟨c41,h⟩:=D6 h;refine D4 Z c41 (b:=(y3.1.g x9.toNat).Leaf==x4) (fun c42=>?_) (fun c42=>?_)
   .replace h:=itT c42 h;obtain⟨c43,h⟩:=D6 h;exact r _ [(21500,124000),(41000,41000),(62000,62000),(101000,101000)] _ (x8.push (y3.1.g x9.toNat).Entry) (wrap .i64 (x9+1)) (And.intro (And.intro (And.intro c43.1.1 c43.1.2) Rp) c43.2) h (hle:=klR [(10,.fn (x8.n+1) (x8.push (y3.1.g x9.toNat).Entry).n (T2 x8.n (fun i=>cI .i64 (x8.g i)) (D3 [pI .i64 0] [(0,cI .i64 (y3.1.g x9.toNat).Entry)])) (fun i=>cI .i64 ((x8.push (y3.1.g x9.toNat).Entry).g i)))] (al1 ⟨rfl,EA (c:=cI .i64) (v:=x8) (x:=(y3.1.g x9.toNat).Entry) (z:=[(pI .i64 0)]) same rfl rfl⟩ al0))
   replace h:=itF c42 h;exact r _ [(21500,21500),(41000,41000),(62000,62000),(101000,101000)] _ x8 (wrap .i64 (x9+1)) Pq h
  refine EC Z Pq (A5 Z) h 0 (fun z3=>⟨[(131,pB z3),(17,pN x4),(15,.vec 62000),(9,.vec 41000),(4,.p (.ptr (A7 j))),(3,.p (pI .u8 d)),(2,.p (vSl 2 B2 l)),(1,.p (vSl 2 C0 f))],[(62000,.vec C7 1 y6.1.n (fun i=>cI .i64 (y6.1.g i)) true),(41000,.vec B1 4 y3.1.n (fun i=>A4 (y3.1.g i)) true)]⟩) (fun M3 k3 s h=>?_) (fun z3 h=>?_)
  .refine kG Z h (fun h=>?_) (fun h=>?_)
   .exact s _ [(41000,41000),(62000,62000)] _ true Pq h
   refine kC Z h (Fo Z Y) (fun a1 h=>?_);exact s _ [(41000,41000),(62000,62000)] _ (!a1) Pq h
  apply kI Z h<;>intro h
  .cases h;exact kR Z
  exact u _ [(41000,41000),(62000,62000)] _ (wrap .i64 (x4+1)) Pq h
 obtain⟨a3,e16,h⟩:=B9 h;refine C6 Z [] Rg (Fn Z Y e16) ?_;apply kI Z h<;>intro h
 .cases h;exact kR Z
 apply kI Z h<;>intro h
 .refine kC Z h (Dp Z Y) (fun a4 h=>?_);cases h;exact kR Z
 refine P0 Z Pq 147 ⟨[(9,.p (vSl 4 A4 y3.1)),(4,.p (.ptr (A7 j))),(3,.p (pI .u8 d)),(2,.p (vSl 2 B2 l)),(1,.p (vSl 2 C0 f))],[]⟩ (ids:=[]) ?_;obtain⟨c50,h⟩:=D6 h;refine E3 Z c50 [1000] ?_;obtain⟨c51,h⟩:=D6 h;refine H3 (And.intro (And.intro (And.intro (And.intro Rp c51.1.1.1) c51.1.1.2) c51.1.2) c51.2) ?_;refine Bz Z Rg ⟨[(166,.vec 162000),(165,.p (vSl 2 B2 l)),(164,.p (vSl 2 C0 f)),(163,.p (.agg (A7 j))),(9,.p (vSl 4 A4 y3.1))],[(162000,.vec B1 4 (((Sl.of []:Sl A1).app (y3.1.take ((wrap .i64 d).tmod (y3.1.n:Int)).toNat)).app (y3.1.drop (wrap .i64 (((wrap .i64 d).tmod (y3.1.n:Int))+1)).toNat)).n (fun i=>A4 ((((Sl.of []:Sl A1).app (y3.1.take ((wrap .i64 d).tmod (y3.1.n:Int)).toNat)).app (y3.1.drop (wrap .i64 (((wrap .i64 d).tmod (y3.1.n:Int))+1)).toNat)).g i)) false)]⟩ (ids:=[(162000,162000)]) ?_ (hle:=klR [(4,.fn ((0+(y3.1.take ((wrap .i64 d).tmod (y3.1.n:Int)).toNat).n)+(y3.1.drop (wrap .i64 (((wrap .i64 d).tmod (y3.1.n:Int))+1)).toNat).n) (((Sl.of []:Sl A1).app (y3.1.take ((wrap .i64 d).tmod (y3.1.n:Int)).toNat)).app (y3.1.drop (wrap .i64 (((wrap .i64 d).tmod (y3.1.n:Int))+1)).toNat)).n (T2 (0+(y3.1.take ((wrap .i64 d).tmod (y3.1.n:Int)).toNat).n) (T2 0 (D3 [pI .i64 0,pI .i64 0,pI .i64 0,pI .i64 0] []) (fun i=>A4 ((y3.1.take ((wrap .i64 d).tmod (y3.1.n:Int)).toNat).g i))) (fun i=>A4 ((y3.1.drop (wrap .i64 (((wrap .i64 d).tmod (y3.1.n:Int))+1)).toNat).g i))) (fun i=>A4 ((((Sl.of []:Sl A1).app (y3.1.take ((wrap .i64 d).tmod (y3.1.n:Int)).toNat)).app (y3.1.drop (wrap .i64 (((wrap .i64 d).tmod (y3.1.n:Int))+1)).toNat)).g i)))] (al1 ⟨rfl,WC (c:=A4) (v:=(Sl.of []:Sl A1).app (y3.1.take ((wrap .i64 d).tmod (y3.1.n:Int)).toNat)) (w:=y3.1.drop (wrap .i64 (((wrap .i64 d).tmod (y3.1.n:Int))+1)).toNat) (WC (c:=A4) (v:=(Sl.of []:Sl A1)) (w:=y3.1.take ((wrap .i64 d).tmod (y3.1.n:Int)).toNat) (fun i hi=>Pm hi (by omega)) rfl same rfl) rfl same rfl⟩ al0));refine kC Z h (Af Z Y) (fun y18 h=>?_);refine kC Z h (Rq Z Y) (fun y19 h=>?_);refine EC Z Pq (A5 Z) h 0 (fun z4=>⟨[(8,pB z4)],[]⟩) (fun M4 k4 m h=>?_) (fun z4 h=>?_)
 .refine kG Z h (fun h=>?_) (fun h=>?_)
  .refine kG Z h (fun h=>?_) (fun h=>?_)
   .refine kG Z h (fun h=>?_) (fun h=>?_)
    .refine kG Z h (fun h=>?_) (fun h=>?_)
     .refine kC Z h (Dp Z Y) (fun a2 h=>?_);exact m _ [] _ a2 Pq h
     exact m _ [] _ false Pq h
    exact m _ [] _ false Pq h
   exact m _ [] _ false Pq h
  exact m _ [] _ false Pq h
 cases h;exact kR Z
end Go.AM
namespace Go.AM
open Go.Proofs
def tm (a b:Nat):(a:Int).tmod (b:Int)=((a % b:Nat):Int):=rfl
end Go.AM
namespace Go.AM
open Go.Proofs
def Al0:Int:=9223372036854775807
def CJ (s:Sl A1):Nat->Int×Bool
 |0=>(0,false)
 |i+1=>if Al0-(CJ s i).1<(s.g i).Cost then ((CJ s i).1,true)else ((CJ s i).1+(s.g i).Cost,(CJ s i).2)
def MY {s:Sl A1}{i:Nat}(h:Al0-(CJ s i).1<(s.g i).Cost):CJ s (i+1)=((CJ s i).1,true):=Pk h
def Mh {s:Sl A1}{i:Nat}(h:¬Al0-(CJ s i).1<(s.g i).Cost):CJ s (i+1)=((CJ s i).1+(s.g i).Cost,(CJ s i).2):=Pl h
def TO {s:Sl A1}:∀i,(∀j,j<i->0<=(s.g j).Cost)->0<=(CJ s i).1/\(CJ s i).1<=Al0
 |0,_=>⟨Int.le_refl _,by show (0:Int)<=9223372036854775807;omega⟩
 |i+1,h=>by
  obtain⟨h1,a⟩:=TO i fun j b=>h j (by omega);have c:=h i (by omega);by_cases e:Al0-(CJ s i).1<(s.g i).Cost
  .rw[MY e];exact⟨h1,a⟩
  rw[Mh e];exact⟨by show 0<=(CJ s i).1+_;omega,by show (CJ s i).1+_<=_;omega⟩
open Classical in
noncomputable def Am9 (s:Sl A1):Int×Int:=if ∃i,i<s.n/\(s.g i).Cost<0 then (0,2)else if (CJ s s.n).2 then (0,7)else ((CJ s s.n).1,0)
def Bc7 {n:Int}(h:0<=n)(h' : n<=Al0):IntKind.i64.wrap n=n:=F1 (by omega) (by unfold Al0 at h';omega)
def An0 {N:Nat}{s:Sl A1}(o:s.n<N)(hs:s.n<1000000000):By N s=some (Am9 s):=by
 refine eqR ?_;unfold By;refine TP (fun i x1 x2 x3=>x3=(i:Int)/\x1=(CJ s i).1/\x2=(CJ s i).2/\∀j,j<i->0<=(s.g j).Cost) s.n _ o ⟨rfl,rfl,rfl,fun j a=>Pm a (by omega)⟩ ?_;rintro m i x1 x2 x3 r ⟨rfl,rfl,rfl,a⟩ b;obtain⟨r1,r2⟩:=TO i a;by_cases hl:i<s.n
 .refine An (Am ?_);rw[Bm2];have ew:IntKind.i64.wrap (9223372036854775807-(CJ s i).1)=Al0-(CJ s i).1:=Bc7 (by unfold Al0 at r2;omega) (by unfold Al0;omega);rw[ew];by_cases f:(s.g i).Cost<0
  .exact ifT (by simpa using f) ⟨_,rfl,by unfold Am9;rw[Pk ⟨i,hl,f⟩]⟩
  have c : ∀j,j<i+1->0<=(s.g j).Cost:=fun j q=>by
   by_cases e:j=i
   .subst e;omega
   exact a j (by omega)
  refine ifF (by simpa using f) ?_;by_cases h1:Al0-(CJ s i).1<(s.g i).Cost
  .exact ifT (by simpa using h1) (b hl _ _ _ ⟨Pd,by rw[MY h1],by rw[MY h1],c⟩)
  exact ifF (by simpa using h1) (b hl _ _ _ ⟨Pd,by rw[Mh h1];exact Bc7 (by omega) (by omega),by rw[Mh h1],c⟩)
 obtain rfl:i=s.n:=by omega
 refine Oj ?_;have l:¬ ∃i,i<s.n/\(s.g i).Cost<0:=fun⟨k,h1,d⟩=>by have:=a k h1;omega
 unfold Am9;rw[Pl l];by_cases d:(CJ s s.n).2=true
 .exact ifT d ⟨_,rfl,by rw[Pk d]⟩
 exact ifF d ⟨_,rfl,by rw[Pl d]⟩
end Go.AM
namespace Go.AM
open Go.Proofs
def An1 {N:Nat}(a:3000000<=N){h:A6}(d:U4 h){p:Sl F0}{l:Sl Entry}(hp:Bx p)(hl:EJ l):∃b,EL N h p l=some b/\(b=true->attOk N h p l):=by
 unfold EL;obtain⟨b,b1,_⟩:=TH a h;obtain⟨c,c1,_⟩:=TI a p l;refine B3 b1 (ltX ?_);by_cases g1:b=true
 .refine ifT g1 (B3 c1 ?_);by_cases g2:c=true
  .exact ifT g2 (B3 (Hj a d hp hl) ⟨_,rfl,fun e=>(Kr (by omega) hp hl).1 (by simpa using e)⟩)
  exact ifF g2 ⟨_,rfl,fun e=>by cases e⟩
 exact ifF g1 ⟨_,rfl,fun e=>by cases e⟩
end Go.AM
namespace Go.AM
open Go.Proofs
def exc_ne {N:Nat}{h:A6}{p:Sl F0}{l:Sl Entry}{c:Int}{q:Nat×Nat}:(exc N h p l c q=none↔AB1 N h (HD h q.2) (-1) (p.g q.1) ((l.g q.1).Forms.g q.2))/\∀x,exc N h p l c q=some x->x.Entry=(q.1:Int)/\x.Leaf=(q.2:Int):=by
 by_cases a:AB1 N h (HD h q.2) (-1) (p.g q.1) ((l.g q.1).Forms.g q.2)
 .rw[Ks a];exact⟨⟨fun _=>a,fun _=>rfl⟩,fun x g=>by cases g⟩
 by_cases b:DF N h (HD h q.2) (-1) (p.g q.1)=none
 .rw[Hk b];exact⟨⟨fun g=>(by cases g),fun g=>Pm g a⟩,fun x g=>by rw[<- Bn8 g];exact⟨rfl,rfl⟩⟩
 rw[Qb a b];exact⟨⟨fun g=>(by cases g),fun g=>Pm g a⟩,fun x g=>by rw[<- Bn8 g];exact⟨rfl,rfl⟩⟩
end Go.AM
namespace Go.AM
variable {N:Nat}
open Go.Proofs
def plE (a b:A1):Prop:=a.Entry=b.Entry/\a.Leaf=b.Leaf
def AQ4 (l:Sl Entry):(YG l).Pairwise fun a b=>a≠b:=by
 unfold YG Ae4;rw[List.pairwise_flatMap];constructor
 .intro i _;unfold attR;rw[List.pairwise_map];refine BC4 ?_ (List.Pairwise.filter _ List.nodup_range);intro a b h e;exact h (congrArg Prod.snd e)
 refine BC4 ?_ (List.nodup_range (n:=l.n));intro a b h x hx y hy e;obtain⟨_,_,rfl⟩:=Bp0.1 hx;obtain⟨_,_,rfl⟩:=Bp0.1 hy;exact h (congrArg Prod.fst e)
def AQ5 (N:Nat)(h:A6)(p:Sl F0)(l:Sl Entry)(c:Int):(Lh N h p l c).Pairwise fun a b=>¬plE a b:=by unfold Lh;rw[List.pairwise_filterMap];refine BC4 ?_ (AQ4 l);intro a b d x hx y hy ⟨e1,e2⟩;obtain⟨u1,u2⟩:=exc_ne.2 x hx;obtain⟨v1,v2⟩:=exc_ne.2 y hy;exact d (BH5 (by omega) (by omega))
def sl_pw {s:Sl A1}(h:s.toList.Pairwise fun a b=>¬plE a b){i j:Nat}(d:i<s.n)(f:j<s.n)(l:i≠j):¬plE (s.g i) (s.g j):=by
 unfold Sl.toList at h;rw[List.pairwise_map,List.pairwise_iff_getElem]at h;have key:∀a b,a<b->b<s.n->¬plE (s.g a) (s.g b):=fun a b c hb=>by
  have:=h a b (by simp;omega) (by simp;omega) c
  simpa using this
 rcases Nat.lt_or_ge i j with g|g
 .exact key i j g f
 exact fun⟨e1,e2⟩=>key j i (by omega) d ⟨e1.symm,e2.symm⟩
def MZ {N:Nat}{h:A6}{p:Sl F0}{l:Sl Entry}{c c' : Int}:∀L:List (Nat×Nat),(L.filterMap (exc N h p l c)).map (fun e=>(e.Entry,e.Leaf))=(L.filterMap (exc N h p l c')).map fun e=>(e.Entry,e.Leaf)
 |[]=>rfl
 |q::L=>by
  rw[BF6,BF6];by_cases a:AB1 N h (HD h q.2) (-1) (p.g q.1) ((l.g q.1).Forms.g q.2)
  .rw[Ks a,Ks a];exact MZ L
  by_cases b:DF N h (HD h q.2) (-1) (p.g q.1)=none
  .rw[Hk b,Hk b];show _::_=_::_;rw[MZ L]
  rw[Qb a b,Qb a b];show _::_=_::_;rw[MZ L]
def An2 {L L' : List A1}(h:L.map (fun e=>(e.Entry,e.Leaf))=L'.map fun e=>(e.Entry,e.Leaf))(x:Int):Dq L x=Dq L' x:=by
 have e:∀M:List A1,Dq M x=((M.map fun e=>(e.Entry,e.Leaf)).filter fun q=>q.2==x).map fun q=>q.1:=fun M=>by unfold Dq;rw[List.filter_map,Bt3];rfl
 rw[e,e,h]
def Rr {h:A6}{p:Sl F0}{l:Sl Entry}{c:Int}{s:Sl A1}(ha:attOk N h p l)(hs:s.toList=Lh N h p l c){i:Nat}(d:i<s.n):¬OV l (G8 h.Tree h.Tree.n).n (s.g i)/\(s.g i).Cost=c:=by
 have hm:s.g i∈s.toList:=Bp0.2 ⟨i,Bp3.2 d,rfl⟩;rw[hs]at hm;obtain⟨q,q1,q2⟩:=List.mem_filterMap.1 hm;obtain⟨g1,g2⟩:=exc_ne.2 _ q2;obtain⟨a1,a2,_⟩:=YH q1;have a3:=ha.fn q.1 a1;refine⟨?_,?_⟩
 .unfold OV;omega
 by_cases a:AB1 N h (HD h q.2) (-1) (p.g q.1) ((l.g q.1).Forms.g q.2)
 .rw[Ks a]at q2;cases q2
 by_cases b:DF N h (HD h q.2) (-1) (p.g q.1)=none
 .rw[Hk b]at q2;rw[<- Bn8 q2]
 rw[Qb a b]at q2;rw[<- Bn8 q2]
def Bc8 {h:A6}{p:Sl F0}{l:Sl Entry}{c c' : Int}{s:Sl A1}(hs:s.toList=Lh N h p l c){y:A1}(hy:y∈Lh N h p l c'):∃i,i<s.n/\plE (s.g i) y:=by have hm:(y.Entry,y.Leaf)∈(Lh N h p l c').map fun e=>(e.Entry,e.Leaf):=Bp0.2 ⟨y,hy,rfl⟩;unfold Lh at hm;rw[MZ (c':=c)]at hm;obtain⟨z,z1,z2⟩:=Bp0.1 hm;have z1:z∈Lh N h p l c:=z1;rw[<- hs]at z1;obtain⟨i,i1,rfl⟩:=Bp0.1 z1;exact⟨i,Bp3.1 i1,congrArg Prod.fst z2,congrArg Prod.snd z2⟩
def YI {s:Sl A1}{c:Nat}(hc:c<=1000000000)(h:∀i,i<s.n->(s.g i).Cost=(c:Int)):∀i,i<=s.n->i<=1000000->CJ s i=(((c*i:Nat):Int),false)
 |0,_,_=>rfl
 |i+1,hi,hm=>by have ih:=YI hc h i (by omega) (by omega);have a:=h i (by omega);have hb:c*i<=1000000000*1000000:=Nat.mul_le_mul hc (by omega);rw[Mh (by rw[ih,a];unfold Al0;show ¬(9223372036854775807-((c*i:Nat):Int)<(c:Int));omega),ih,a];refine BH5 ?_ rfl;show ((c*i:Nat):Int)+(c:Int)=((c*(i+1):Nat):Int);rw[Nat.mul_succ];omega
def Na (f:3000000<=N)(hw:P9 N=some true){h:A6}(a:U4 h){p:Sl F0}{l:Sl Entry}(hp:Bx p)(hl:EJ l){wh:Nat}(hwh:wh<4294967296):Ai N h p l (wh:Int)=some true:=by
 refine eqR ?_;unfold Ai;obtain⟨b,b1,b2⟩:=An1 f a hp hl;refine B3 b1 ?_;by_cases g:(!b)=true
 .exact ifT g (B3 hw ⟨_,rfl,rfl⟩)
 refine ifF g ?_;have ha:=b2 (by simpa using g);have a1:=ha.hist;have a2:=ha.len;have h63:=Kt a1.tree;obtain⟨x,x1,x2⟩:=YJ f a hp hl ha (c:=7) (by omega);have hxn:x.n<=16128:=by rw[<- DU x,x2];exact Bq1 Jc a2
 have hle:(Lh N h p l 0).length=x.n:=by have e:=congrArg List.length (MZ (N:=N) (h:=h) (p:=p) (l:=l) (c:=0) (c':=7) (YG l));rw[Bq3,Bq3]at e;rw[<- DU x,x2];exact e
 obtain⟨r,_,r1,_,_,_,r2,_⟩:=DS f a hp hl (bad:=x) (by omega);obtain⟨s,_,s1,_,_,_,s2,_⟩:=DS f a hp hl (bad:=(Sl.nil:Sl A1)) (by show (0:Nat)<_;omega);have r3:r=(true,0):=by
  rcases r2 ha with⟨_,_,i,i1,i2⟩ | ⟨e1,_,e3⟩
  .exact Pm i2 (Rr ha x2 i1).1
  refine BH5 (e3.2 fun y hy=>?_) e1;obtain⟨i,i1,i2⟩:=Bc8 x2 hy;exact⟨i,i1,i2⟩
 have s3:s.2=0/\(s.1=true↔x.n=0):=by
  rcases s2 ha with⟨_,_,i,i1,i2⟩ | ⟨e1,_,e3⟩
  .exact Pm i1 (Bp1 _)
  refine⟨e1,e3.trans ⟨fun q=>?_,fun q y hy=>?_⟩⟩
  .rw[<- hle];cases hB:Lh N h p l 0 with
   |nil=>rfl
   |cons y L=>obtain⟨t,t1,_⟩:=q y (by rw[hB];simp);exact Pm t1 (Bp1 _)
  rw[q]at hle;rw[List.length_eq_zero_iff.1 hle]at hy;cases hy
 have s4:(s.1==((x.n:Int)==0))=true:=by rw[beq_iff_eq,Bq0,s3.2,beq_iff_eq];omega
 obtain⟨v1,_⟩:=Gu f a.tree a1.tree;refine B3 x1 (B3 r1 (B3 s1 (B3 v1 (ifF ?_ ?_))))
 .rw[r3,s3.1,s4];simp
 refine X5 (fun i y=>y=(i:Int)) (G8 h.Tree h.Tree.n).n _ (by omega) rfl ?_;rintro a9 i y b0 rfl hs;by_cases a5:i<(G8 h.Tree h.Tree.n).n
 .refine An ?_;obtain⟨q,_,q1,_,_,_,q2,q3,q4,_⟩:=Rm f a hp hl (i:Int);have q5:=q3.2 ⟨ha,by omega,by omega⟩;refine B3 q1 ?_;refine Q0 (fun j (w:Sl Int) y=>y=(j:Int)/\w.n<=j/\w.toList=Dq (x.take j).toList (i:Int)) x.n _ (by omega) ⟨rfl,Bm9 _,rfl⟩ ?_;rintro a6 j w y hj ⟨rfl,hwn,o⟩ a3;by_cases d:j<x.n
  .refine An (ifT ⟨⟨by omega,by show _<(x.n:Int);omega⟩,by rw[Bm2];exact d⟩ ?_);rw[Bm2];by_cases e:((x.g j).Leaf==(i:Int))=true
   .exact ifT e (ifT ⟨⟨⟨by omega,by show _<(x.n:Int);omega⟩,d⟩,by simp;omega⟩ (a3 d _ _ ⟨Pd,by show w.n+1<=_;omega,by rw[Gv,o,Hl,Pk e]⟩))
   exact ifF e (a3 d _ _ ⟨Pd,by omega,by rw[o,Hl,Pl e,Br5]⟩)
  obtain rfl:j=x.n:=by omega
  have a7:SE q.1 w:=by rw[<- tl_eq,q4 q5,o];show Dq _ _=Dq x.toList _;rw[x2];exact An2 (MZ _) _
  refine Oj (ltX (ifF (by simp[q5]) (B3 (MV (by omega) (by omega) a7) (P6 (hs a5 _ (Pd))))))
 obtain rfl:i=(G8 h.Tree h.Tree.n).n:=by omega
 obtain⟨q,_,q1,_,_,_,_,_,_,_,q6⟩:=Rm f a hp hl ((G8 h.Tree h.Tree.n).n:Int);have q7:=q6 ha (by omega);refine Oj (B3 q1 (ifF (by simp[q7]) ?_));by_cases h0:x.n=0
 .exact ifT (by simp[h0]) (B3 hw ⟨_,rfl,rfl⟩)
 refine ifF (by simp[h0]) ?_;dsimp only;have e1:IntKind.i64.wrap (wh:Int)=(wh:Int):=F1 (by omega) (by omega);rw[e1,tm];have hk:wh % x.n<x.n:=Nat.mod_lt _ (by omega);generalize wh % x.n=k at hk;have e2:IntKind.i64.wrap ((k:Int)+1)=((k+1:Nat):Int):=Pd;rw[e2,Bm2,Bm2];refine Am (ifT ⟨⟨⟨by omega,by simp;omega⟩,by omega⟩,by simp;omega⟩ ?_);obtain⟨u,_,u1,_,_,_,u2,_⟩:=DS f a hp hl (bad:=((Sl.of []:Sl A1).app (x.take k)).app (x.drop (k+1))) (by simp;omega);have m:∀t,t<(((Sl.of []:Sl A1).app (x.take k)).app (x.drop (k+1))).n->∃i,i<x.n/\i≠k/\(((Sl.of []:Sl A1).app (x.take k)).app (x.drop (k+1))).g t=x.g i:=by
  intro t ht;have ht:t<0+k+(x.n-(k+1)):=ht;show ∃i,i<x.n/\i≠k/\(if t<0+k then (if t<0 then default else x.g (t-0))else x.g (k+1+(t-(0+k))))=x.g i;by_cases e:t<0+k
  .rw[Pk e,Pg];exact⟨t,by omega,by omega,rfl⟩
  rw[Pl e];exact⟨k+1+(t-(0+k)),by omega,by omega,rfl⟩
 have u3:u=(false,0):=by
  rcases u2 ha with⟨_,_,i,i1,i2⟩ | ⟨e1,_,e3⟩
  .obtain⟨j,j1,_,j3⟩:=m i i1;rw[j3]at i2;exact Pm i2 (Rr ha x2 j1).1
  refine BH5 ?_ e1;cases hu:u.1 with
  |false=>rfl
  |true=>
   exfalso;have hm:x.g k∈Lh N h p l 7:=by rw[<- x2];exact Bp0.2 ⟨k,Bp3.2 hk,rfl⟩
   obtain⟨B,a8,a4⟩:∃B∈Lh N h p l 0,plE B (x.g k):=by have v:((x.g k).Entry,(x.g k).Leaf)∈(Lh N h p l 7).map fun e=>(e.Entry,e.Leaf):=Bp0.2 ⟨_,hm,rfl⟩;unfold Lh at v;rw[MZ (c':=0)]at v;obtain⟨z,z1,z2⟩:=Bp0.1 v;exact⟨z,z1,congrArg Prod.fst z2,congrArg Prod.snd z2⟩
   obtain⟨t,t1,t2⟩:=e3.1 hu B a8;obtain⟨j,j1,j2,j3⟩:=m t t1;rw[j3]at t2;exact sl_pw (by rw[x2];exact AQ5 N h p l 7) j1 hk j2 ⟨t2.1.trans a4.1,t2.2.trans a4.2⟩
 have a0:Am9 x=(((7*x.n:Nat):Int),0):=by have hc:=YI (s:=x) (c:=7) (by omega) (fun i a=>(Rr ha x2 a).2) x.n (Bm9 _) (by omega);unfold Am9;rw[Pl,hc,Pj];rintro⟨i,i1,i2⟩;rw[(Rr ha x2 i1).2]at i2;omega
 have e3:IntKind.i64.wrap (7*(x.n:Int))=((7*x.n:Nat):Int):=by rw[F1 (by omega) (by omega)];omega
 refine B3 u1 (B3 (An0 (by omega) (by omega)) (ltX ?_));rw[u3,a0,e3];exact Gc (Gc (Gc (Gc (B3 hw ⟨_,rfl,rfl⟩))))
end Go.AM
namespace Go.AM
open Go.RowKit Go.ChangeShapes Go.WideShapes Go.ChangeAt Go.Deep Go.Proofs Go.Proofs.YtlbooedblpdmaaaGreatDoor
section
variable {H:Type}{enc:TypeId×Value->H}{P:Program}{W:World}
end
theorem wf_u8 {n:Int}(h:(Lit.int .u8 n).wf=true):∃k:Nat,n=(k:Int)/\k<256:=by
 simp only[Lit.wf,IntKind.min,IntKind.max,IntKind.signed,IntKind.bits,Bm8,Pp]at h;have a:0<=n:=by have:=h.1;simpa using this
 have h1:n<256:=by have:=h.2;simp at this;omega
 exact⟨n.toNat,by omega,by omega⟩
end Go.AM
namespace Go.AM
open Go.RowKit Go.ChangeShapes Go.WideShapes Go.ChangeAt Go.Deep Go.Proofs Go.Proofs.YtlbooedblpdmaaaGreatDoor
namespace AtNamed
set_option maxRecDepth 100000
def contract (H:Type)(enc:TypeId×Value->H)(W:World)(base:Nat)(args:Array Value)(ds gs:List (DataW H))(before:List MemPlace)
 (a:∀(j:Nat) t v,Tryz.f10.params[j]? = some t->args[j]? = some v->Value.okWide Tryz.prog W .any base t v)
 (x:DataW.Whole enc Tryz.prog Tryz.f10.params.toList Rows.attestNamedSpec.vars false W args.toList ds gs before) (hk:Rows.uptoSmall H (ds++gs)=true) (Y:laidMetH Tryz.prog Rows.attestNamedUptoRow.laid W) :
 Calls Tryz.prog 10 args W fun e W'=>∃v,e=.returned v/\Rows.attestNamedSpec.post enc Tryz.prog Tryz.f10 false true false false W args v W':=by
 have f:=x;obtain⟨p,q,l,z,rfl,a0,a3⟩:=x;have y:DataW.TrodAll enc Tryz.prog W 0 (fun _=>true) true Tryz.f10.params.toList args.toList ds p:=l;rw[BG1]at y a;obtain⟨v0,vs0,d0,ds0,p0,q0,m,rfl,rfl,h0,r0⟩:=trodAll_cons y;obtain⟨v1,vs1,d1,ds1,p1,q1,rfl,rfl,rfl,h1,r1⟩:=trodAll_cons r0;obtain⟨v2,vs2,d2,ds2,p2,q2,rfl,rfl,rfl,h2,r2⟩:=trodAll_cons r1;obtain⟨v3,vs3,d3,ds3,p3,q3,rfl,rfl,rfl,h3,r3⟩:=trodAll_cons r2;obtain⟨rfl,rfl,rfl⟩:=trodAll_nil r3;obtain rfl:args = #[v0,v1,v2,v3]:=by cases args;simp_all
 obtain⟨rfl,rfl⟩:=trodVars_none z;have hb:=of_decide_eq_true hk;simp only[Br5,Rows.uptoBulkAll]at hb;obtain⟨cs0,c,_⟩:=okWide_struct BC3 (a 0 26 v0 rfl rfl);obtain⟨a1,len1,cap1,o⟩:=okWide_slice Bx5 (a 1 27 v1 rfl rfl);obtain⟨a2,len2,cap2,r⟩:=okWide_slice Bz5 (a 2 28 v2 rfl rfl);obtain⟨_,s⟩:=okWide_int BA1 (a 3 5 v3 rfl rfl);obtain⟨fu0,g0⟩:=h0;obtain⟨fu1,g1⟩:=h1;obtain⟨fu2,g2⟩:=h2;obtain⟨fu3,g3⟩:=h3;have d:Am5 Tryz.prog [26,22,112,3,9,23,90,87,72,70,4,85,51,88,142,24,43,27,68,28,49,5]=true:=by kernel_rfl
 have b:∀t∈([26,22,112,3,9,23,90,87,72,70,4,85,51,88,142,24,43,27,68,28,49,5]:List Nat),t<Tryz.prog.types.size:=by decide +kernel
 obtain⟨pv0,c0,sh0⟩:=Ah Rn Ro d b fu0 26 _ _ (by simp) g0;obtain⟨x0,l0,w0,s0⟩:=IZ _ _ sh0;have s0:De x0<=Rows.uptoBulk d0:=s0;have e0:=c0.leD l0;rw[c]at e0;have e0:=Am6 e0;rw[<- c]at e0;obtain⟨pv1,c1,sh1⟩:=Ah Rn Ro d b fu1 27 _ _ (by simp) g1;obtain⟨x1,l1,w1,s1⟩:=M9 Bx5 (by kernel_rfl) Kn _ _ sh1;have s1:(DT (fun i=>Io (x1.g i)) x1.n+1)<=Rows.uptoBulk d1:=s1;have e1:=Ip (by rw[o];rfl) (c1.leD l1);obtain⟨pv2,c2,sh2⟩:=Ah Rn Ro d b fu2 28 _ _ (by simp) g2;obtain⟨x2,l2,w2,s2⟩:=M9 Bz5 (by kernel_rfl) MX _ _ sh2;have s2:(DT (fun i=>CU (x2.g i)) x2.n+1)<=Rows.uptoBulk d2:=s2;have e2:=Ip (by rw[r];rfl) (c2.leD l2);obtain⟨pv3,c3,sh3⟩:=Ah Rn Ro d b fu3 5 _ _ (by simp) g3;obtain⟨x3,l3,w3,s3⟩:=K9 BA1 _ _ sh3;have s3:1<=Rows.uptoBulk d3:=s3;have e3:=Ip (by rw[s];rfl) (c3.leD l3);obtain⟨k3,u,hj3⟩:=wf_u8 w3;have hP:FunO (HC Tryz.prog) Cf [.p (.agg (A7 x0)),.p (vSl 2 C0 x1),.p (vSl 2 B2 x2),.p (pI .u8 x3)] [] (.p (.bb true)) [] []:=
  Kq (Bl0 _) libC (by rw[u];exact Na (N:=4194304) (by omega) PZ (TL w0 (by omega)) (Ko w1) (TM w2 (by omega)) (by omega))
 have hc:=Ja (args:=[.agg (A7 x0),vSl 2 C0 x1,vSl 2 B2 x2,pI .u8 x3]) (enters_of EK (by decide +kernel) rfl) hP (W:=W) (vs:=#[v0,v1,v2,v3]) (Am7 Y) rfl (fun i hi=>by
  match i,hi with
  |0,_=>exact e0
  |1,_=>exact e1
  |2,_=>exact e2
  |3,_=>exact e3
  )
 refine hc.mono fun e W' ⟨he,w⟩=>?_;subst he;exact⟨_,rfl,YF rfl (by kernel_rfl) Bv2 (by kernel_rfl) (by rw[BG1];decide +kernel) f rfl w⟩
def own:ownKnob Tryz.prog.godebug=none:=by kernel_rfl
def reads (os:Os){H:Type}(enc:TypeId×Value->H):∃places,DataW.whole enc Tryz.prog ((World.laidAll Tryz.prog os Rows.attestNamedUptoRow.laid).forCall (fun _ _=>0) ⟨#[],#[.agg #[.slice none 0 0,.slice none 0 0,.slice none 0 0],.slice none 0 0,.slice none 0 0,.int .u8 0],[]⟩).memory Tryz.f10.params.toList Rows.attestNamedSpec.vars false (#[.agg #[.slice none 0 0,.slice none 0 0,.slice none 0 0],.slice none 0 0,.slice none 0 0,.int .u8 0]:Array Value).toList 16=some ([.agg [.nil,.nil,.nil],.nil,.nil,.lit (.int .u8 0)],[],places):=
 ⟨[],by kernel_rfl⟩
def laid_met (os:Os):laidMet Tryz.prog Rows.attestNamedUptoRow.laid ((World.laidAll Tryz.prog os Rows.attestNamedUptoRow.laid).forCall (fun _ _=>0) ⟨#[],#[.agg #[.slice none 0 0,.slice none 0 0,.slice none 0 0],.slice none 0 0,.slice none 0 0,.int .u8 0],[]⟩).memory:=
 laidMet_laidAll _ (by kernel_rfl) (by kernel_rfl)
def liftedUpto (os:Os)(started:os.Started)(H:Type)(enc:TypeId×Value->H)(F:Stop.Interp) :ReturnsInHanded {} Tryz.checked os 10 .any ((Rows.OpenSpec.upto Rows.attestNamedSpec).preRow enc Tryz.prog Tryz.f10 Rows.attestNamedUptoRow.domain false Rows.attestNamedUptoRow.laid) (((Rows.OpenSpec.upto Rows.attestNamedSpec).at F).post enc Tryz.prog Tryz.f10 false true false false):=by
 obtain⟨places,hx⟩:=reads os enc;refine returnsInHanded_of_row (C:=Tryz.checked) (s:=Rows.OpenSpec.upto Rows.attestNamedSpec) own started (by kernel_rfl) BH4
  (witness_row_at (enc:=enc) (C:=Tryz.checked) false (World.laidAll Tryz.prog os Rows.attestNamedUptoRow.laid) #[.agg #[.slice none 0 0,.slice none 0 0,.slice none 0 0],.slice none 0 0,.slice none 0 0,.int .u8 0] (World.laidAll_os _ _ _) (by kernel_rfl) (by kernel_rfl) (by kernel_rfl)
   (BD2 16 hx (by kernel_rfl) (fun k hk=>by cases hk;kernel_rfl) (by kernel_rfl) (laid_met os))) ?_
 intro W base args ds gs before b c _ a _ Y _ _;exact contract H enc W base args ds gs before b c (a _ rfl) Y
def gA:jA_ Tryz.pinned.checked.prog 10 Tryz.f10 (Rows.OpenSpec.upto Rows.attestNamedSpec).bare Rows.attestNamedUptoRow=true:=by kernel_rfl
def gB:jB_ Tryz.pinned.checked.prog 10 Tryz.f10 (Rows.OpenSpec.upto Rows.attestNamedSpec).bare Rows.attestNamedUptoRow=true:=by kernel_rfl
def gC:jC_ Tryz.pinned.checked.prog 10 Tryz.f10 (Rows.OpenSpec.upto Rows.attestNamedSpec).bare Rows.attestNamedUptoRow=true:=by kernel_rfl
def gD:jD_ Tryz.pinned.checked.prog 10 Tryz.f10 (Rows.OpenSpec.upto Rows.attestNamedSpec).bare Rows.attestNamedUptoRow=true:=by kernel_rfl
def gE:jE_ Tryz.pinned.checked.prog 10 Tryz.f10 (Rows.OpenSpec.upto Rows.attestNamedSpec).bare Rows.attestNamedUptoRow=true:=by kernel_rfl
def gF:jF_ Tryz.pinned.checked.prog 10 Tryz.f10 (Rows.OpenSpec.upto Rows.attestNamedSpec).bare Rows.attestNamedUptoRow=true:=by kernel_rfl
def saidUpto:Rows.AttestNamedUptoSaid:=
 BD4 10 Tryz.f10 rfl rfl rfl rfl rfl rfl rfl ⟨rfl,rfl,rfl,rfl,rfl⟩ rfl rfl rfl rfl rfl (by kernel_rfl) BH4 (TN gA gB gC gD gE gF)
  (of_decide_eq_true (by kernel_rfl)) (by unfold Func.isWrapper;first|(rw[Pk (by decide +kernel)];kernel_rfl)|(rw[Pl (by decide +kernel)];exact⟨rfl,rfl⟩))
  (fun os started H enc _ F=>by rw[BD6];exact liftedUpto os started H enc F)
def plain (f:FuncId)(fn:Func)(b:Tryz.pinned.checked.prog.funcNamed "ablaut/ablautlaw26.AttestNamed" = some f)(a:Tryz.pinned.checked.prog.funcs[f]? = some fn) :true=Tryz.pinned.checked.prog.looks []/\∀(j:Nat) t,fn.params[j]? = some t->Tryz.pinned.checked.prog.wantsStandIn t=false:=by
 obtain rfl:f=10:=Bn8 ((show Tryz.prog.funcNamed "ablaut/ablautlaw26.AttestNamed" = some 10 by kernel_rfl).symm.trans b) |>.symm;obtain rfl:fn=Tryz.f10:=(Bn8 (Tryz.func10.symm.trans a)).symm;refine⟨by kernel_rfl,fun j t ht=>?_⟩;rw[BG1]at ht;have hm:=Bz8 ht;simp only[List.mem_toArray,Bp9,List.not_mem_nil,or_false]at hm;rcases hm with rfl|rfl|rfl|rfl
 .exact (show Tryz.prog.wantsStandIn 26=false by kernel_rfl)
 .exact (show Tryz.prog.wantsStandIn 27=false by kernel_rfl)
 .exact (show Tryz.prog.wantsStandIn 28=false by kernel_rfl)
 exact (show Tryz.prog.wantsStandIn 5=false by kernel_rfl)
def cardUpto:Rows.AttestNamedUptoCardSaid:=
 BB6 .later [] _ _ _ _ saidUpto (fun _ h=>by cases h) (by kernel_rfl) (fun _ h=>by cases h) attestNamedUpto_row_tie rfl ⟨rfl,rfl⟩ (by kernel_rfl) rfl plain (by kernel_rfl)
end AtNamed
end Go.AM
