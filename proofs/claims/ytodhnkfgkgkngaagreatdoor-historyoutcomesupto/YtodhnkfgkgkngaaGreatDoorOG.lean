/- What a law's walk and its plain proof need, part 7: no condition of its own. -/
import Derived.Test.YtodhnkfgkgkngaaGreatDoorOF
import Derived.Test.YtodhnkfgkgkngaaGreatDoorOE
set_option linter.defProp false
set_option linter.unusedSimpArgs false
set_option linter.unusedVariables false
set_option linter.unusedSectionVars false
namespace Go.AM
open IntKind (wrap)
def Az4:=@BitVec.getLsbD_or
def AC8:=@BitVec.getLsbD_not
def AF8:=@Classical.axiomOfChoice
def AG9:=@Bool.or_eq_false_iff
def AK5:=@Bool.not_eq_true
def AK6:=@List.mem_reverse
def AL2:=@BitVec.getLsbD_zero
def AL3:=@List.reverse_append
def AM6:=@List.mem_range'_1
def AM9:=@Nat.testBit_two_pow_mul
def AN0:=@List.filter_cons_of_pos
def AN1:=@List.filter_cons_of_neg
def AN8:=@Nat.testBit_lt_two_pow
def AN9:=@List.filter_eq_nil_iff
def AO0:=@List.reverse_singleton
def AO4:=@Bool.and_eq_false_iff
def AO5:=@List.singleton_append
def AO8:=@BitVec.getLsbD_of_ge
def AP3:=@Nat.div_eq_zero_iff
def AQ0:=@Nat.lt_of_le_of_lt
def AQ1:=@List.cons.inj
open Go.Proofs
set_option maxRecDepth 10000
set_option maxHeartbeats 2000000
variable {S:X6}(hS:G5 S Tryz.prog) (hL:LL S)
include hS hL
def O9 (N:Nat)(p_x:Ez)(s:Ez)(a:Sl (Sl Sound)):Option Bool:=
 (O3 N p_x).bind fun y1=>
 (O3 N s).bind fun y2=>
 if (((!y1.2)||(!y2.2))||(decide (4<(a.n:Int)))) then
  (U8 N ).bind fun y3=>
  some y3
 else
  S8 N (fun f (x1:Int)=>
   if (decide (x1<(a.n:Int))) then
    if ((0:Int)<=x1/\x1<(a.n:Int))then
     if (decide (50<((a.g x1.toNat).n:Int))) then
      (U8 N ).bind fun y6=>
      some y6
     else
      f (wrap .i64 (x1+1))
    else none
   else
    S5 N (fun i (x2:Sl Law) (x3:Int)=>
     if (decide (0<=x3)) then
      if ((0:Int)<=x3/\x3<(y1.1.Laws.n:Int))then
       if ((x2.n+(Sl.of [y1.1.Laws.g x3.toNat]:Sl Law).n)*200<=140737488355328/\x2.n+(Sl.of [y1.1.Laws.g x3.toNat]:Sl Law).n<=140737488355328)then
        i (x2.push (y1.1.Laws.g x3.toNat)) (wrap .i64 (x3-1))
       else none
      else none
     else
      S5 N (fun j (x6:Sl (Sl Int)) (x7:Int)=>
       if (decide (x7<(y1.1.On.n:Int))) then
        if ((0:Int)<=x7/\x7<(y1.1.On.n:Int))then
         S5 N (fun l (d:Sl Int) (c:Int)=>
          if (decide (c<((y1.1.On.g x7.toNat).n:Int))) then
           if (((0:Int)<=c/\c<((y1.1.On.g x7.toNat).n:Int))/\((d.n+(Sl.of [wrap .i64 ((wrap .i64 ((y1.1.Laws.n:Int)-1))-((y1.1.On.g x7.toNat).g c.toNat))]:Sl Int).n)*8<=140737488355328/\d.n+(Sl.of [wrap .i64 ((wrap .i64 ((y1.1.Laws.n:Int)-1))-((y1.1.On.g x7.toNat).g c.toNat))]:Sl Int).n<=140737488355328))then
            l (d.push (wrap .i64 ((wrap .i64 ((y1.1.Laws.n:Int)-1))-((y1.1.On.g x7.toNat).g c.toNat)))) (wrap .i64 (c+1))
           else none
          else
           if ((x6.n+(Sl.of [d]:Sl (Sl Int)).n)*24<=140737488355328/\x6.n+(Sl.of [d]:Sl (Sl Int)).n<=140737488355328)then
            j (x6.push d) (wrap .i64 (x7+1))
           else none
          ) (Sl.nil:Sl Int) 0
        else none
       else
        (H6 N y1.1 y1.1 a).bind fun y7=>
        (H6 N y1.1 (⟨y1.1.Tree,x2,x6⟩:A6) a).bind fun y8=>
        (H6 N y1.1 y2.1 a).bind fun y9=>
        (H6 N y2.1 y1.1 a).bind fun o=>
        if (((((y7.2 != y8.2)||((y7.1==y8.1) != true))||((y7.1==(y7.2==0)) != true))||(y9.2 != o.2))||((y9.1==o.1) != true)) then
         some false
        else
         if (y9.2 != 0) then
          lt (fun (z1:Bool)=>
           some z1
           ) fun k1=>
           if (!y9.1) then
            (U8 N ).bind fun t=>
            k1 t
           else
            k1 false
         else
          S5 N (fun m (q:Bool) (b:Int)=>
           if (decide (b<(a.n:Int))) then
            if ((0:Int)<=b/\b<=(wrap .i64 (b+1))/\(wrap .i64 (b+1))<=(a.n:Int))then
             (H6 N y1.1 y2.1 (a.sub b.toNat (wrap .i64 (b+1)).toNat)).bind fun r=>
             if (r.2 != 0) then
              some false
             else
              m (q&&r.1) (wrap .i64 (b+1))
            else none
           else
            lt (fun (z2:Bool)=>
             some z2
             ) fun k2=>
             if ((q==y9.1) != false) then
              (U8 N ).bind fun u=>
              k2 u
             else
              k2 false
           ) true 0
       ) (Sl.nil:Sl (Sl Int)) 0
     ) (Sl.nil:Sl Law) (wrap .i64 ((y1.1.Laws.n:Int)-1))
   ) 0
theorem EB {N:Nat}{p_x:Ez}{m:Ez}{f:Sl (Sl Sound)}{y:Bool}(h:O9 N p_x m f=some y) :FunO S T3 [.p (.agg (W8 p_x)),.p (.agg (W8 m)),.p (vSl 1 (cL 2 A0) f)] [] (pB y) ([]) []:=by
 unfold O9 at h;refine A5 hS Tryz.func8 ?_;refine K9 hS trivial 4 4000 (W8 p_x) ?_;refine K9 hS trivial 6 5000 (W8 m) ?_;obtain⟨y1,e1,h⟩:=C6 h;refine C7 hS [] (by decide:(3:Nat)<=3) (Ev hS hL e1) ?_;refine K9 hS trivial 8 8000 (A3 y1.1) ?_;obtain⟨y2,e2,h⟩:=C6 h;refine C7 hS [] (by decide:(3:Nat)<=3) (Ev hS hL e2) ?_;refine K9 hS trivial 10 10000 (A3 y2.1) ?_;refine kB hS (A8 hS) trivial trivial 8 (.o (.o (.a (!y1.2)) (.a (!y2.2))) (.a (decide (4<(f.n:Int))))) ?_;refine kI hS h ?_ ?_<;>intro h
 ·refine kC hS h (Ec hS hL) (fun y3 h=>?_);cases h;exact kR hS
 ·refine Al hS trivial h (fun x1=>⟨[(11,pN x1),(9,.p (.ptr (A3 y2.1))),(7,.p (.ptr (A3 y1.1))),(2,.p (vSl 1 (cL 2 A0) f))],[]⟩) (ids:=[]) (fun _ _ _ _ _ w x1 a0 h=>?_);refine kI hS h ?_ ?_<;>intro h
  ·obtain⟨c9,h⟩:=H0 h;refine E7 hS c9 (b:=decide (50<((f.g x1.toNat).n:Int))) (fun c10=>?_) (fun c10=>?_)
   ·replace h:=itT c10 h;refine kC hS h (Ec hS hL) (fun y6 h=>?_);cases h;exact kR hS
   ·replace h:=itF c10 h;exact a0 _ [] _ (wrap .i64 (x1+1)) trivial h
  ·refine H9 hS trivial h (fun x2 x3=>⟨[(13,pN x3),(12,.reg 13000 0),(9,.p (.ptr (A3 y2.1))),(7,.p (.ptr (A3 y1.1))),(2,.p (vSl 1 (cL 2 A0) f))],[(13500,.vec N4 18 x2.n (fun i=>A9 (x2.g i)) false),(13000,.cells [.p (vSl 2 B7 y1.1.Tree),.vec 13500,.p E5])]⟩) (ids:=[(13000,13000)]) (fun _ _ _ _ _ a1 x2 x3 a2 h=>?_);refine kI hS h ?_ ?_<;>intro h
   ·refine J5 hS trivial [3,5,6] ?_;obtain⟨c18,h⟩:=H0 h;refine BR (And.intro c18 (by decide:(18:Nat)<=18)) (x:=.sl true 18 1 (E6 [.str [],pI .i64 0,pI .u32 0,pI .u32 0,.v (.bool false),pI .i64 0,pI .i64 0,E5,pI .i64 0,pI .u32 0,pI .u32 0,.v (.bool false),pI .i64 0,pI .i64 0,E5,E5,E5,pI .i64 0] [(0,A9 (y1.1.Laws.g x3.toNat))])) ?_;obtain⟨c19,h⟩:=H0 h;refine P8 c19 ?_;exact a2 _ [(13000,13000),(13500,85000)] _ (x2.push (y1.1.Laws.g x3.toNat)) (wrap .i64 (x3-1)) trivial h (hle:=klR [(4,.fn (x2.n+1) (x2.push (y1.1.Laws.g x3.toNat)).n (Ab x2.n (fun i=>A9 (x2.g i)) (E6 [.str [],pI .i64 0,pI .u32 0,pI .u32 0,.v (.bool false),pI .i64 0,pI .i64 0,E5,pI .i64 0,pI .u32 0,pI .u32 0,.v (.bool false),pI .i64 0,pI .i64 0,E5,E5,E5,pI .i64 0] [(0,A9 (y1.1.Laws.g x3.toNat))])) (fun i=>A9 ((x2.push (y1.1.Laws.g x3.toNat)).g i)))] (al1 ⟨rfl,JV (c:=A9) (v:=x2) (x:=y1.1.Laws.g x3.toNat) (z:=[(.str []),pI .i64 0,pI .u32 0,pI .u32 0,.v (.bool false),pI .i64 0,pI .i64 0,E5,pI .i64 0,pI .u32 0,pI .u32 0,.v (.bool false),pI .i64 0,pI .i64 0,E5,E5,E5,pI .i64 0]) same rfl rfl⟩ al0))
   ·refine H9 hS trivial h (fun x6 x7=>⟨[(14,pN x7),(12,.reg 13000 0),(9,.p (.ptr (A3 y2.1))),(7,.p (.ptr (A3 y1.1))),(2,.p (vSl 1 (cL 2 A0) f))],[(13501,.vec AR 1 x6.n (fun i=>cL 1 (cI .i64) (x6.g i)) false),(13500,.vec N4 18 x2.n (fun i=>A9 (x2.g i)) false),(13000,.cells [.p (vSl 2 B7 y1.1.Tree),.vec 13500,.vec 13501])]⟩) (ids:=[(13000,13000),(13500,13500)]) (fun _ _ _ _ _ a3 x6 x7 a4 h=>?_);refine kI hS h ?_ ?_<;>intro h
    ·obtain⟨c33,h⟩:=H0 h;refine H9 hS c33 h (fun d j=>⟨[(99,pN j),(98,pN ((y1.1.On.g x7.toNat).n:Int)),(97,.p (vSl 1 (cI .i64) (y1.1.On.g x7.toNat))),(15,.vec 16500),(14,pN x7),(12,.reg 13000 0),(9,.p (.ptr (A3 y2.1))),(7,.p (.ptr (A3 y1.1))),(2,.p (vSl 1 (cL 2 A0) f))],[(16500,.vec D5 1 d.n (fun i=>cI .i64 (d.g i)) false),(13501,.vec AR 1 x6.n (fun i=>cL 1 (cI .i64) (x6.g i)) false),(13500,.vec N4 18 x2.n (fun i=>A9 (x2.g i)) false),(13000,.cells [.p (vSl 2 B7 y1.1.Tree),.vec 13500,.vec 13501])]⟩) (ids:=[(13000,13000),(13500,13500),(13501,13501)]) (fun _ _ _ _ _ a5 d j a6 h=>?_);refine kI hS h ?_ ?_<;>intro h
     ·obtain⟨c37,h⟩:=H0 h;exact a6 _ [(13000,13000),(13500,13500),(13501,13501),(16500,112000)] _ (d.push (wrap .i64 ((wrap .i64 ((y1.1.Laws.n:Int)-1))-((y1.1.On.g x7.toNat).g j.toNat)))) (wrap .i64 (j+1)) (And.intro (And.intro c37.1 (rfl:true=true)) c37.2) h (hle:=klR [(7,.fn (d.n+1) (d.push (wrap .i64 ((wrap .i64 ((y1.1.Laws.n:Int)-1))-((y1.1.On.g x7.toNat).g j.toNat)))).n (Ab d.n (fun i=>cI .i64 (d.g i)) (E6 [pI .i64 0] [(0,cI .i64 (wrap .i64 ((wrap .i64 ((y1.1.Laws.n:Int)-1))-((y1.1.On.g x7.toNat).g j.toNat))))])) (fun i=>cI .i64 ((d.push (wrap .i64 ((wrap .i64 ((y1.1.Laws.n:Int)-1))-((y1.1.On.g x7.toNat).g j.toNat)))).g i)))] (al1 ⟨rfl,JV (c:=cI .i64) (v:=d) (x:=wrap .i64 ((wrap .i64 ((y1.1.Laws.n:Int)-1))-((y1.1.On.g x7.toNat).g j.toNat))) (z:=[(pI .i64 0)]) same rfl rfl⟩ al0))
     ·obtain⟨c38,h⟩:=H0 h;exact a4 _ [(13000,13000),(13500,13500),(13501,118000)] _ (x6.push d) (wrap .i64 (x7+1)) (And.intro (rfl:true=true) c38) h (hle:=klR [(4,.fn (x6.n+1) (x6.push d).n (Ab x6.n (fun i=>cL 1 (cI .i64) (x6.g i)) (E6 [E5] [(0,cL 1 (cI .i64) d)])) (fun i=>cL 1 (cI .i64) ((x6.push d).g i)))] (al1 ⟨rfl,JV (c:=cL 1 (cI .i64)) (v:=x6) (x:=d) (z:=[E5]) same rfl rfl⟩ al0))
    ·obtain⟨y7,e7,h⟩:=C6 h;refine C7 hS [] (And.intro (by decide:(3:Nat)<=3) (by decide:(3:Nat)<=3)) (S1 hS hL e7) ?_;refine N1 hS (by decide:(3:Nat)<=3) 128 ⟨[(127,.p (.agg (A3 y1.1))),(19,pN y7.2),(18,pB y7.1),(12,.reg 13000 0),(9,.p (.ptr (A3 y2.1))),(7,.p (.ptr (A3 y1.1))),(2,.p (vSl 1 (cL 2 A0) f))],[(13000,.cells [.p (vSl 2 B7 y1.1.Tree),.p (vSl 18 A9 x2),.p (vSl 1 (cL 1 (cI .i64)) x6)])]⟩ (ids:=[(13000,13000)]) ?_;refine kC hS h (S1 hS hL) (fun y8 h=>?_);obtain⟨y9,e9,h⟩:=C6 h;refine C7 hS [] (And.intro (by decide:(3:Nat)<=3) (by decide:(3:Nat)<=3)) (S1 hS hL e9) ?_;obtain⟨r,e10,h⟩:=C6 h;refine C7 hS [] (And.intro (by decide:(3:Nat)<=3) (by decide:(3:Nat)<=3)) (S1 hS hL e10) ?_;refine kB hS (A8 hS) trivial trivial 20 (.o (.o (.o (.o (.a (y7.2 != y8.2)) (.a ((y7.1==y8.1) != true))) (.a ((y7.1==(y7.2==0)) != true))) (.a (y9.2 != r.2))) (.a ((y9.1==r.1) != true))) ?_;refine kI hS h ?_ ?_<;>intro h
     ·cases h;exact kR hS
     ·refine kI hS h ?_ ?_<;>intro h
      ·refine Ls hS trivial (A8 hS) h 0 (fun z1=>⟨[(6,pB z1)],[]⟩) (fun M1 k1 s h=>?_) (fun z1 h=>?_)
       ·refine kG hS h (fun h=>?_) (fun h=>?_)
        ·refine kC hS h (Ec hS hL) (fun a7 h=>?_);exact s _ [] _ a7 trivial h
        ·exact s _ [] _ false trivial h
       ·cases h;exact kR hS
      ·refine H9 hS trivial h (fun l q=>⟨[(27,pN q),(26,pB l),(22,pB y9.1),(9,.p (.ptr (A3 y2.1))),(7,.p (.ptr (A3 y1.1))),(2,.p (vSl 1 (cL 2 A0) f))],[]⟩) (ids:=[]) (fun _ _ _ _ _ a8 l q a9 h=>?_);refine kI hS h ?_ ?_<;>intro h
       ·refine J5 hS trivial [0,1,7] ?_;obtain⟨c51,h⟩:=H0 h;obtain⟨t,e15,h⟩:=C6 h;refine AX (And.intro (And.intro (by decide:(3:Nat)<=3) (by decide:(3:Nat)<=3)) c51) (S1 hS hL e15) ?_;refine P8 trivial ?_;refine kI hS h ?_ ?_<;>intro h
        ·cases h;exact kR hS
        ·refine kB hS (A8 hS) trivial trivial 2 (.n (.a l) (.a t.1)) ?_;exact a9 _ [] _ (l&&t.1) (wrap .i64 (q+1)) trivial h
       ·refine Ls hS trivial (A8 hS) h 0 (fun z2=>⟨[(6,pB z2)],[]⟩) (fun M2 k2 u h=>?_) (fun z2 h=>?_)
        ·refine kG hS h (fun h=>?_) (fun h=>?_)
         ·refine kC hS h (Ec hS hL) (fun b0 h=>?_);exact u _ [] _ b0 trivial h
         ·exact u _ [] _ false trivial h
        ·cases h;exact kR hS
end Go.AM
namespace Go.AM
set_option maxRecDepth 1000000
theorem Uo:U8 4194304=some true:=by decide +kernel
end Go.AM
namespace Go.AM
open IntKind (wrap)
open Go.Proofs
theorem Zu {A R:Type}{body:(A->Option R)->A->Option R}(I:Nat->A->Prop)(n:Nat)(I9:R->Prop)
 (b:∀self i a,i<=n->I i a->(i<n->∀a',I (i+1) a' -> ∃r,self a' = some r/\I9 r)->∃r,body self a=some r/\I9 r) :
 ∀(N i:Nat) (a:A),i<=n->I i a->n-i<N->∃r,S8 N body a=some r/\I9 r
 |0,_,_,_,_,h=>by omega
 |N+1,i,a,hi,hI,h=>by rw[BP];exact b _ i a hi hI fun c a' d=>Zu I n I9 b N (i+1) a' c d (by omega)
theorem BA {A R:Type}{body:(A->Option R)->A->Option R}(I:Nat->A->Prop)(n:Nat)(I9:R->Prop){N:Nat}(c:n<N){a:A}(d:I 0 a)
 (b:∀self i a,i<=n->I i a->(i<n->∀a',I (i+1) a' -> ∃r,self a' = some r/\I9 r)->∃r,body self a=some r/\I9 r):∃r,S8 N body a=some r/\I9 r:=
 Zu I n I9 b N 0 a (AH2 _) d c
theorem N8 {A B R:Type}{body:(A->B->Option R)->A->B->Option R}(I:Nat->A->B->Prop)(n:Nat)(I9:R->Prop){N:Nat}(g:n<N){a:A}{b:B}(j:I 0 a b)
 (d:∀c i a b,i<=n->I i a b->(i<n->∀a' b',I (i+1) a' b' -> ∃r,c a' b' = some r/\I9 r)->∃r,body c a b=some r/\I9 r):∃r,S5 N body a b=some r/\I9 r:=
 Zu (fun i x=>I i x.1 x.2) n I9 (fun c i x l m h=>d (fun a b=>c (a,b)) i x.1 x.2 l m fun hl a' b' f=>h hl (a',b') f) N 0 (a,b) (AH2 _) j g
theorem Xa {A B C R:Type}{body:(A->B->C->Option R)->A->B->C->Option R}(I:Nat->A->B->C->Prop)(n:Nat)(I9:R->Prop){N:Nat}(j:n<N){a:A}{b:B}{c:C}(l:I 0 a b c)
 (f:∀d i a b c,i<=n->I i a b c->(i<n->∀a' b' c',I (i+1) a' b' c' -> ∃r,d a' b' c' = some r/\I9 r)->∃r,body d a b c=some r/\I9 r):∃r,Ah8 N body a b c=some r/\I9 r:=
 Zu (fun i x=>I i x.1 x.2.1 x.2.2) n I9 (fun d i x m o h=>f (fun a b c=>d (a,b,c)) i x.1 x.2.1 x.2.2 m o fun hl a' b' c' g=>h hl (a',b',c') g) N 0 (a,b,c) (AH2 _) l j
theorem B1 {X R:Type}{Q:R->Prop}{o:Option X}{f:X->Option R}{x:X}(h:o=some x)(a:∃r,f x=some r/\Q r):∃r,o.bind f=some r/\Q r:=by subst h;exact a
theorem ltX {R A:Type}{Q:R->Prop}{k:A->Option R}{f:(A->Option R)->Option R}(h:∃r,f k=some r/\Q r):∃r,lt k f=some r/\Q r:=h
theorem ifT {R:Type}{Q:R->Prop}{p:Prop}[Decidable p]{a b:Option R}(h:p)(c:∃r,a=some r/\Q r):∃r,(if p then a else b)=some r/\Q r:=by rw[if_pos h];exact c
theorem ifF {R:Type}{Q:R->Prop}{p:Prop}[Decidable p]{a b:Option R}(h:¬p)(c:∃r,b=some r/\Q r):∃r,(if p then a else b)=some r/\Q r:=by rw[if_neg h];exact c
theorem D3 {n:Int}(h : -9223372036854775808<=n)(h' : n<=9223372036854775807):IntKind.i64.wrap n=n:=by
 by_cases a:0<=n
 ·have h1:n % (2 ^ 64:Int)=n:=AH0 a (by omega);unfold wrap;simp only[IntKind.bits,IntKind.signed,h1];rw[if_neg];simp;omega
 ·have h1:n % (2 ^ 64:Int)=n+2 ^ 64:=by rw[<- Int.add_emod_right];exact AH0 (by omega) (by omega)
  unfold wrap;simp only[IntKind.bits,IntKind.signed,h1];rw[if_pos]
  ·omega
  ·simp;omega
theorem C0 {i:Nat}(h:i<1000000000000000000):IntKind.i64.wrap ((i:Int)+1)=((i+1:Nat):Int):=by rw[D3 (by omega) (by omega)];rfl
theorem Ak8 {i:Nat}(a:1<=i)(h:i<1000000000000000000):IntKind.i64.wrap ((i:Int)-1)=((i-1:Nat):Int):=by rw[D3 (by omega) (by omega)];omega
theorem Cq {i j:Nat}(h:i+j<1000000000000000000):IntKind.i64.wrap ((i:Int)+(j:Int))=((i+j:Nat):Int):=by rw[D3 (by omega) (by omega)];rfl
theorem TO {N n:Nat}(hn:n<=32)(f:1000<=N):∃s,Fr N (n:Int)=some s/\s.n=n+1/\TabR n (fun a b=>a=b) s.g:=by
 unfold Fr;rw[C0 (by omega)];refine ifT (by omega) ?_;refine N8 (fun i x1 x2=>x2=(i:Int)/\x1.n=n+1/\∀a,a<i->x1.g a=U (1#64 <<< a)) (n+1) _ (by omega) ⟨rfl,by show ((n+1:Nat):Int).toNat=n+1;omega,fun a ha=>absurd ha (by omega)⟩ ?_;rintro c i x1 x2 j ⟨rfl,h1,d⟩ hs;by_cases hl:i<=n
 ·refine ifT (by simp;omega) (ifT ⟨⟨by omega,by omega,by omega⟩,by omega⟩ (hs (by omega) _ _ ⟨C0 (by omega),h1,fun a ha=>?_⟩));show (if a=(i:Int).toNat then shI .shl .u64 1 (i:Int)else x1.g a)=_;by_cases e:a=i
  ·subst e;rw[if_pos (by omega),Qf _ (by omega)]
  ·rw[if_neg (by omega)];exact d a (by omega)
 ·refine ifF (by simp;omega) ⟨x1,rfl,h1,fun a ha=>⟨1#64 <<< a,d a (by omega),fun b hb=>?_⟩⟩;rw[EW (by omega) hb,decide_eq_true_eq];omega
theorem Zv {n:Nat}{f:Nat->Int}(h:∀a,a<=n->f a=0):TabR n (fun _ _=>False) f:=fun a ha=>⟨0#64,h a ha,fun b hb=>by simp⟩
theorem TP {N n:Nat}{R S:Nat->Nat->Prop}{x y:Sl Int}(hn:n<=32)(f:1000<=N)(hx:x.n=n+1)(hy:y.n=n+1)(hR:TabR n R x.g)(hS:TabR n S y.g) :∃s,Fs N x y=some s/\s.n=n+1/\TabR n (fun a b=>R a b \/ S a b) s.g:=by
 unfold Fs;refine ifT (by omega) ?_;refine N8 (fun i x1 x2=>x2=(i:Int)/\x1.n=n+1/\∀a,a<i->x1.g a=F5 .or .u64 (x.g a) (y.g a)) (n+1) _ (by omega) ⟨rfl,by show (x.n:Int).toNat=n+1;omega,fun a ha=>absurd ha (by omega)⟩ ?_;rintro d i x1 x2 j ⟨rfl,h1,c⟩ hs;by_cases hl:i<=n
 ·refine ifT (by simp;omega) (ifT (by omega) (hs (by omega) _ _ ⟨C0 (by omega),h1,fun a ha=>?_⟩));show (if a=(i:Int).toNat then _ else x1.g a)=_;by_cases e:a=i
  ·subst e;rw[if_pos (by omega),Ay0]
  ·rw[if_neg (by omega)];exact c a (by omega)
 ·refine ifF (by simp;omega) ⟨x1,rfl,h1,fun a ha=>?_⟩;obtain⟨u,e1,g1⟩:=hR a ha;obtain⟨v,e2,g2⟩:=hS a ha;refine⟨u ||| v,by rw[c a (by omega),e1,e2,Ax5],fun b hb=>?_⟩;rw[Az4,AA0,g1 b hb,g2 b hb];constructor
  ·rintro (⟨h1,c⟩ | ⟨h1,c⟩)
   ·exact⟨h1,.inl c⟩
   ·exact⟨h1,.inr c⟩
  ·rintro⟨h1,c|c⟩
   ·exact .inl ⟨h1,c⟩
   ·exact .inr ⟨h1,c⟩
theorem Xb {N n:Nat}{x y:Sl Int}(hn:n<=32)(f:1000<=N)(hx:x.n=n+1)(hy:y.n=n+1) :∃b,Gq N x y=some b/\(b=true ↔ ∀a,a<=n->x.g a=y.g a):=by
 unfold Gq;refine BA (fun i x1=>x1=(i:Int)/\∀a,a<i->x.g a=y.g a) (n+1) _ (by omega) ⟨rfl,fun a ha=>absurd ha (by omega)⟩ ?_;rintro c i x1 j ⟨rfl,d⟩ hs;by_cases hl:i<=n
 ·refine ifT (by simp;omega) (ifT (by omega) ?_);rw[Ay0];by_cases e:x.g i=y.g i
  ·refine ifF (by simp[e]) (hs (by omega) _ ⟨C0 (by omega),fun a ha=>?_⟩);by_cases h:a=i
   ·subst h;exact e
   ·exact d a (by omega)
  ·refine ifT (by simp[e]) ⟨false,rfl,by simp;exact⟨i,hl,e⟩⟩
 ·exact ifF (by simp;omega) ⟨true,rfl,by simp;exact fun a ha=>d a (by omega)⟩
theorem MN {N n:Nat}{R S:Nat->Nat->Prop}{x y:Sl Int}(hn:n<=32)(w:1000<=N)(hx:x.n=n+1)(hy:y.n=n+1)(hR:TabR n R x.g)(hS:TabR n S y.g) :∃s,Ba N x y=some s/\s.n=n+1/\TabR n (fun a b=>∃c,c<=n/\R a c/\S c b) s.g:=by
 unfold Ba;refine ifT (by omega) ?_
 let Row (z:BitVec 64) (a j:Nat):Prop:=∀b,b<64->(z.getLsbD b=true↔b<=n/\∃c,c<j/\c<=n/\R a c/\S c b)
 refine N8 (fun i x1 x2=>x2=(i:Int)/\x1.n=n+1/\(∀a,a<i->∃z,x1.g a=U z/\Row z a (n+1))/\∀a,i<=a->x1.g a=0) (n+1) _ (by omega) ⟨rfl,by show (x.n:Int).toNat=n+1;omega,fun a ha=>absurd ha (by omega),fun a _=>rfl⟩ ?_;rintro q i x1 x2 hi ⟨rfl,h1,r,t⟩ hs;by_cases hl:i<=n
 ·refine ifT (by simp;omega) ?_;refine N8 (fun j x7 x8=>x8=(j:Int)/\x7.n=n+1/\(∀a,a<i->∃z,x7.g a=U z/\Row z a (n+1))/\(∃z,x7.g i=U z/\Row z i j)/\∀a,i<a->x7.g a=0) (n+1) _ (by omega)
   ⟨rfl,h1,r,⟨0#64,t i (Ay6 _),fun b hb=>by simp⟩,fun a ha=>t a (by omega)⟩ ?_
  rintro m j x7 x8 hj ⟨rfl,g1,g2,⟨z,g3,g4⟩,g5⟩ l;by_cases f:j<=n
  ·refine ifT (by simp;omega) (ifT (by omega) ?_);rw[Ay0,Ay0];have d:=hR.bit hl (b:=j) (by omega);by_cases hc:R i j
   ·refine ifT (d.2 ⟨f,hc⟩) (ifT (by omega) (l (by omega) _ _ ⟨C0 (by omega),g1,fun a ha=>?_,?_,fun a ha=>?_⟩))
    ·obtain⟨z',e,o⟩:=g2 a ha;exact⟨z',by show (if a=i then _ else x7.g a)=_;rw[if_neg (by omega)];exact e,o⟩
    ·obtain⟨v,e,u⟩:=hS j f;refine⟨z ||| v,by show (if i=i then _ else _)=_;rw[if_pos rfl,g3,e,Ax5],fun b hb=>?_⟩;rw[Az4,AA0,g4 b hb,u b hb];constructor
     ·rintro (⟨k1,c,k2,k3⟩ | ⟨k1,k2⟩)
      ·exact⟨k1,c,by omega,k3⟩
      ·exact⟨k1,j,by omega,f,hc,k2⟩
     ·rintro⟨k1,c,k2,k3,k4,k5⟩;by_cases e:c=j
      ·subst e;exact .inr ⟨k1,k5⟩
      ·exact .inl ⟨k1,c,by omega,k3,k4,k5⟩
    ·show (if a=i then _ else x7.g a)=_;rw[if_neg (by omega)];exact g5 a ha
   ·refine ifF (fun h=>hc (d.1 h).2) (l (by omega) _ _ ⟨C0 (by omega),g1,g2,⟨z,g3,fun b hb=>?_⟩,g5⟩);rw[g4 b hb];constructor
    ·rintro⟨k1,c,k2,k3⟩;exact⟨k1,c,by omega,k3⟩
    ·rintro⟨k1,c,k2,k3,k4,k5⟩;by_cases e:c=j
     ·subst e;exact absurd k4 hc
     ·exact⟨k1,c,by omega,k3,k4,k5⟩
  ·refine ifF (by simp;omega) (hs (by omega) _ _ ⟨C0 (by omega),g1,fun a ha=>?_,fun a ha=>g5 a (by omega)⟩);by_cases e:a=i
   ·subst e;obtain rfl:j=n+1:=by omega
    exact⟨z,g3,g4⟩
   ·exact g2 a (by omega)
 ·refine ifF (by simp;omega) ⟨x1,rfl,h1,fun a ha=>?_⟩;obtain⟨z,e,o⟩:=r a (by omega);refine⟨z,e,fun b hb=>(o b hb).trans ⟨fun⟨k1,c,_,k3⟩=>⟨k1,c,k3⟩,fun⟨k1,c,k3⟩=>⟨k1,c,by omega,k3⟩⟩⟩
end Go.AM
namespace Go.AM
open Go.Proofs
def okP:Nat->Pat->Prop
 |0,_=>False
 |d+1,p=>p.L.n<=40/\(p.Kind=5->p.L.n=1/\0<=p.Min/\p.Min<=32/\(p.Max = -1 \/ (p.Min<=p.Max/\p.Max<=32)))/\∀i,i<p.L.n->okP d (p.L.g i)
theorem Jf (w:Sl Sound)(p:Pat)(a b:Nat):PR w p a b↔(if p.Kind=0 then a=b
 else if p.Kind=1 then a<w.n/\b=a+1/\(Sf (w.g a) p.Is != p.Not)=true
 else if p.Kind=2 then a=0/\b=0
 else if p.Kind=6 then a=w.n/\b=w.n
 else if p.Kind=3 then Vd w.n (fun i=>PR w (p.L.g i)) p.L.n a b
 else if p.Kind=4 then ∃i,i<p.L.n/\PR w (p.L.g i) a b
 else if p.Kind=5 then ∃k:Nat,p.Min<=k/\(p.Max = -1 \/ (k:Int)<=p.Max)/\FV w.n (PR w (p.L.g 0)) k a b
 else False):=by
 cases p with
 |nil=>simp[PR,Pat.Kind]
 |mk kind is no mn mx m g=>exact AG4
def R0 (w:Sl Sound)(p:Pat)(a b:Nat):Prop:=if p.Kind=0 then a=b
 else if p.Kind=1 then a<w.n/\b=a+1/\(Sf (w.g a) p.Is != p.Not)=true
 else if p.Kind=2 then a=0/\b=0
 else if p.Kind=6 then a=w.n/\b=w.n
 else False
theorem Ad0 {n:Nat}{R:Nat->Nat->Prop}(hR:Fwd n R){mn k:Nat}(hk:mn<k)(h:∀a b,a<=n->b<=n->FV n R k a b->∃j,mn<=j/\j<k/\FV n R j a b){a:Nat}(ha:a<=n) :∀m b,mn<=m->FV n R m a b->∃j,mn<=j/\j<k/\FV n R j a b
 |0,b,hm,hp=>⟨0,hm,by omega,hp⟩
 |m+1,b,hm,hp=>by
  by_cases d:m+1<k
  ·exact⟨m+1,hm,d,hp⟩
  ·obtain⟨c,hc,h1,f⟩:=hp;have hb:=(hR c b hc f).2;obtain⟨j,g1,g2,g3⟩:=Ad0 hR hk h ha m c (by omega) h1;by_cases e:j+1<k
   ·exact⟨j+1,by omega,e,c,hc,g3,f⟩
   ·obtain rfl:k=j+1:=by omega
    exact h a b ha hb ⟨c,hc,g3,f⟩
theorem KT {N:Nat}(hN:1000<=N){w:Sl Sound}(hw:w.n<=32):∀(d:Nat) (p:Pat),okP d p->∀M,N+d<=M->∃t,Cc M p w=some t/\t.n=w.n+1/\TabR w.n (PR w p) t.g
 |0,p,h,M,hM=>h.elim
 |d+1,p,⟨hc,h5,hch⟩,0,hM=>by omega
 |d+1,p,⟨hc,h5,hch⟩,M+1,hM=>by
  have ih:=fun i hi=>KT hN hw d (p.L.g i) (hch i hi) M (by omega);show ∃t,DS (Cc M) M p w=some t/\_;unfold DS;rw[C0 (by omega)];refine ifT (by omega) ?_;refine N8 (fun i x1 x2=>x2=(i:Int)/\x1.n=w.n+1/\(∀a,a<i->∃z:BitVec 64,x1.g a=U z/\∀b,b<64->(z.getLsbD b=true↔b<=w.n/\R0 w p a b))/\∀a,i<=a->x1.g a=0) (w.n+1) _ (by omega)
   ⟨rfl,by show ((w.n+1:Nat):Int).toNat=w.n+1;omega,fun a ha=>absurd ha (by omega),fun _ _=>rfl⟩ ?_
  rintro self i x1 x2 hi ⟨rfl,h1,l,c⟩ hs;have keep:(∀b,b<=w.n->¬R0 w p i b)->(∀a,a<i+1->∃z:BitVec 64,x1.g a=U z/\∀b,b<64->(z.getLsbD b=true↔b<=w.n/\R0 w p a b)):=by
   intro h a ha;by_cases e:a=i
   ·subst e;exact⟨0#64,c a (Ay6 _),fun b hb=>by simp;exact h b⟩
   ·exact l a (by omega)
  have put:∀(z:BitVec 64) (v:Int),v=U z->(∀b,b<64->(z.getLsbD b=true↔b<=w.n/\R0 w p i b)) ->
   (∀a,a<i+1->∃z:BitVec 64,(x1.upd (i:Int).toNat v).g a=U z/\∀b,b<64->(z.getLsbD b=true↔b<=w.n/\R0 w p a b))/\∀a,i+1<=a->(x1.upd (i:Int).toNat v).g a=0:=by
   intro z v hv hz;refine⟨fun a ha=>?_,fun a ha=>?_⟩
   ·by_cases e:a=i
    ·subst e;exact⟨z,by show (if a=(a:Int).toNat then v else _)=_;rw[if_pos (by omega),hv],hz⟩
    ·obtain⟨z',e1,e2⟩:=l a (by omega);exact⟨z',by show (if a=(i:Int).toNat then v else x1.g a)=_;rw[if_neg (by omega)];exact e1,e2⟩
   ·show (if a=(i:Int).toNat then v else x1.g a)=0;rw[if_neg (by omega)];exact c a (by omega)
  by_cases hl:i<=w.n
  ·refine ifT (by simp;omega) ?_;by_cases k0:p.Kind=0
   ·refine ifT (by simp[k0]) (ifT (by omega) ?_);obtain⟨p1,p2⟩:=put (1#64 <<< i) _ (Qf i (by omega)) (fun b hb=>by rw[EW (by omega) hb,decide_eq_true_eq];simp only[R0,k0,if_true];omega);exact hs (by omega) _ _ ⟨C0 (by omega),h1,p1,p2⟩
   refine ifF (by simp[k0]) ?_;by_cases k1:p.Kind=1
   ·refine ifT (by simp[k1]) ?_;have e0:∀b,R0 w p i b↔i<w.n/\b=i+1/\(Sf (w.g i) p.Is != p.Not)=true:=fun b=>by simp only[R0,k1];simp
    by_cases hlt:i<w.n
    ·refine ifT (by simp;omega) (ifT (by omega) ?_);refine B1 (x:=Sf (w.g i) p.Is) (by rw[Ay0];rfl) ?_;by_cases hb:Sf (w.g i) p.Is=p.Not
     ·refine ifF (by simp[hb]) (hs (by omega) _ _ ⟨C0 (by omega),h1,keep fun b _=>?_,fun a ha=>c a (by omega)⟩);rw[e0];simp[hb]
     ·refine ifT (by simp[hb]) ?_;rw[C0 (by omega)];refine ifT (by omega) ?_;obtain⟨p1,p2⟩:=put (1#64 <<< (i+1)) _ (Qf (i+1) (by omega)) (fun b a0=>by
       rw[EW (by omega) a0,decide_eq_true_eq,e0]
       have:(Sf (w.g i) p.Is != p.Not)=true:=by simp[hb]
       simp only[this,and_true];omega)
      exact hs (by omega) _ _ ⟨rfl,h1,p1,p2⟩
    ·refine ifF (by simp;omega) (hs (by omega) _ _ ⟨C0 (by omega),h1,keep fun b _=>?_,fun a ha=>c a (by omega)⟩);rw[e0];omega
   refine ifF (by simp[k1]) ?_;by_cases k2:p.Kind=2
   ·refine ifT (by simp[k2]) ?_;have e0:∀b,R0 w p i b↔i=0/\b=0:=fun b=>by simp only[R0,k2];simp
    by_cases hz:i=0
    ·refine ifT (by simp;omega) (ifT (by omega) ?_);obtain⟨p1,p2⟩:=put 1#64 _ Au9 (fun b a0=>by rw[Se,decide_eq_true_eq,e0];omega);exact hs (by omega) _ _ ⟨C0 (by omega),h1,p1,p2⟩
    ·refine ifF (by simp;omega) (hs (by omega) _ _ ⟨C0 (by omega),h1,keep fun b _=>?_,fun a ha=>c a (by omega)⟩);rw[e0];omega
   refine ifF (by simp[k2]) ?_;by_cases k6:p.Kind=6
   ·refine ifT (by simp[k6]) ?_;have e0:∀b,R0 w p i b↔i=w.n/\b=w.n:=fun b=>by simp only[R0,k6];simp
    by_cases hz:i=w.n
    ·refine ifT (by simp;omega) (ifT (by omega) ?_);obtain⟨p1,p2⟩:=put (1#64 <<< i) _ (Qf i (by omega)) (fun b hb=>by rw[EW (by omega) hb,decide_eq_true_eq,e0];omega);exact hs (by omega) _ _ ⟨C0 (by omega),h1,p1,p2⟩
    ·refine ifF (by simp;omega) (hs (by omega) _ _ ⟨C0 (by omega),h1,keep fun b _=>?_,fun a ha=>c a (by omega)⟩);rw[e0];omega
   ·refine ifF (by simp[k6]) (hs (by omega) _ _ ⟨C0 (by omega),h1,keep fun b _=>?_,fun a ha=>c a (by omega)⟩);simp[R0,k0,k1,k2,k6]
  ·refine ifF (by simp;omega) ?_;have t0:TabR w.n (R0 w p) x1.g:=fun a ha=>l a (by omega);by_cases k3:p.Kind=3
   ·refine ifT (by simp[k3]) ?_;obtain⟨s,es,a8,a9⟩:=TO (N:=M) hw (by omega);refine B1 es ?_;refine N8 (fun i (x3:Sl Int) x4=>x4=(i:Int)/\x3.n=w.n+1/\TabR w.n (Vd w.n (fun i=>PR w (p.L.g i)) i) x3.g) p.L.n _ (by omega) ⟨rfl,a8,a9.congr fun a b _ _=>AG4⟩ ?_;rintro a2 j x3 x4 hj ⟨rfl,g1,g2⟩ m;by_cases a3:j<p.L.n
    ·obtain⟨t,et,b0,b1⟩:=ih j a3;refine ifT (by simp;omega) (ifT (by omega) (B1 (by rw[Ay0];exact et) ?_));obtain⟨f,ef,o,a4⟩:=MN (N:=M) hw (by omega) g1 b0 g2 b1;exact B1 ef (m a3 _ _ ⟨C0 (by omega),o,a4⟩)
    ·obtain rfl:j=p.L.n:=by omega
     exact ifF (by simp) ⟨x3,rfl,g1,g2.congr fun a b _ _=>by rw[Jf];simp[k3]⟩
   refine ifF (by simp[k3]) ?_;by_cases k4:p.Kind=4
   ·refine ifT (by simp[k4]) ?_;refine N8 (fun i x3 x4=>x4=(i:Int)/\x3.n=w.n+1/\TabR w.n (fun a b=>∃q,q<i/\PR w (p.L.g q) a b) x3.g) p.L.n _ (by omega) ⟨rfl,h1,t0.congr fun a b _ _=>by simp[R0,k4]⟩ ?_;rintro a2 j x3 x4 hj ⟨rfl,g1,g2⟩ m;by_cases a3:j<p.L.n
    ·obtain⟨t,et,b0,b1⟩:=ih j a3;refine ifT (by simp;omega) (ifT (by omega) (B1 (by rw[Ay0];exact et) ?_));obtain⟨f,ef,o,a4⟩:=TP (N:=M) hw (by omega) g1 b0 g2 b1;refine B1 ef (m a3 _ _ ⟨C0 (by omega),o,a4.congr fun a b _ _=>⟨?_,?_⟩⟩)
     ·rintro (⟨q,h1,l⟩ | h)
      ·exact⟨q,by omega,l⟩
      ·exact⟨j,by omega,h⟩
     ·rintro⟨q,h1,l⟩;by_cases e:q=j
      ·subst e;exact .inr l
      ·exact .inl ⟨q,by omega,l⟩
    ·obtain rfl:j=p.L.n:=by omega
     exact ifF (by simp) ⟨x3,rfl,g1,g2.congr fun a b _ _=>by rw[Jf];simp[k4]⟩
   refine ifF (by simp[k4]) ?_;by_cases k5:p.Kind=5
   ·obtain⟨hn1,hm0,hm1,hmx⟩:=h5 k5;refine ifT (by simp[k5]) (ifT (by omega) ?_);obtain⟨one,eo,ho1,ho2⟩:=ih 0 (by omega);obtain⟨s,es,a8,a9⟩:=TO (N:=M) hw (by omega);refine B1 eo (B1 es ?_);have hF:=Qi w (p.L.g 0);have fin:∀(t:Sl Int) (k:Nat),t.n=w.n+1->TabR w.n (fun a b=>∃j:Nat,p.Min<=j/\j<k/\FV w.n (PR w (p.L.g 0)) j a b) t.g ->
     (∀a b,a<=w.n->b<=w.n->((∃j:Nat,p.Min<=j/\j<k/\FV w.n (PR w (p.L.g 0)) j a b) ↔ ∃j:Nat,p.Min<=j/\(p.Max = -1 \/ (j:Int)<=p.Max)/\FV w.n (PR w (p.L.g 0)) j a b)) ->
     ∃r,some t=some r/\r.n=w.n+1/\TabR w.n (PR w p) r.g:=by
     intro t k e1 e2 e3;exact⟨t,rfl,e1,e2.congr fun a b ha hb=>(e3 a b ha hb).trans (by rw[Jf];simp[k5])⟩
    refine Xa (fun k (x8 x9:Sl Int) b2=>b2=(k:Int)/\x8.n=w.n+1/\x9.n=w.n+1/\TabR w.n (fun a b=>∃j:Nat,p.Min<=j/\j<k/\FV w.n (PR w (p.L.g 0)) j a b) x8.g/\TabR w.n (FV w.n (PR w (p.L.g 0)) k) x9.g/\(p.Max = -1 \/ (k:Int)<=p.Max)) 33 _ (by omega)
     ⟨rfl,h1,a8,t0.congr fun a b _ _=>by simp[R0,k5],a9.congr fun a b _ _=>AG4,by omega⟩ ?_
    rintro a2 k x8 x9 b2 hk ⟨rfl,g1,g2,g3,g4,g5⟩ m;obtain⟨f,ef,o,a4⟩:=MN (N:=M) hw (by omega) g2 ho1 g4 ho2;have next:TabR w.n (FV w.n (PR w (p.L.g 0)) (k+1)) f.g:=a4
    by_cases u:p.Min<=(k:Int)
    ·refine ifT (by simpa using u) ?_;obtain⟨j,ej,a5,hj2⟩:=TP (N:=M) hw (by omega) g1 g2 g3 g4;have a1:TabR w.n (fun a b=>∃j:Nat,p.Min<=j/\j<k+1/\FV w.n (PR w (p.L.g 0)) j a b) j.g:=hj2.congr fun a b _ _=>by
      constructor
      ·rintro (⟨q,h1,l,c⟩ | h)
       ·exact⟨q,h1,by omega,c⟩
       ·exact⟨k,u,by omega,h⟩
      ·rintro⟨q,h1,l,c⟩;by_cases e:q=k
       ·subst e;exact .inr c
       ·exact .inl ⟨q,h1,by omega,c⟩
     refine B1 ej (ltX ?_);by_cases a6:(k:Int)=p.Max
     ·refine ifT (by simp[a6]) (ifT rfl (fin j (k+1) a5 a1 fun a b _ _=>⟨?_,?_⟩))
      ·rintro⟨q,h1,l,c⟩;exact⟨q,h1,.inr (by omega),c⟩
      ·rintro⟨q,h1,l,c⟩;exact⟨q,h1,by omega,c⟩
     ·refine ifF (by simp[a6]) ?_;by_cases b3:p.Min<(k:Int)
      ·refine ifT (by simpa using b3) ?_;obtain⟨b,eb,hb⟩:=Xb (N:=M) (x:=x8) (y:=j) hw (by omega) g1 a5;refine B1 eb ?_;by_cases a7:b=true
       ·refine ifT a7 (fin j (k+1) a5 a1 fun a b ha a0=>⟨?_,?_⟩)
        ·rintro⟨q,h1,l,c⟩;exact⟨q,h1,by omega,c⟩
        ·rintro⟨q,h1,l,c⟩;have heq:=hb.1 a7;obtain⟨q',k1,k2,k3⟩:=Ad0 hF (mn:=p.Min.toNat) (k:=k) (by omega) (fun a b ha a0 hp=>by have e1:=a1.bit ha (b:=b) (by omega);have e2:=g3.bit ha (b:=b) (by omega);rw[<- heq a ha]at e1;obtain⟨_,q,k1,k2,k3⟩:=e2.1 (e1.2 ⟨a0,k,u,by omega,hp⟩);exact⟨q,by omega,k2,k3⟩) ha q b (by omega) c
         exact⟨q',by omega,by omega,k3⟩
       ·refine ifF a7 (B1 ef ?_);have b4:k<33:=by
         refine Nat.lt_of_le_of_ne hk fun e=>a7 (hb.2 fun a ha=>?_);subst e;refine g3.uniq (a1.congr fun a b ha a0=>⟨?_,?_⟩) ha
         ·rintro⟨q,h1,l,c⟩;by_cases e:q=33
          ·subst e;exact⟨32,by omega,by omega,Qg hF ha hw c⟩
          ·exact⟨q,h1,by omega,c⟩
         ·rintro⟨q,h1,l,c⟩;exact⟨q,h1,by omega,c⟩
        exact m b4 _ _ _ ⟨C0 (by omega),a5,o,a1,next,by omega⟩
      ·refine ifF (by simpa using b3) (ifF (by simp) (B1 ef (m (by omega) _ _ _ ⟨C0 (by omega),a5,o,a1,next,by omega⟩)))
    ·refine ifF (by simpa using u) (B1 ef (m (by omega) _ _ _ ⟨C0 (by omega),g1,o,g3.congr fun a b _ _=>⟨?_,?_⟩,next,by omega⟩))
     ·rintro⟨q,h1,l,c⟩;omega
     ·rintro⟨q,h1,l,c⟩;omega
   ·refine ifF (by simp[k5]) ⟨x1,rfl,h1,t0.congr fun a b _ _=>?_⟩;rw[Jf];simp[R0,k3,k4,k5]
end Go.AM
namespace Go.AM
open IntKind (wrap)
open Go.Proofs
abbrev sOf (x y:BitVec 32):Sound:=⟨(x.toNat:Int),(y.toNat:Int)⟩
def okS (s:Sound):Prop:=∃p m:BitVec 32,s=sOf p m
theorem eq0 (x:BitVec 32):((x.toNat:Int)==0)=decide (x=0#32):=by
 rw[AA9];simp only[beq_iff_eq,decide_eq_true_eq];constructor
 ·intro h;apply AB8;show x.toNat=0;omega
 ·rintro rfl;rfl
theorem z32 (x:BitVec 32):x=0#32 ↔ ∀i,i<32->x.getLsbD i=false:=by
 constructor
 ·rintro rfl i a;simp
 ·intro h;apply AD2;intro i a;rw[h i a];simp
theorem Hu {x y:BitVec 32}(h:∀b,b<32->x.getLsbD b=y.getLsbD b):x=y:=AD2 h
theorem TQ (x:BitVec 32)(i:Nat):(F5 .and .u32 (shI .shr .u32 (x.toNat:Int) (i:Int)) 1==1)=x.getLsbD i:=by
 rw[Ac1,show (1:Int)=((1#32).toNat:Int) from rfl,DD];have h:(x >>> i &&& 1#32)=(BitVec.ofBool (x.getLsbD i)).setWidth 32:=by
  apply AD2;intro j b;simp only[Az5,AL6,AM8,AO3];by_cases a:j=0
  ·subst a;simp
  ·have:(1#32).getLsbD j=false:=by rw[AL7];simp[a]
   simp[this,a]
 rw[h];cases x.getLsbD i<;>rfl
theorem Ak9 (i:Nat):shI .shl .u32 1 (i:Int)=((1#32 <<< i).toNat:Int):=by rw[show (1:Int)=((1#32).toNat:Int) from rfl,Ar8]
theorem Xc {i j:Nat}(a:j<32):(1#32 <<< i).getLsbD j=decide (j=i):=by
 rw[AM5,AL7];by_cases h:j=i
 ·subst h;simp[a]
 ·by_cases b:j<i
  ·simp[h,b]
  ·have:j-i≠0:=by omega
   simp[h,this]
theorem Fg (x:BitVec 32):x.toNat<16777216 ↔ ∀i,24<=i->i<32->x.getLsbD i=false:=by
 constructor
 ·intro h i a b;exact AN8 (AA1 h (AG8 (n:=2) (i:=24) (by omega) a))
 ·intro h;refine Nat.lt_pow_two_of_testBit (n:=24) _ fun i a=>?_;by_cases c:i<32
  ·exact h i a c
  ·exact AN8 (AA1 x.isLt (AG8 (by omega) (by omega)))
def vB (p m:BitVec 32):Bool:=decide (∀i:Fin 32,¬(p.getLsbD i=true/\m.getLsbD i=true)/\(24<=i.1->p.getLsbD i=false/\m.getLsbD i=false))
theorem Ew (p m:BitVec 32):vB p m=true ↔ ∀i,i<32->¬(p.getLsbD i=true/\m.getLsbD i=true)/\(24<=i->p.getLsbD i=false/\m.getLsbD i=false):=by rw[vB,decide_eq_true_eq];exact⟨fun h i a=>h ⟨i,a⟩,fun h i=>h i.1 i.2⟩
theorem TR (p m:BitVec 32):p &&& m=0#32 ↔ ∀i,i<32->¬(p.getLsbD i=true/\m.getLsbD i=true):=by rw[z32];refine forall_congr' fun i=>forall_congr' fun a=>?_;rw[Az5,AO4];cases p.getLsbD i<;>cases m.getLsbD i<;>simp
theorem Av3 (p m:BitVec 32):vB p m=true↔p &&& m=0#32/\(p ||| m).toNat<16777216:=by
 rw[Ew,TR,Fg];constructor
 ·intro h;refine⟨fun i a=>(h i a).1,fun i h1 b=>?_⟩
  have:=(h i b).2 h1
  rw[Az4,this.1,this.2];rfl
 ·rintro⟨h1,b⟩ i a;refine⟨h1 i a,fun c=>?_⟩
  have:=b i c a
  rw[Az4,AG9]at this;exact this
theorem Av4 (p m:BitVec 32):vB p m=true↔p &&& m=0#32/\p.toNat<16777216/\m.toNat<16777216:=by rw[Ew,TR,Fg,Fg];exact⟨fun h=>⟨fun i a=>(h i a).1,fun i h1 b=>((h i b).2 h1).1,fun i h1 b=>((h i b).2 h1).2⟩,fun⟨h1,b,d⟩ i a=>⟨h1 i a,fun c=>⟨b i c a,d i c a⟩⟩⟩
theorem Az {N:Nat}(p m:BitVec 32):F7 N (sOf p m)=some (vB p m):=by unfold F7;rw[DD,Iz,eq0];congr 1;rw[AA9,Av3];simp only[Ay3,decide_eq_true_eq];exact⟨fun h=>⟨h.1,by have:=h.2;omega⟩,fun h=>⟨h.1,by have:=h.2;omega⟩⟩
theorem shr24 (x:BitVec 32):(shI .shr .u32 (x.toNat:Int) 24==0)=decide (x.toNat<16777216):=by
 rw[show (24:Int)=((24:Nat):Int) from rfl,Ac1,AA9];simp only[beq_iff_eq,decide_eq_true_eq,AJ0,AI7]
 have:=AP3 (a:=x.toNat) (b:=2 ^ 24)
 omega
theorem Qu {N:Nat}(p m:BitVec 32):Ae N (sOf p m)=some (vB p m):=by unfold Ae;rw[DD,Iz,eq0,shr24];congr 1;rw[AA9,Av3];simp only[Ay3,decide_eq_true_eq]
theorem Qv {N:Nat}(p m:BitVec 32):M8 N (sOf p m)=some (vB p m):=Qu (N:=N) p m
theorem MO {N:Nat}(p m:BitVec 32):T9 N (sOf p m)=some (vB p m):=by unfold T9;rw[DD,eq0];congr 1;rw[AA9,Av4];simp only[Ay3,decide_eq_true_eq];exact⟨fun h=>⟨h.1.1,by have:=h.1.2;omega,by have:=h.2;omega⟩,fun h=>⟨⟨h.1,by have:=h.2.1;omega⟩,by have:=h.2.2;omega⟩⟩
theorem W7 {N:Nat}(p m:BitVec 32)(n:1000<=N):I5 N (sOf p m)=some (vB p m):=by
 suffices h:∃r,I5 N (sOf p m)=some r/\r=vB p m by obtain⟨r,h,rfl⟩:=h;exact h
 unfold I5;refine BA (fun i x1=>x1=(i:Int)/\∀j,j<i->¬(p.getLsbD j=true/\m.getLsbD j=true)/\(24<=j->p.getLsbD j=false/\m.getLsbD j=false)) 32 _ (by omega) ⟨rfl,fun j d=>absurd d (by omega)⟩ ?_;rintro g i x1 o ⟨rfl,h1⟩ hs;by_cases hl:i<32
 ·refine ifT (by simp;omega) (ifT (by omega) ?_);simp only[TQ];have e24:decide ((24:Int)<=(i:Int))=decide (24<=i):=decide_eq_decide.2 (by omega);rw[e24];by_cases hb:¬(p.getLsbD i=true/\m.getLsbD i=true)/\(24<=i->p.getLsbD i=false/\m.getLsbD i=false)
  ·refine ifF ?_ (hs hl _ ⟨C0 (by omega),fun j d=>?_⟩)
   ·intro h;obtain⟨l,f⟩:=hb;revert h l f;by_cases c:24<=i
    ·intro h l f;obtain⟨a,b⟩:=f c;simp[a,b]at h
    ·cases p.getLsbD i<;>cases m.getLsbD i<;>simp[c]
   ·by_cases e:j=i
    ·subst e;exact hb
    ·exact h1 j (by omega)
  ·refine ifT ?_ ⟨false,rfl,?_⟩
   ·revert hb;by_cases c:24<=i
    ·cases p.getLsbD i<;>cases m.getLsbD i<;>simp[c]
    ·cases p.getLsbD i<;>cases m.getLsbD i<;>simp[c]
   ·symm;rw[<- AK5,Ew];exact fun h=>hb (h i hl)
 ·refine ifF (by simp;omega) ⟨true,rfl,?_⟩;symm;rw[Ew];exact fun j d=>h1 j (by omega)
def gB (p m:BitVec 32)(f:Nat):Int:=if p.getLsbD f then 1 else if m.getLsbD f then -1 else 0
theorem TT {N:Nat}(p m:BitVec 32)(a:vB p m=true)(f:Nat)(c:f<24)(b:1000<=N):Ap N (sOf p m) (f:Int)=some (gB p m f):=by
 unfold Ap;rw[W7 p m b];simp only[Ay4,lt,Hm,TQ,gB,a];rw[if_pos (by omega:(0:Int)<=(f:Int)),if_pos (by omega:(0:Int)<=(f:Int))];have e:(decide ((0:Int)<=(f:Int))&&decide ((f:Int)<24))=true:=by simp;omega
 rw[e];cases h1:p.getLsbD f<;>cases d:m.getLsbD f<;>simp
theorem gB_eq {p m a b:BitVec 32}(g:vB p m=true)(c : vB a b=true)(f:Nat)(d:f<32):(gB a b f≠0->gB p m f=gB a b f)↔((a.getLsbD f=true->p.getLsbD f=true)/\(b.getLsbD f=true->m.getLsbD f=true)):=by have h1:=((Ew p m).1 g f d).1;have i:=((Ew a b).1 c f d).1;revert h1 i;simp only[gB];cases a.getLsbD f<;>cases b.getLsbD f<;>cases p.getLsbD f<;>cases m.getLsbD f<;>simp
def VG (p m a b:BitVec 32):Bool:=vB p m&&(vB a b&&decide (∀i:Fin 32,(a.getLsbD i=true->p.getLsbD i=true)/\(b.getLsbD i=true->m.getLsbD i=true)))
theorem Al0 (a p:BitVec 32):a &&& ~~~ p=0#32 ↔ ∀i,i<32->(a.getLsbD i=true->p.getLsbD i=true):=by rw[z32];refine forall_congr' fun i=>forall_congr' fun b=>?_;rw[Az5,AC8];cases a.getLsbD i<;>cases p.getLsbD i<;>simp[b]
theorem Al1 {N:Nat}(p m a b:BitVec 32):I4 N (sOf p m) (sOf a b)=some (VG p m a b):=by
 unfold I4;rw[Az];simp only[Ay4,lt,Az,Dn,eq0,VG];cases h1:vB p m
 ·simp
 cases d:vB a b
 ·simp
 simp only[if_true,AJ4];have key:(decide (∀i:Fin 32,(a.getLsbD i=true->p.getLsbD i=true)/\(b.getLsbD i=true->m.getLsbD i=true)))=(decide (a &&& ~~~ p=0#32)&&decide (b &&& ~~~ m=0#32)):=by rw[AA9];simp only[Ay3,decide_eq_true_eq,Al0];exact⟨fun h=>⟨fun i c=>(h ⟨i,c⟩).1,fun i c=>(h ⟨i,c⟩).2⟩,fun h i=>⟨h.1 i.1 i.2,h.2 i.1 i.2⟩⟩
 rw[key];by_cases h:a &&& ~~~ p=0#32
 ·simp[h]
 ·simp[h]
theorem Al2 {N:Nat}(p m a b:BitVec 32)(f:1000<=N):T7 N (sOf p m) (sOf a b)=some (VG p m a b):=by
 suffices h:∃r,T7 N (sOf p m) (sOf a b)=some r/\r=VG p m a b by obtain⟨r,h,rfl⟩:=h;exact h
 unfold T7;rw[W7 p m f];refine B1 rfl (ltX ?_);cases h1:vB p m
 ·exact ifT (by simp) (ifT rfl ⟨false,rfl,by simp[VG,h1]⟩)
 refine ifF (by simp) ?_;rw[W7 a b f];refine B1 rfl ?_;cases c:vB a b
 ·exact ifT (by simp) ⟨false,rfl,by simp[VG,c]⟩
 refine ifF (by simp) ?_;refine BA (fun i x3=>x3=(i:Int)/\∀j,j<i->((a.getLsbD j=true->p.getLsbD j=true)/\(b.getLsbD j=true->m.getLsbD j=true))) 24 _ (by omega) ⟨rfl,fun j n=>absurd n (by omega)⟩ ?_;rintro d i x3 q ⟨rfl,o⟩ hs;by_cases hl:i<24
 ·refine ifT (by simp;omega) (B1 (TT a b c i hl f) (ltX ?_));have key:=gB_eq h1 c i (by omega);have fin:(¬(gB a b i≠0->gB p m i=gB a b i))->false=VG p m a b:=fun hn=>by symm;simp only[VG,h1,c,AJ4];rw[<- AK5,decide_eq_true_eq];intro h;exact hn (key.2 (h ⟨i,by omega⟩))
  have go:(gB a b i≠0->gB p m i=gB a b i)->∃r,d (wrap .i64 ((i:Int)+1))=some r/\r=VG p m a b:=fun hp=>hs hl _ ⟨C0 (by omega),fun j n=>by
   by_cases e:j=i
   ·subst e;exact key.1 hp
   ·exact o j (by omega)⟩
  by_cases g:gB a b i=0
  ·exact ifF (by simp[g]) (ifF (by simp) (go fun h=>absurd g h))
  ·refine ifT (by simp[g]) (B1 (TT p m h1 i hl f) ?_);by_cases l:gB p m i=gB a b i
   ·exact ifF (by simp[l]) (go fun _=>l)
   ·exact ifT (by simp[l]) ⟨false,rfl,fin fun h=>l (h g)⟩
 ·refine ifF (by simp;omega) ⟨true,rfl,?_⟩;symm;simp only[VG,h1,c,AJ4,decide_eq_true_eq];intro j;by_cases n:j.1<24
  ·exact o j.1 (by omega)
  ·have:=((Ew a b).1 c j.1 j.2).2 (by omega)
   exact⟨fun h=>by rw[this.1]at h;exact absurd h (by simp),fun h=>by rw[this.2]at h;exact absurd h (by simp)⟩
def OM (x y s:BitVec 32):BitVec 32:=(x &&& ~~~ s) ||| (y &&& s)
theorem Ad1 {N:Nat}(p m a b s:BitVec 32):AF N (sOf p m) (sOf a b) (s.toNat:Int)=some (sOf (OM p a s) (OM m b s)):=by unfold AF;simp only[Dn,DD,Iz,OM]
def Av5 (x:BitVec 32)(f:Nat)(on:Bool):BitVec 32:=if on then (x &&& ~~~ (1#32 <<< f)) ||| (1#32 <<< f)else x &&& ~~~ (1#32 <<< f)
theorem Fx (x:BitVec 32)(f:Nat)(on:Bool){j:Nat}(a:j<32):(Av5 x f on).getLsbD j=if j=f then on else x.getLsbD j:=by
 unfold Av5;cases on
 ·rw[if_neg (by simp),Az5,AC8,Xc a];by_cases e:j=f<;>simp[e,a]
 ·rw[if_pos rfl,Az4,Az5,AC8,Xc a];by_cases e:j=f<;>simp[e,a]
theorem Xd {N:Nat}(p m:BitVec 32)(f:Nat)(v:Int):Dt N (sOf p m) (f:Int) v=some (sOf (Av5 p f (v==1)) (Av5 m f (v == -1))):=by unfold Dt;rw[if_pos (by omega)];simp only[Ak9,Dn,Iz];cases h1:v==1<;>cases a:v == -1<;>simp[Av5]
def Zw (p m c a b:BitVec 32):Sound×Int:=if vB p m=true/\vB a b then (if c.toNat<16777216/\c &&& (a ||| b)=0#32 then (sOf (OM p a (c ||| (a ||| b))) (OM m b (c ||| (a ||| b))),0)else (⟨0,0⟩,2))else (⟨0,0⟩,14)
theorem Vi {N:Nat}(p m c a b:BitVec 32):L7 N (sOf p m) (c.toNat:Int) (sOf a b)=some (Zw p m c a b):=by
 unfold L7 Zw;rw[Az];simp only[Ay4,lt,Az,BX,Iz,DD,Ad1];cases h1:vB p m
 ·simp
 cases g:vB a b
 ·simp
 by_cases d:c.toNat<16777216
 ·have e:((c &&& (a ||| b)).toNat:Int) != 0 ↔ ¬(c &&& (a ||| b)=0#32):=by
   have:=eq0 (c &&& (a ||| b))
   simp only[bne_iff_ne,ne_eq];rw[<- decide_eq_true_eq (p:=c &&& (a ||| b)=0#32),<- this];simp
  by_cases f:c &&& (a ||| b)=0#32
  ·simp[d,f];omega
  ·have e':=e.2 f;rw[if_neg (by simp<;>omega),e'];simp[d,f]
 ·simp[d];omega
theorem Vj {N:Nat}(p m c a b:BitVec 32)(t:1000<=N):T8 N (sOf p m) (c.toNat:Int) (sOf a b)=some (Zw p m c a b):=by
 suffices h:∃r,T8 N (sOf p m) (c.toNat:Int) (sOf a b)=some r/\r=Zw p m c a b by obtain⟨r,h,rfl⟩:=h;exact h
 unfold T8;rw[W7 p m t];refine B1 rfl (ltX ?_);cases h1:vB p m
 ·exact ifT (by simp) (ifT rfl ⟨_,rfl,by simp[Zw,h1]⟩)
 refine ifF (by simp) ?_;rw[W7 a b t];refine B1 rfl ?_;cases o:vB a b
 ·exact ifT (by simp) ⟨_,rfl,by simp[Zw,o]⟩
 refine ifF (by simp) ?_;rw[Iz,DD];by_cases hc:c.toNat<16777216/\c &&& (a ||| b)=0#32
 ·obtain⟨q,n⟩:=hc;refine ifF (by rw[n];simp;omega) ?_;have y:∀j,j<32->¬(c.getLsbD j=true/\(a.getLsbD j=true \/ b.getLsbD j=true)):=fun j d=>by
   have:=(z32 _).1 n j d
   rw[Az5,Az4]at this;revert this;cases c.getLsbD j<;>cases a.getLsbD j<;>cases b.getLsbD j<;>simp
  refine Xa (fun i x2 x3 x4=>x4=(i:Int)/\∃P M:BitVec 32,x2=(P.toNat:Int)/\x3=(M.toNat:Int)/\∀j,j<32 ->
   P.getLsbD j=(if j<i/\(c.getLsbD j=true \/ a.getLsbD j=true \/ b.getLsbD j=true)then a.getLsbD j else p.getLsbD j)/\M.getLsbD j=(if j<i/\(c.getLsbD j=true \/ a.getLsbD j=true \/ b.getLsbD j=true)then b.getLsbD j else m.getLsbD j)) 24 _ (by omega)
   ⟨rfl,p,m,rfl,rfl,fun j d=>by simp⟩ ?_
  rintro w i x2 x3 x4 hi ⟨rfl,P,M,rfl,rfl,f⟩ hs;by_cases hl:i<24
  ·refine ifT (by simp;omega) (ifT (by omega) ?_);rw[TQ];have u:=TT (N:=N) a b o i hl t;have v:=((Ew a b).1 o i (by omega)).1;have z:=y i (by omega);by_cases l:c.getLsbD i=true
   ·refine ifT l (B1 (Xd P M i 0) (B1 u ?_));have ea:a.getLsbD i=false:=by cases e:a.getLsbD i<;>simp_all
    have eb:b.getLsbD i=false:=by cases e:b.getLsbD i<;>simp_all
    refine ifF (by simp[gB,ea,eb]) (hs hl _ _ _ ⟨C0 (by omega),_,_,rfl,rfl,fun j d=>?_⟩);rw[Fx _ _ _ d,Fx _ _ _ d];by_cases e:j=i
    ·subst e;simp[l,ea,eb]
    ·have:=f j d
     have e2:j<i+1↔j<i:=by omega
     simp only[e,if_false,e2];exact this
   ·refine ifF l (B1 u ?_);by_cases s:gB a b i=0
    ·have ea:a.getLsbD i=false:=by revert s;simp only[gB];cases a.getLsbD i<;>simp
     have eb:b.getLsbD i=false:=by revert s;simp only[gB,ea];cases b.getLsbD i<;>simp
     refine ifF (by simp[s]) (hs hl _ _ _ ⟨C0 (by omega),P,M,rfl,rfl,fun j d=>?_⟩);by_cases e:j=i
     ·subst e;have:=f j d;simpa[l,ea,eb]using this
     ·have:=f j d
      have e2:j<i+1↔j<i:=by omega
      simp only[e2];exact this
    ·refine ifT (by simp[s]) (B1 u (B1 (Xd P M i _) (hs hl _ _ _ ⟨C0 (by omega),_,_,rfl,rfl,fun j d=>?_⟩)));rw[Fx _ _ _ d,Fx _ _ _ d];by_cases e:j=i
     ·subst e;revert s v;simp only[gB];cases a.getLsbD j<;>cases b.getLsbD j<;>simp
     ·have:=f j d
      have e2:j<i+1↔j<i:=by omega
      simp only[e,if_false,e2];exact this
  ·obtain rfl:i=24:=by omega
   refine ifF (by simp) ⟨_,rfl,?_⟩;simp only[Zw,h1,o,q,n,and_self,if_true];have hp:=(Ew p m).1 h1;have x:=(Ew a b).1 o;have a0:=(Fg c).1 q;have eP:P=OM p a (c ||| (a ||| b)):=Hu fun j d=>by
    rw[(f j d).1,OM,Az4,Az5,Az5,AC8,Az4,Az4];by_cases g:j<24
    ·cases c.getLsbD j<;>cases a.getLsbD j<;>cases b.getLsbD j<;>cases p.getLsbD j<;>simp[g,d]
    ·have g1:=(hp j d).2 (by omega);have g2:=(x j d).2 (by omega);simp[g,g1.1,g2.1]
   have eM:M=OM m b (c ||| (a ||| b)):=Hu fun j d=>by
    rw[(f j d).2,OM,Az4,Az5,Az5,AC8,Az4,Az4];by_cases g:j<24
    ·cases c.getLsbD j<;>cases a.getLsbD j<;>cases b.getLsbD j<;>cases m.getLsbD j<;>simp[g,d]
    ·have g1:=(hp j d).2 (by omega);have g2:=(x j d).2 (by omega);simp[g,g1.2,g2.2]
   rw[eP,eM]
 ·refine ifT ?_ ⟨_,rfl,?_⟩
  ·rw[AA0,decide_eq_true_eq,bne_iff_ne];by_cases h:c.toNat<16777216
   ·right
    intro h0;exact hc ⟨h,AB8 (by show _=0;omega)⟩
   ·left;omega
  ·simp only[Zw,h1,o,and_self,if_true];rw[if_neg hc]
def Zx (p m a b s:BitVec 32):Sound×Int:=if vB p m=true/\vB a b then (if s.toNat<16777216 then (sOf (OM p a s) (OM m b s),0)else (⟨0,0⟩,2))else (⟨0,0⟩,14)
theorem Zy {N:Nat}(p m a b s:BitVec 32):Q6 N (sOf p m) (sOf a b) (s.toNat:Int)=some (Zx p m a b s):=by
 unfold Q6 Zx;rw[Az];simp only[Ay4,lt,Az,Ad1];cases h1:vB p m
 ·simp
 cases d:vB a b
 ·simp
 by_cases c:s.toNat<16777216
 ·simp[c];omega
 ·simp[c];omega
theorem Zz {N:Nat}(p m a b s:BitVec 32)(o:1000<=N):AG N (sOf p m) (sOf a b) (s.toNat:Int)=some (Zx p m a b s):=by
 suffices h:∃r,AG N (sOf p m) (sOf a b) (s.toNat:Int)=some r/\r=Zx p m a b s by obtain⟨r,h,rfl⟩:=h;exact h
 unfold AG;rw[W7 p m o];refine B1 rfl (ltX ?_);cases h1:vB p m
 ·exact ifT (by simp) (ifT rfl ⟨_,rfl,by simp[Zx,h1]⟩)
 refine ifF (by simp) ?_;rw[W7 a b o];refine B1 rfl ?_;cases l:vB a b
 ·exact ifT (by simp) ⟨_,rfl,by simp[Zx,l]⟩
 refine ifF (by simp) ?_;by_cases hc:s.toNat<16777216
 ·refine ifF (by simp;omega) ?_;refine Xa (fun i x2 x3 x4=>x4=(i:Int)/\∃P M:BitVec 32,x2=(P.toNat:Int)/\x3=(M.toNat:Int)/\∀j,j<32 ->
   P.getLsbD j=(if j<i/\s.getLsbD j then a.getLsbD j else p.getLsbD j)/\M.getLsbD j=(if j<i/\s.getLsbD j then b.getLsbD j else m.getLsbD j)) 24 _ (by omega)
   ⟨rfl,p,m,rfl,rfl,fun j c=>by simp⟩ ?_
  rintro t i x2 x3 x4 u ⟨rfl,P,M,rfl,rfl,d⟩ hs;by_cases hl:i<24
  ·refine ifT (by simp;omega) (ifT (by omega) ?_);rw[TQ];have q:=((Ew a b).1 l i (by omega)).1;by_cases g:s.getLsbD i=true
   ·refine ifT g (B1 (TT (N:=N) a b l i hl o) (B1 (Xd P M i _) (hs hl _ _ _ ⟨C0 (by omega),_,_,rfl,rfl,fun j c=>?_⟩)));rw[Fx _ _ _ c,Fx _ _ _ c];by_cases e:j=i
    ·subst e;revert q;simp only[gB,g];cases a.getLsbD j<;>cases b.getLsbD j<;>simp
    ·have:=d j c
     have e2:j<i+1↔j<i:=by omega
     simp only[e,if_false,e2];exact this
   ·refine ifF g (hs hl _ _ _ ⟨C0 (by omega),P,M,rfl,rfl,fun j c=>?_⟩);by_cases e:j=i
    ·subst e;have:=d j c;simpa[g]using this
    ·have:=d j c
     have e2:j<i+1↔j<i:=by omega
     simp only[e2];exact this
  ·obtain rfl:i=24:=by omega
   refine ifF (by simp) ⟨_,rfl,?_⟩;simp only[Zx,h1,l,hc,and_self,if_true];have n:=(Fg s).1 hc;have eP:P=OM p a s:=Hu fun j c=>by
    rw[(d j c).1,OM,Az4,Az5,Az5,AC8];by_cases f:j<24
    ·cases s.getLsbD j<;>cases a.getLsbD j<;>cases p.getLsbD j<;>simp[f,c]
    ·rw[if_neg (by simp[f]),n j (by omega) c];simp[c]
   have eM:M=OM m b s:=Hu fun j c=>by
    rw[(d j c).2,OM,Az4,Az5,Az5,AC8];by_cases f:j<24
    ·cases s.getLsbD j<;>cases b.getLsbD j<;>cases m.getLsbD j<;>simp[f,c]
    ·rw[if_neg (by simp[f]),n j (by omega) c];simp[c]
   rw[eP,eM]
 ·exact ifT (by simp;omega) ⟨_,rfl,by simp[Zx,h1,l,hc]⟩
end Go.AM
namespace Go.AM
open Go.Proofs
def vS (s:Sound):Prop:=∃p m:BitVec 32,s=sOf p m/\vB p m=true
def FC (p:Pat):Prop:=
 (0<=p.Kind/\p.Kind<=6)/\(p.Kind≠1->(p.Is.Plus=0/\p.Is.Minus=0)/\p.Not=false)/\(p.Kind≠3->p.Kind≠4->p.Kind≠5->p.L.n=0)/\(p.Kind≠5->p.Min=0/\p.Max=0) /\
 (p.Kind=5->p.L.n=1/\0<=p.Min/\p.Min<=32/\(p.Max = -1 \/ (p.Min<=p.Max/\p.Max<=32)))/\vS p.Is
theorem Sv {s:Sound}{p m:BitVec 32}(h:s=sOf p m):vS s↔vB p m=true:=by
 constructor
 ·rintro⟨q,r,e,a⟩;rw[h]at e;have e1:(p.toNat:Int)=q.toNat:=congrArg Sound.Plus e;have e2:(m.toNat:Int)=r.toNat:=congrArg Sound.Minus e;rw[AB8 (show p.toNat=q.toNat by omega),AB8 (show m.toNat=r.toNat by omega)];exact a
 ·exact fun a=>⟨p,m,h,a⟩
def okPS:Pat->Prop
 |.nil=>True
 |.mk _ is _ _ _ n g=>okS is/\∀i,i<n->okPS (g i)
theorem okPS.is {p:Pat}(h:okPS p):okS p.Is:=by
 cases p with
 |nil=>exact⟨0#32,0#32,rfl⟩
 |mk _ is _ _ _ n g=>exact h.1
theorem okPS.L {p:Pat}(h:okPS p){i:Nat}(a:i<p.L.n):okPS (p.L.g i):=by
 cases p with
 |nil=>exact absurd a (by show ¬i<0;omega)
 |mk _ is _ _ _ n g=>exact h.2 i a
def chk:Nat->List Pat->Prop
 |0,l=>l=[]
 |_+1,[]=>True
 |k+1,p::l=>FC p/\chk k (p.L.toList++l)
theorem Xe:∀k,chk k []
 |0=>rfl
 |_+1=>trivial
theorem KU:∀(k:Nat) (l:List Pat),chk k l->l.length<=k
 |0,l,h=>by rw[show l=[] from h];exact Ay6 _
 |k+1,[],_=>AH2 _
 |k+1,p::l,⟨_,h⟩=>by
  have:=KU k _ h
  rw[AC5]at this;simp only[AB1];omega
theorem TU:∀(d:Nat) (p:Pat),okP d p->okP (d+1) p
 |0,_,h=>h.elim
 |d+1,p,⟨h1,h2,h3⟩=>⟨h1,h2,fun i a=>TU d _ (h3 i a)⟩
theorem MP {α : Type}{s:Sl α}{i:Nat}(h:i<s.n):s.g i∈s.toList:=AF3.2 ⟨i,AE3.2 h,rfl⟩
theorem BG {α : Type}(s:Sl α):s.toList.length=s.n:=by simp[Sl.toList]
theorem KV:∀(k:Nat) (l:List Pat),k<=40->chk k l->∀p∈l,okP k p
 |0,l,_,h,p,hp=>by rw[show l=[] from h]at hp;cases hp
 |k+1,[],_,_,p,hp=>by cases hp
 |k+1,q::l,hk,⟨hn,h⟩,p,hp=>by
  have ih:=KV k _ (by omega) h;rcases AB2.1 hp with rfl|hp
  ·have hl:=KU k _ h;rw[AC5,BG]at hl;exact⟨by omega,fun a=>hn.2.2.2.2.1 a,fun i b=>ih _ (AA6 _ (MP b))⟩
  ·exact TU k p (ih p (Az3 _ hp))
theorem ZA {N:Nat}{p:Pat}(hp:okS p.Is):∃e,HW N p=some e/\(e=0↔FC p):=by
 obtain⟨a,b,f⟩:=hp;have i:=Sv f;unfold HW FC;by_cases h1:0<=p.Kind/\p.Kind<=6
 case neg=>exact ifT (by simp;omega) ⟨2,rfl,by simp;omega⟩
 refine ifF (by simp;omega) ?_;have e0:((p.Is.Plus==0)&&(p.Is.Minus==0))=decide (p.Is.Plus=0/\p.Is.Minus=0):=by rw[AA9];simp
 rw[e0];by_cases c:p.Kind≠1->(p.Is.Plus=0/\p.Is.Minus=0)/\p.Not=false
 case neg=>
  refine ifT ?_ ⟨2,rfl,by simp[c]⟩;simp only[Ay3,AA0,bne_iff_ne,ne_eq,AK5,decide_eq_false_iff_not];rw[Classical.not_imp]at c;refine⟨c.1,?_⟩;by_cases h:p.Is.Plus=0/\p.Is.Minus=0
  ·right
   cases hn:p.Not
   ·exact absurd ⟨h,hn⟩ c.2
   ·rfl
  ·exact .inl h
 refine ifF ?_ (ltX ?_)
 ·simp only[Ay3,AA0,bne_iff_ne,ne_eq,AK5,decide_eq_false_iff_not];rintro⟨g1,g2⟩;obtain⟨g3,g4⟩:=c g1;rcases g2 with g2|g2
  ·exact g2 g3
  ·rw[g4]at g2;cases g2
 have rest:(p.Kind≠3->p.Kind≠4->p.Kind≠5->p.L.n=0)->∃e,(if ((p.Kind != 5)&&((p.Min != 0)||(p.Max != 0))) then some (2:Int)else
  lt (fun (z2:Bool)=>if z2 then some 2 else (T9 N p.Is).bind fun y1=>if (!y1) then some 14 else some 0) fun k2=>
   if (p.Kind==5) then if (((p.L.n:Nat):Int) != 1) then k2 true else if (decide (p.Min<0)) then k2 true else if (decide (32<p.Min)) then k2 true else
    if (p.Max != (-1)) then if (decide (p.Max<p.Min)) then k2 true else k2 (decide (32<p.Max))else k2 false else k2 false)=some e /\
  (e=0↔(0<=p.Kind/\p.Kind<=6)/\(p.Kind≠1->(p.Is.Plus=0/\p.Is.Minus=0)/\p.Not=false)/\(p.Kind≠3->p.Kind≠4->p.Kind≠5->p.L.n=0)/\(p.Kind≠5->p.Min=0/\p.Max=0) /\
   (p.Kind=5->p.L.n=1/\0<=p.Min/\p.Min<=32/\(p.Max = -1 \/ (p.Min<=p.Max/\p.Max<=32)))/\vS p.Is):=by
  intro j;by_cases d:p.Kind≠5->p.Min=0/\p.Max=0
  case neg=>refine ifT ?_ ⟨2,rfl,by simp[d]⟩;rw[Classical.not_imp]at d;simp only[Ay3,AA0,bne_iff_ne,ne_eq];omega
  refine ifF ?_ (ltX ?_)
  ·simp only[Ay3,AA0,bne_iff_ne,ne_eq];rintro⟨g1,g2⟩
   have:=d g1
   omega
  have last:(p.Kind=5->p.L.n=1/\0<=p.Min/\p.Min<=32/\(p.Max = -1 \/ (p.Min<=p.Max/\p.Max<=32)))->∃e,(if false then some (2:Int)else (T9 N p.Is).bind fun y1=>if (!y1) then some 14 else some 0)=some e /\
   (e=0↔(0<=p.Kind/\p.Kind<=6)/\(p.Kind≠1->(p.Is.Plus=0/\p.Is.Minus=0)/\p.Not=false)/\(p.Kind≠3->p.Kind≠4->p.Kind≠5->p.L.n=0)/\(p.Kind≠5->p.Min=0/\p.Max=0) /\
    (p.Kind=5->p.L.n=1/\0<=p.Min/\p.Min<=32/\(p.Max = -1 \/ (p.Min<=p.Max/\p.Max<=32)))/\vS p.Is):=by
   intro g;refine ifF (by simp) ?_;rw[i,f,MO];refine B1 rfl ?_;cases l:vB a b
   ·exact ifT rfl ⟨14,rfl,by simp⟩
   ·exact ifF (by simp) ⟨0,rfl,by rw[<- f];exact⟨fun _=>⟨h1,c,j,d,g,rfl⟩,fun _=>rfl⟩⟩
  have bad:¬(p.Kind=5->p.L.n=1/\0<=p.Min/\p.Min<=32/\(p.Max = -1 \/ (p.Min<=p.Max/\p.Max<=32)))->∃e,(if true then some (2:Int)else (T9 N p.Is).bind fun y1=>if (!y1) then some 14 else some 0)=some e /\
   (e=0↔(0<=p.Kind/\p.Kind<=6)/\(p.Kind≠1->(p.Is.Plus=0/\p.Is.Minus=0)/\p.Not=false)/\(p.Kind≠3->p.Kind≠4->p.Kind≠5->p.L.n=0)/\(p.Kind≠5->p.Min=0/\p.Max=0) /\
    (p.Kind=5->p.L.n=1/\0<=p.Min/\p.Min<=32/\(p.Max = -1 \/ (p.Min<=p.Max/\p.Max<=32)))/\vS p.Is):=fun g=>ifT rfl ⟨2,rfl,⟨fun h=>absurd h (by decide),fun h=>absurd h.2.2.2.2.1 g⟩⟩
  by_cases k5:p.Kind=5
  ·refine ifT (by simp[k5]) ?_;by_cases g1:p.L.n=1
   case neg=>exact ifT (by simp;omega) (bad fun h=>g1 (h k5).1)
   refine ifF (by simp;omega) ?_;by_cases g2:p.Min<0
   ·exact ifT (by simpa using g2) (bad fun h=>by have:=h k5;omega)
   refine ifF (by simpa using g2) ?_;by_cases g3:32<p.Min
   ·exact ifT (by simpa using g3) (bad fun h=>by have:=h k5;omega)
   refine ifF (by simpa using g3) ?_;by_cases g4:p.Max = -1
   ·exact ifF (by simp[g4]) (last fun _=>⟨g1,by omega,by omega,.inl g4⟩)
   refine ifT (by simp[g4]) ?_;by_cases g5:p.Max<p.Min
   ·exact ifT (by simpa using g5) (bad fun h=>by have:=h k5;omega)
   refine ifF (by simpa using g5) ?_;by_cases g6:32<p.Max
   ·rw[decide_eq_true g6];exact bad fun h=>by have:=h k5;omega
   ·rw[decide_eq_false g6];exact last fun _=>⟨g1,by omega,by omega,.inr ⟨by omega,by omega⟩⟩
  ·exact ifF (by simp[k5]) (last fun h=>absurd h k5)
 by_cases k3:p.Kind=3
 ·exact ifF (by simp[k3]) (ifF (by simp) (rest fun h=>absurd k3 h))
 refine ifT (by simp[k3]) ?_;by_cases k4:p.Kind=4
 ·exact ifF (by simp[k4]) (ifF (by simp) (rest fun _ h=>absurd k4 h))
 refine ifT (by simp[k4]) ?_;by_cases k5:p.Kind=5
 ·exact ifF (by simp[k5]) (ifF (by simp) (rest fun _ _ h=>absurd k5 h))
 refine ifT (by simp[k5]) ?_;by_cases hn:p.L.n=0
 ·exact ifF (by simp;omega) (rest fun _ _ _=>hn)
 ·exact ifT (by simp;omega) ⟨2,rfl,⟨fun h=>absurd h (by decide),fun h=>absurd (h.2.2.1 k3 k4 k5) hn⟩⟩
theorem Ed {α : Type}(s:Sl α){i:Nat}(h:i<s.n):s.toList.drop i=s.g i::s.toList.drop (i+1):=by
 have hl:i<s.toList.length:=by rw[BG];exact h
 rw[AI5 hl];simp[Sl.toList]
theorem Cl {α : Type}(s:Sl α):s.toList.drop s.n=[]:=AE9 (by rw[BG];exact Ay6 _)
theorem Xf {N:Nat}(o:1000<=N):∀(d:Nat),d<=40->∀(p:Pat),okPS p->∀M,N+d+1<=M->∃r,Du M p ((40-d:Nat):Int)=some r /\
 ∃k:Nat,r.1=(k:Int)/\40-d<=k/\k<=40/\(r.2=0->40-d<k/\∀l,chk d (p::l)↔chk (40-k) l)/\(r.2≠0->∀l,¬chk d (p::l))
 |d,hd,p,hp,0,hM=>by omega
 |0,hd,p,hp,M+1,hM=>by show ∃r,Bb (Du M) M p _=some r/\_;unfold Bb;exact ifT (by simp) ⟨_,rfl,40,rfl,by omega,by omega,fun h=>absurd h (by decide),fun _ l h=>by cases h⟩
 |d+1,hd,p,hp,M+1,hM=>by
  show ∃r,Bb (Du M) M p _=some r/\_;unfold Bb;refine ifF (by simp;omega) ?_;obtain⟨e,q,hn⟩:=ZA (N:=M) hp.is;refine B1 q ?_;by_cases c:e=0
  case neg=>exact ifT (by simp[c]) ⟨_,rfl,40-(d+1),rfl,Ay6 _,by omega,fun h=>absurd h c,fun _ l h=>c (hn.2 h.1)⟩
  refine ifF (by simp[c]) ?_;have a:=hn.1 c;rw[C0 (by omega)];refine N8 (fun i x1 x2=>x2=(i:Int)/\∃k:Nat,x1=(k:Int)/\40-(d+1)+1+i<=k/\k<=40/\i<=p.L.n/\∀l,chk (d+1) (p::l)↔chk (40-k) (p.L.toList.drop i++l)) 41 _ (by omega)
   ⟨rfl,40-(d+1)+1,rfl,by omega,by omega,by omega,fun l=>by rw[show 40-(40-(d+1)+1)=d by omega];exact⟨fun h=>h.2,fun h=>⟨a,h⟩⟩⟩ ?_
  rintro j i x1 x2 t ⟨rfl,k,rfl,h1,s,u,f⟩ hs;by_cases hl:i<p.L.n
  ·refine ifT (by simp;omega) (ifT (by omega) ?_);obtain⟨r,m,k',r1,r2,r3,r4,r5⟩:=Xf o (40-k) (by omega) (p.L.g i) (hp.L hl) M (by omega);rw[show ((40-(40-k):Nat):Int)=(k:Int) by omega]at m;refine B1 (by rw[Ay0];exact m) ?_;by_cases b:r.2=0
   ·refine ifF (by simp[b]) (hs (by omega) _ _ ⟨C0 (by omega),k',r1,by have:=(r4 b).1;omega,r3,by omega,fun l=>?_⟩);rw[f,Ed _ hl,AC0];exact (r4 b).2 _
   ·refine ifT (by simp[b]) ⟨_,rfl,k',r1,by omega,r3,fun h=>absurd h b,fun _ l hc=>?_⟩;rw[f,Ed _ hl,AC0]at hc;exact r5 b _ hc
  ·obtain rfl:i=p.L.n:=by omega
   refine ifF (by simp) ⟨_,rfl,k,rfl,by omega,s,fun _=>⟨by omega,fun l=>?_⟩,fun h=>absurd rfl h⟩;rw[f,Cl];rfl
theorem KW {N:Nat}(f:2000<=N){p:Pat}(hp:okPS p):∃e,Ca N p=some e/\(e=0↔chk 40 [p]):=by
 obtain⟨r,b,k,h1,g,i,c,d⟩:=Xf (N:=1500) (by omega) 40 (Ay6 _) p hp N (by omega);unfold Ca;refine B1 b ⟨_,rfl,fun h=>?_,fun h=>?_⟩
 ·exact ((c h).2 []).2 (Xe _)
 ·by_cases a:r.2=0
  ·exact a
  ·exact absurd h (d a [])
end Go.AM
namespace Go.AM
open Go.Proofs
theorem Xg (x:BitVec 64)(h:x≠0#64):Lib.ctz 64 x.toNat<64/\x.getLsbD (Lib.ctz 64 x.toNat)=true/\∀j,j<Lib.ctz 64 x.toNat->x.getLsbD j=false:=by
 have b:x.toNat≠0:=fun e=>h (AB8 (by simpa using e));obtain⟨m,hm,a⟩:=Lib.ctzFrom_spec 64 x.toNat (by omega) x.isLt;have e:Lib.ctz 64 x.toNat=Lib.ctzFrom 64 x.toNat:=by unfold Lib.ctz;rw[if_neg b]
 rw[e];refine⟨a,?_,fun j c=>?_⟩
 ·show x.toNat.testBit _=true;rw[hm,AM9];simp[<- hm,Nat.testBit_zero]
 ·show x.toNat.testBit _=false;rw[hm,AM9];simp[<- hm];omega
def Ee (x:BitVec 64)(i:Nat):List Int:=((List.range' i (64-i)).filter fun j=>x.getLsbD j).map fun (j:Nat)=>(j:Int)
theorem Id {x:BitVec 64}{i:Nat}(h:∀j,j<64->x.getLsbD j=false):Ee x i=[]:=by
 unfold Ee;rw[AN9.2 fun j a=>by
  have:=List.mem_range'.1 a
  simp;exact h j (by omega)]
 rfl
theorem MQ {x:BitVec 64}{t:Nat}:∀(k i:Nat),t=i+k->t<64->x.getLsbD t=true->(∀j,j<t->x.getLsbD j=false)->Ee x i=(t:Int)::Ee x (t+1)
 |0,i,h,ht,hb,hl=>by
  obtain rfl:t=i:=by omega
  unfold Ee;rw[show 64-t=(64-(t+1))+1 by omega,AI9,AN0 hb];rfl
 |k+1,i,h,ht,hb,hl=>by rw[<- MQ k (i+1) (by omega) ht hb hl];unfold Ee;rw[show 64-i=(64-(i+1))+1 by omega,AI9,AN1 (by simp;exact hl i (by omega))]
theorem Sw {x y:BitVec 64}{i:Nat}(h:∀j,i<=j->x.getLsbD j=y.getLsbD j):Ee x i=Ee y i:=by unfold Ee;rw[List.filter_congr fun j a=>h j (by have:=List.mem_range'.1 a;omega)]
def Ax6 (M:Nat)(a:Int->Option (List Int))(x1:Int):Option (List Int):=
 if (x1 != 0) then
  (F4 M x1).bind fun y3=>
  if (0:Int)<=y3 then
   Bm y3 (
    a (F5 .andNot .u64 x1 (shI .shl .u64 1 y3))
    )
  else none
 else
  some []
theorem Xh {x:BitVec 64}{M:Nat}{a:Int->Option (List Int)}(hx:x≠0#64):Ax6 M a (U x)=Bm ((Lib.ctz 64 x.toNat:Nat):Int) (a (U (x &&& ~~~(1#64 <<< Lib.ctz 64 x.toNat)))):=by
 have c:x.toNat≠0:=fun e=>hx (AB8 (by simpa using e));have b:=x.isLt;unfold Ax6;rw[if_pos (by simp;omega)]
 have:F4 M (U x)=some ((Lib.ctz 64 x.toNat:Nat):Int):=by unfold F4;rw[if_pos ⟨show (0:Int)<=(x.toNat:Int) by omega,show (x.toNat:Int)<18446744073709551616 by omega⟩];rfl
 rw[this,Ay4,if_pos (by omega),Qf _ (Xg x hx).1,Zp]
theorem Qw {M:Nat}{a:Int->Option (List Int)}:Ax6 M a (U 0#64)=some []:=rfl
theorem Al3 (M:Nat):∀(k i:Nat) (x:BitVec 64),64-i<=k->(∀j,j<i->x.getLsbD j=false)->∀N,k<N->S8 N (Ax6 M) (U x)=some (Ee x i):=by
 intro k
 induction k with
 |zero=>
  intro i x hk hl N b;have g:x=0#64:=AD2 fun j a=>by simp;exact hl j (by omega)
  subst g
  match N,b with
  |N+1,_=>rw[Id fun j a=>by simp,BP,Qw]
 |succ k ih=>
  intro i x hk hl N b
  match N,b with
  |N+1,b=>
   by_cases hx:x=0#64
   ·subst hx;rw[Id fun j a=>by simp,BP,Qw]
   ·obtain⟨h1,c,d⟩:=Xg x hx;have l:i<=Lib.ctz 64 x.toNat:=by
     by_cases m:Lib.ctz 64 x.toNat<i
     ·rw[hl _ m]at c;cases c
     ·omega
    rw[MQ (Lib.ctz 64 x.toNat-i) i (by omega) h1 c d,BP,Xh hx];generalize Lib.ctz 64 x.toNat=t at h1 c d l;have hb:∀j,j<64->(x &&& ~~~(1#64 <<< t)).getLsbD j=(x.getLsbD j && !decide (j=t)):=fun j a=>by rw[Az5,AC8,EW h1 a];simp[a]
    have hc:Ee x (t+1)=Ee (x &&& ~~~(1#64 <<< t)) (t+1):=Sw fun j a=>by
     by_cases f:j<64
     ·rw[hb j f];have:¬j=t:=by omega
      simp[this]
     ·rw[AO8 _ _ (by omega),AO8 _ _ (by omega)]
    rw[ih (t+1) (x &&& ~~~(1#64 <<< t)) (by omega) (fun j a=>by
     rw[hb j (by omega)];by_cases e:j=t
     ·simp[e]
     ·rw[d j (by omega)];rfl) N (by omega),<- hc]
    rfl
theorem Gv (x:BitVec 64){N:Nat}(b:100<=N):O0 N (U x)=some (Ee x 0):=
 Al3 N 64 0 x (by omega) (fun j a=>absurd a (by omega)) N (by omega)
theorem mem_bitsF {x:BitVec 64}{i:Nat}{y:Int}:y∈Ee x i ↔ ∃j:Nat,y=(j:Int)/\i<=j/\j<64/\x.getLsbD j=true:=by
 unfold Ee;simp only[AF3,AJ6,AM6];constructor
 ·rintro⟨j,⟨h1,a⟩,rfl⟩;exact⟨j,rfl,h1.1,by omega,a⟩
 ·rintro⟨j,rfl,h1,a,b⟩;exact⟨j,⟨⟨h1,by omega⟩,b⟩,rfl⟩
theorem ZB {T A R:Type}{body:(A->Option R)->T->A->Option R}{k:A->Option R}{I9:R->Prop}(J:List T->A->Prop)(c:∀a,J [] a->∃r,k a=some r/\I9 r)
 (b:∀t L a self,J (t::L) a->(∀a',J L a' -> ∃r,self a' = some r/\I9 r)->∃r,body self t a=some r/\I9 r):∀(L:List T) (a:A),J L a->∃r,Q4 L body k a=some r/\I9 r
 |[],a,h=>c a h
 |t::L,a,h=>b t L a _ h fun a' h'=>ZB J c b L a' h'
def TabA (n:Nat)(R:Nat->Nat->Prop)(f:Nat->Int):Prop:=TabR n R f/\∀a,n<a->f a=0
theorem TabA.congr {n:Nat}{R R' : Nat->Nat->Prop}{f:Nat->Int}(h:TabA n R f)(c:∀a b,a<=n->b<=n->(R a b↔R' a b)):TabA n R' f:=⟨h.1.congr c,h.2⟩
theorem zeroA (n:Nat):TabA n (fun _ _=>False) (fun _=>0):=⟨Zv fun _ _=>rfl,fun _ _=>rfl⟩
theorem CF (f:Nat->Int)(i:Nat)(v:Int)(a:Nat):Ka f i v a=if a=i then v else f a:=rfl
theorem Ad2 {N n:Nat}{R S:Nat->Nat->Prop}{x y:Nat->Int}(hn:n<=32)(f:1000<=N)(hR:TabA n R x)(hS:TabA n S y) :∃s,J7 N x y=some s/\TabA n (fun a b=>R a b \/ S a b) s:=by
 unfold J7;refine N8 (fun i x1 x2=>x2=(i:Int)/\∀a,x1 a=if a<i then F5 .or .u64 (x a) (y a)else x a) 33 _ (by omega) ⟨rfl,fun a=>by rw[if_neg (by omega)]⟩ ?_;rintro d i x1 x2 g ⟨rfl,c⟩ hs;by_cases hl:i<33
 ·refine ifT (by simp;omega) (ifT (by omega) (ifT (by omega) (hs (by omega) _ _ ⟨C0 (by omega),fun a=>?_⟩)));rw[CF,Ay0,AB0,AD0];by_cases e:a=i
  ·subst e;rw[if_pos rfl,if_pos (by omega),c a,if_neg (by omega)]
  ·rw[if_neg e,c a];by_cases e2:a<i
   ·rw[if_pos e2,if_pos (by omega)]
   ·rw[if_neg e2,if_neg (by omega)]
 ·refine ifF (by simp;omega) ⟨x1,rfl,fun a ha=>?_,fun a ha=>?_⟩
  ·obtain⟨u,e1,g1⟩:=hR.1 a ha;obtain⟨v,e2,g2⟩:=hS.1 a ha;refine⟨u ||| v,by rw[c a,if_pos (by omega),e1,e2,Ax5],fun b hb=>?_⟩;rw[Az4,AA0,g1 b hb,g2 b hb];constructor
   ·rintro (⟨h1,c⟩ | ⟨h1,c⟩)
    ·exact⟨h1,.inl c⟩
    ·exact⟨h1,.inr c⟩
   ·rintro⟨h1,c|c⟩
    ·exact .inl ⟨h1,c⟩
    ·exact .inr ⟨h1,c⟩
  ·rw[c a];split
   ·rw[hR.2 a ha,hS.2 a ha];rfl
   ·exact hR.2 a ha
theorem Fh {N n:Nat}(hn:n<=32)(f:1000<=N):∃s,N5 N (n:Int)=some s/\TabA n (fun a b=>a=b) s:=by
 unfold N5;rw[C0 (by omega)];refine N8 (fun i x1 x2=>x2=(i:Int)/\∀a,x1 a=if a<i then U (1#64 <<< a)else 0) (n+1) _ (by omega) ⟨rfl,fun a=>rfl⟩ ?_;rintro d i x1 x2 g ⟨rfl,c⟩ hs;by_cases hl:i<=n
 ·refine ifT (by simp;omega) (ifT (by omega) (hs (by omega) _ _ ⟨C0 (by omega),fun a=>?_⟩));rw[CF,Ay0,AB0,AD0];by_cases e:a=i
  ·subst e;rw[if_pos rfl,if_pos (by omega),Qf _ (by omega)]
  ·rw[if_neg e,c a];by_cases e2:a<i
   ·rw[if_pos e2,if_pos (by omega)]
   ·rw[if_neg e2,if_neg (by omega)]
 ·refine ifF (by simp;omega) ⟨x1,rfl,fun a ha=>⟨1#64 <<< a,by rw[c a,if_pos (by omega)],fun b hb=>?_⟩,fun a ha=>by rw[c a,if_neg (by omega)]⟩;rw[EW (by omega) hb,decide_eq_true_eq];omega
theorem Jp {N n:Nat}{R S:Nat->Nat->Prop}{x y:Nat->Int}(hn:n<=32)(hN:1000<=N)(hR:TabA n R x)(hS:TabA n S y) :∃s,D2 N x y=some s/\TabA n (fun a b=>∃c,c<=n/\R a c/\S c b) s:=by
 unfold D2;refine N8 (fun i x3 x4=>x4=(i:Int)/\(∀a,a<i->a<=n->∃z:BitVec 64,x3 a=U z/\∀b,b<64->(z.getLsbD b=true↔b<=n/\∃c,c<=n/\R a c/\S c b))/\∀a,i<=a \/ n<a->x3 a=0) 33 _ (by omega)
  ⟨rfl,fun a ha=>absurd ha (by omega),fun a _=>rfl⟩ ?_
 rintro a1 i x3 x4 hi ⟨rfl,q,m⟩ hs;by_cases hl:i<33
 ·refine ifT (by simp;omega) (ifT (by omega) ?_);rw[Ay0,AB0,AD0];refine B1 (x:=x i) rfl ?_;by_cases r:i<=n
  ·obtain⟨u,e1,g1⟩:=hR.1 i r;refine B1 (x:=Ee u 0) (by rw[e1];exact Gv u (by omega)) ?_;refine ZB (fun L z=>(∀a,a≠i->z a=x3 a)/\(∀t∈L,∃c:Nat,t=(c:Int)/\c<=n/\R i c)/\∃v:BitVec 64,z i=U v/\∀b,b<64->((v.getLsbD b=true \/ ∃c:Nat,(c:Int)∈L/\b<=n/\S c b)↔(b<=n/\∃c,c<=n/\R i c/\S c b))) ?_ ?_ _ _ ?_
   ·rintro z ⟨k1,k2,v,k3,k4⟩;refine hs (by omega) _ _ ⟨C0 (by omega),fun a ha f=>?_,fun a ha=>?_⟩
    ·by_cases e:a=i
     ·subst e;exact⟨v,k3,fun b hb=>by rw[<- k4 b hb];simp⟩
     ·obtain⟨z',p1,p2⟩:=q a (by omega) f;exact⟨z',by rw[k1 a e];exact p1,p2⟩
    ·rw[k1 a (by omega)];exact m a (by omega)
   ·rintro t L z w ⟨k1,k2,v,k3,k4⟩ a0;obtain⟨c,rfl,hc,a2⟩:=k2 t (by simp);refine ifT (by omega) (a0 _ ⟨fun a ha=>?_,fun t ht=>k2 t (by simp[ht]),?_⟩)
    ·rw[CF,if_neg (by omega)];exact k1 a ha
    ·obtain⟨yc,e2,g2⟩:=hS.1 c hc;refine⟨v ||| yc,?_,fun b hb=>?_⟩
     ·rw[CF,if_pos (by omega)];simp only[Ay0,AB0,AD0];rw[k3,e2,Ax5]
     ·rw[<- k4 b hb,Az4,AA0,g2 b hb];constructor
      ·rintro ((h|⟨h,h'⟩)|⟨c',h,h'⟩)
       ·exact .inl h
       ·exact .inr ⟨c,by simp,h,h'⟩
       ·exact .inr ⟨c',by simp[h],h'⟩
      ·rintro (h|⟨c',h,h',d⟩)
       ·exact .inl (.inl h)
       ·rcases AB2.1 h with h|h
        ·have:c' = c:=by omega
         subst this;exact .inl (.inr ⟨h',d⟩)
        ·exact .inr ⟨c',h,h',d⟩
   ·refine⟨fun _ _=>rfl,fun t ht=>?_,0#64,m i (.inl (Ay6 _)),fun b hb=>?_⟩
    ·obtain⟨j,rfl,_,o,hb⟩:=mem_bitsF.1 ht;exact⟨j,rfl,((g1 j o).1 hb).1,((g1 j o).1 hb).2⟩
    ·simp only[AL2,Ay7,false_or];constructor
     ·rintro⟨c,hc,h,h'⟩;obtain⟨j,o,_,g,l⟩:=mem_bitsF.1 hc;obtain rfl:c=j:=by omega
      exact⟨h,c,((g1 c g).1 l).1,((g1 c g).1 l).2,h'⟩
     ·rintro⟨h,c,hc,h',d⟩;exact⟨c,mem_bitsF.2 ⟨c,rfl,by omega,by omega,(g1 c (by omega)).2 ⟨hc,h'⟩⟩,h,d⟩
  ·refine B1 (x:=[]) (by rw[hR.2 i (by omega)];exact (Gv 0#64 (by omega)).trans (by rw[Id fun j o=>by simp])) ?_;exact hs (by omega) _ _ ⟨C0 (by omega),fun a ha f=>q a (by omega) f,fun a ha=>m a (by omega)⟩
 ·exact ifF (by simp;omega) ⟨x3,rfl,fun a ha=>q a (by omega) ha,fun a ha=>m a (.inr ha)⟩
theorem ZC (N:Nat)(x:Nat->Int):H2 N x=D2 N x x:=rfl
end Go.AM
namespace Go.AM
open Go.Proofs
theorem Av6:∀m:Fin 33,(F5 .and .i64 ((m.val:Nat):Int) 1==1)=decide (m.val % 2=1)/\shI .shr .i64 ((m.val:Nat):Int) 1=((m.val / 2:Nat):Int):=by decide +kernel
theorem Qx {N n:Nat}{R:Nat->Nat->Prop}{x:Nat->Int}(hn:n<=32)(o:1000<=N)(u:Fwd n R)(hR:TabA n R x){k:Nat}(hk:k<=32) :∃s,E8 N x (k:Int) (n:Int)=some s/\TabA n (FV n R k) s:=by
 unfold E8;obtain⟨y1,e1,h1⟩:=Fh (N:=N) hn o;refine B1 e1 ?_;refine Xa (fun i x1 x2 x3=>x1=((k / 2 ^ i:Nat):Int)/\TabA n (FV n R (2 ^ i)) x2/\TabA n (FV n R (k % 2 ^ i)) x3) 6 _ (by omega) ⟨by simp,?_,?_⟩ ?_
 ·exact hR.congr fun a b ha hb=>⟨fun h=>⟨a,ha,rfl,h⟩,fun⟨c,hc,(h:a=c),h'⟩=>h ▸ h'⟩
 ·rw[Nat.pow_zero,Nat.mod_one];exact h1
 ·rintro v i x1 x2 x3 w ⟨rfl,q,l⟩ hs;have hm:k / 2 ^ i<=32:=AD5 (Nat.div_le_self _ _) hk;obtain⟨b1,b2⟩:=Av6 ⟨k / 2 ^ i,by omega⟩;simp only at b1 b2;have f:k / 2 ^ i / 2=k / 2 ^ (i+1):=by rw[Nat.div_div_eq_div_mul,Nat.pow_succ]
  have g:k % 2 ^ (i+1)=k % 2 ^ i+2 ^ i*(k / 2 ^ i % 2):=Nat.mod_pow_succ;have d:∃s,H2 N x2=some s/\TabA n (FV n R (2 ^ (i+1))) s:=by obtain⟨s,e,h⟩:=Jp hn o q q;refine⟨s,(ZC N x2).trans e,h.congr fun a b ha hb=>?_⟩;rw[show 2 ^ (i+1)=2 ^ i+2 ^ i by rw[Nat.pow_succ];omega];exact (CA u (2 ^ i) ha (2 ^ i) b).symm
  obtain⟨sq,esq,d⟩:=d;by_cases m:k / 2 ^ i=0
  ·refine ifF (by simp[m]) ⟨x3,rfl,?_⟩
   have:k % 2 ^ i=k:=AG1 (by
    have:=AP3.1 m
    rcases this with h|h
    ·exact absurd h (Nat.ne_of_gt (Nat.two_pow_pos i))
    ·exact h)
   rw[this]at l;exact l
  ·have j:i<6:=by
    by_cases h:i<6
    ·exact h
    ·exact absurd (AF6 (AQ0 hk (AA1 (by decide:32<2 ^ 6) (AG8 (by omega) (by omega))))) m
   refine ifT (decide_eq_true (Int.natCast_pos.2 (Nat.pos_of_ne_zero m))) ?_;by_cases r:k / 2 ^ i % 2=1
   ·refine ifT (by rw[b1];simp[r]) ?_;obtain⟨t,et,ht⟩:=Jp hn o l q;refine B1 et (B1 esq (hs j _ _ _ ⟨by rw[b2,f],d,ht.congr fun a b ha hb=>?_⟩));rw[g,r,AD0];exact (CA u (k % 2 ^ i) ha (2 ^ i) b).symm
   ·refine ifF (by rw[b1];simp[r]) (B1 esq (hs j _ _ _ ⟨by rw[b2,f],d,?_⟩));rw[g,show k / 2 ^ i % 2=0 by omega,Nat.mul_zero,AF9];exact l
theorem Al4 {s c:Sound}(hs:okS s)(hc:okS c):((F5 .or .u32 (F5 .andNot .u32 c.Plus s.Plus) (F5 .andNot .u32 c.Minus s.Minus))==0)=Sf s c:=by
 obtain⟨p,m,rfl⟩:=hs;obtain⟨a,b,rfl⟩:=hc;have e:∀x y:BitVec 32,((F5 .and .u32 (x.toNat:Int) (y.toNat:Int))==(y.toNat:Int))=decide (y &&& ~~~ x=0#32):=by
  intro x y;rw[DD,AA9];simp only[beq_iff_eq,decide_eq_true_eq];constructor
  ·intro h;have h:x &&& y=y:=AB8 (by omega);refine (z32 _).2 fun i d=>?_
   have:=congrArg (·.getLsbD i) h
   simp only[Az5,AC8,d,decide_true,AJ4]at this⊢;cases hx:x.getLsbD i<;>cases hy:y.getLsbD i<;>simp_all
  ·intro h
   have:x &&& y=y:=Hu fun i d=>by
    have:=(z32 _).1 h i d
    simp only[Az5,AC8,d,decide_true,AJ4]at this⊢;cases hx:x.getLsbD i<;>cases hy:y.getLsbD i<;>simp_all
   rw[this]
 unfold Sf;simp only[e,Dn,Iz,eq0];rw[AA9];simp only[Ay3,decide_eq_true_eq];constructor
 ·intro h;have h:=(z32 _).1 h;exact⟨(z32 _).2 fun i d=>by have:=h i d;rw[Az4,AG9]at this;exact this.1,(z32 _).2 fun i d=>by have:=h i d;rw[Az4,AG9]at this;exact this.2⟩
 ·rintro⟨h1,f⟩;rw[h1,f];rfl
theorem Xi {N:Nat}(q:1000<=N){w:Sl Sound}(hw:w.n<=32)(l:∀i,i<w.n->okS (w.g i)){c:Sound}(hc:okS c)(no:Bool) :∃f,U2 N ⟨c,no⟩ w=some f/\TabA w.n (fun a b=>a<w.n/\b=a+1/\(Sf (w.g a) c != no)=true) f:=by
 unfold U2;refine N8 (fun i x1 x2=>x2=(i:Int)/\∀a,x1 a=if a<i/\(Sf (w.g a) c != no) then U (1#64 <<< (a+1))else 0) w.n _ (by omega) ⟨rfl,fun a=>by rw[if_neg (by omega)]⟩ ?_;rintro m i x1 x2 r ⟨rfl,d⟩ hs;by_cases hl:i<w.n
 ·refine ifT (by simp;omega) (ifT (by omega) ?_);rw[Ay0,Al4 (l i hl) hc];by_cases hb:(Sf (w.g i) c != no)=true
  ·refine ifT (by revert hb;cases Sf (w.g i) c<;>cases no<;>simp) ?_;rw[C0 (by omega)];refine ifT (by omega) (hs hl _ _ ⟨rfl,fun a=>?_⟩);rw[CF,AB0,AD0,Qf _ (by omega)];by_cases e:a=i
   ·subst e;rw[if_pos rfl,if_pos ⟨by omega,hb⟩]
   ·rw[if_neg e,d a];by_cases e2:a<i
    ·simp only[e2,show a<i+1 by omega,true_and]
    ·rw[if_neg (by omega),if_neg (by omega)]
  ·refine ifF (by revert hb;cases Sf (w.g i) c<;>cases no<;>simp) (hs hl _ _ ⟨C0 (by omega),fun a=>?_⟩);rw[d a];by_cases e:a=i
   ·subst e;rw[if_neg (by omega),if_neg (fun h=>hb h.2)]
   ·by_cases e2:a<i
    ·simp only[e2,show a<i+1 by omega,true_and]
    ·rw[if_neg (by omega),if_neg (by omega)]
 ·refine ifF (by simp;omega) ⟨x1,rfl,fun a ha=>?_,fun a ha=>by rw[d a,if_neg (by omega)]⟩;by_cases hb:a<w.n/\(Sf (w.g a) c != no)=true
  ·refine⟨1#64 <<< (a+1),by rw[d a,if_pos ⟨by omega,hb.2⟩],fun b j=>?_⟩;rw[EW (by omega) j,decide_eq_true_eq];exact⟨fun h=>⟨by omega,hb.1,h,hb.2⟩,fun h=>h.2.2.1⟩
  ·refine⟨0#64,by rw[d a,if_neg (fun h=>hb ⟨by omega,h.2⟩)];rfl,fun b j=>?_⟩;simp only[AL2,Ay7,false_iff];rintro⟨_,h1,d,o⟩;exact hb ⟨h1,o⟩
theorem Xj {n a0 b0:Nat}(ha:a0<=n)(hb:b0<=n)(hn:n<=32):TabA n (fun a b=>a=a0/\b=b0) (Ka (fun _=>0) a0 (U (1#64 <<< b0))):=by
 refine⟨fun a d=>?_,fun a d=>by rw[CF,if_neg (by omega)]⟩;by_cases e:a=a0
 ·refine⟨1#64 <<< b0,by rw[CF,if_pos e],fun b c=>?_⟩;rw[EW (by omega) c,decide_eq_true_eq];omega
 ·refine⟨0#64,by rw[CF,if_neg e];rfl,fun b c=>?_⟩;simp only[AL2,Ay7,false_iff];exact fun h=>e h.2.1
theorem TV {N:Nat}{w:Sl Sound}(hw:w.n<=32)(e:Bool):∃f,Y7 N ⟨e⟩ w=some f/\TabA w.n (fun a b=>a=(if e then w.n else 0)/\b=(if e then w.n else 0)) f:=by
 unfold Y7;cases e
 ·refine ifF (by simp) (ifT (by decide) ⟨_,rfl,?_⟩);exact Xj (n:=w.n) (a0:=0) (b0:=0) (by omega) (by omega) hw
 ·refine ifT rfl (ifT (by omega) ⟨_,rfl,?_⟩);rw[Ay0,AB0,AD0,Qf _ (by omega)];exact Xj (Ay6 _) (Ay6 _) hw
theorem Al5 {N:Nat}(a:1000<=N){w:Sl Sound}(hw:w.n<=32){rec:Part->Sl Sound->Option (Nat->Int)}{m:Nat}(hm:m<=40){g:Nat->Part}{Q:Nat->Nat->Nat->Prop}
 (hc:∀i,i<m->∃f,rec (g i) w=some f/\TabA w.n (Q i) f):∃f,Ar rec N ⟨⟨m,g⟩⟩ w=some f/\TabA w.n (Vd w.n Q m) f:=by
 unfold Ar;obtain⟨y1,e1,h1⟩:=Fh (N:=N) hw a;refine B1 e1 ?_;refine N8 (fun i x1 x2=>x2=(i:Int)/\i<=m/\TabA w.n (Vd w.n Q i) x1) m _ (by omega) ⟨rfl,by omega,h1⟩ ?_;rintro b i x1 x2 o ⟨rfl,d,c⟩ hs;by_cases hl:i<m
 ·refine ifT (by simp;omega) (ifT (by show (0:Int)<=i/\(i:Int)<m;omega) ?_);obtain⟨f,e2,j⟩:=hc i hl;refine B1 (by rw[Ay0];exact e2) ?_;obtain⟨s,e3,l⟩:=Jp hw a c j;exact B1 e3 (hs hl _ _ ⟨C0 (by omega),hl,l⟩)
 ·obtain rfl:i=m:=by omega
  exact ifF (by simp) ⟨x1,rfl,c⟩
theorem Al6 {N:Nat}(l:1000<=N){w:Sl Sound}(hw:w.n<=32){rec:Part->Sl Sound->Option (Nat->Int)}{m:Nat}(hm:m<=40){g:Nat->Part}{Q:Nat->Nat->Nat->Prop}
 (hc:∀i,i<m->∃f,rec (g i) w=some f/\TabA w.n (Q i) f):∃f,At rec N ⟨⟨m,g⟩⟩ w=some f/\TabA w.n (fun a b=>∃i,i<m/\Q i a b) f:=by
 unfold At;refine N8 (fun i x1 x2=>x2=(i:Int)/\i<=m/\TabA w.n (fun a b=>∃j,j<i/\Q j a b) x1) m _ (by omega) ⟨rfl,by omega,(zeroA _).congr fun a b _ _=>⟨False.elim,fun⟨j,h,_⟩=>absurd h (by omega)⟩⟩ ?_;rintro c i x1 x2 t ⟨rfl,o,d⟩ hs;by_cases hl:i<m
 ·refine ifT (by simp;omega) (ifT (by show (0:Int)<=i/\(i:Int)<m;omega) ?_);obtain⟨f,e2,q⟩:=hc i hl;refine B1 (by rw[Ay0];exact e2) ?_;obtain⟨s,e3,r⟩:=Ad2 hw l d q;refine B1 e3 (hs hl _ _ ⟨C0 (by omega),hl,r.congr fun a b _ _=>⟨?_,?_⟩⟩)
  ·rintro (⟨j,h,h'⟩ | h)
   ·exact⟨j,by omega,h'⟩
   ·exact⟨i,by omega,h⟩
  ·rintro⟨j,h,h'⟩;by_cases e:j=i
   ·subst e;exact .inr h'
   ·exact .inl ⟨j,by omega,h'⟩
 ·obtain rfl:i=m:=by omega
  exact ifF (by simp) ⟨x1,rfl,d⟩
end Go.AM
namespace Go.AM
open Go.Proofs
theorem Al7 {N:Nat}(l:1000<=N){w:Sl Sound}(hw:w.n<=32){rec:Part->Sl Sound->Option (Nat->Int)}{pt:Part}{Q:Nat->Nat->Prop}(d:Fwd w.n Q){f:Nat->Int}(u:rec pt w=some f)(r:TabA w.n Q f)
 {mn mx:Int}(y:0<=mn) (h1:mn<=32) (z:mx = -1 \/ (mn<=mx/\mx<=32)) :
 ∃s,Au rec N ⟨pt,mn,mx⟩ w=some s/\TabA w.n (fun a b=>∃k:Nat,mn<=k/\(mx = -1 \/ (k:Int)<=mx)/\FV w.n Q k a b) s:=by
 obtain⟨m,rfl⟩:∃m:Nat,mn=(m:Int):=⟨mn.toNat,by omega⟩;unfold Au;refine B1 u ?_;obtain⟨y2,e2,t2⟩:=Qx hw l d r (k:=m) (by omega);refine B1 e2 ?_;obtain⟨y3,e3,t3⟩:=Fh (N:=N) hw l;refine B1 e3 ?_;obtain⟨y4,e4,t4⟩:=Ad2 hw l r t3;refine B1 e4 ?_;have o : Fwd w.n (fun a b=>Q a b \/ a=b):=fun a b ha h=>by
  rcases h with h|h
  ·exact d a b ha h
  ·omega
 have key:∀(K:Nat),K<=32->∃s,((E8 N y4 (K:Int) (w.n:Int)).bind fun y5=>(D2 N y2 y5).bind fun y6=>some y6)=some s/\TabA w.n (fun a b=>∃j,j<=K/\FV w.n Q (m+j) a b) s:=by
  intro K v;obtain⟨y5,e5,t5⟩:=Qx hw l o t4 (k:=K) v;refine B1 e5 ?_;obtain⟨y6,e6,t6⟩:=Jp hw l t2 t5;refine B1 e6 ⟨y6,rfl,t6.congr fun a b ha hb=>?_⟩;constructor
  ·rintro⟨c,hc,g1,g2⟩;obtain⟨j,i,g3⟩:=(KC d hc K b).1 g2;exact⟨j,i,(CA d m ha j b).2 ⟨c,hc,g1,g3⟩⟩
  ·rintro⟨j,i,g⟩;obtain⟨c,hc,g1,g3⟩:=(CA d m ha j b).1 g;exact⟨c,hc,g1,(KC d hc K b).2 ⟨j,i,g3⟩⟩
 by_cases hx:mx<0
 ·refine ifT (decide_eq_true hx) ?_;obtain⟨s,e,t⟩:=key w.n hw;refine⟨s,e,t.congr fun a b ha hb=>?_⟩;constructor
  ·rintro⟨j,i,g⟩;exact⟨m+j,by omega,.inl (by omega),g⟩
  ·rintro⟨k,hk,_,g⟩;obtain⟨c,hc,g1,g3⟩:=(CA d m ha (k-m) b).1 (by rw[show m+(k-m)=k by omega];exact g);obtain⟨j,i,g4⟩:=Qh d hc (k-m) g3;exact⟨j,i,(CA d m ha j b).2 ⟨c,hc,g1,g4⟩⟩
 ·refine ifF (by simpa using hx) ?_;obtain⟨M,rfl⟩:∃M:Nat,mx=(M:Int):=⟨mx.toNat,by omega⟩;have q:IntKind.i64.wrap ((M:Int)-(m:Int))=((M-m:Nat):Int):=by rw[D3 (by omega) (by omega)];omega
  rw[show IntKind.i64.wrap ((⟨pt,(m:Int),(M:Int)⟩:Au6).max-(⟨pt,(m:Int),(M:Int)⟩:Au6).min)=((M-m:Nat):Int) from q];obtain⟨s,e,t⟩:=key (M-m) (by omega);refine⟨s,e,t.congr fun a b ha hb=>?_⟩;constructor
  ·rintro⟨j,i,g⟩;exact⟨m+j,by omega,.inr (by omega),g⟩
  ·rintro⟨k,hk,x,g⟩;exact⟨k-m,by omega,by rw[show m+(k-m)=k by omega];exact g⟩
def okQ:Nat->Pat->Prop
 |0,_=>False
 |d+1,p=>FC p/\p.L.n<=40/\∀i,i<p.L.n->okQ d (p.L.g i)
theorem TW:∀(d:Nat) (p:Pat),okQ d p->okQ (d+1) p
 |0,_,h=>h.elim
 |d+1,p,⟨h1,h2,h3⟩=>⟨h1,h2,fun i a=>TW d _ (h3 i a)⟩
theorem Xk:∀(k:Nat) (l:List Pat),k<=40->chk k l->∀p∈l,okQ k p
 |0,l,_,h,p,hp=>by rw[show l=[] from h]at hp;cases hp
 |k+1,[],_,_,p,hp=>by cases hp
 |k+1,q::l,hk,⟨hn,h⟩,p,hp=>by
  have ih:=Xk k _ (by omega) h;rcases AB2.1 hp with rfl|hp
  ·have hl:=KU k _ h;rw[AC5,BG]at hl;exact⟨hn,by omega,fun i a=>ih _ (AA6 _ (MP a))⟩
  ·exact TW k p (ih p (Az3 _ hp))
theorem vS.ok {s:Sound}(h:vS s):okS s:=by obtain⟨p,m,e,_⟩:=h;exact⟨p,m,e⟩
def Al8 (K:Nat)(p:Pat)(pt:Part):Prop:=∀(w:Sl Sound),w.n<=32->(∀i,i<w.n->okS (w.g i))->∀M,K<=M->∃f,Y9 M pt w=some f/\TabA w.n (PR w p) f
theorem KX {N:Nat}(x:1000<=N):∀(d:Nat),d<=40->∀(p:Pat),okQ d p->∀M,N+d<=M->∃pt,Y8 M p=some pt/\Al8 (N+d) p pt
 |0,_,p,h,_,_=>h.elim
 |d+1,hd,p,⟨hn,hc,hch⟩,0,hM=>by omega
 |d+1,hd,p,⟨hn,hc,hch⟩,M+1,hM=>by
  show ∃pt,R6 (Y8 M) M p=some pt/\_;unfold R6;refine N8 (fun i x1 x2=>x2=(i:Int)/\i<=p.L.n/\x1.n=i/\∀j,j<i->Al8 (N+d) (p.L.g j) (x1.g j)) p.L.n _ (by omega) ⟨rfl,by omega,rfl,fun j t=>absurd t (by omega)⟩ ?_;rintro u i x1 x2 v ⟨rfl,h1,q,o⟩ hs;by_cases hl:i<p.L.n
  ·refine ifT (by simp;omega) (ifT (by omega) ?_);obtain⟨pt,e,y⟩:=KX x d (by omega) (p.L.g i) (hch i hl) M (by omega);refine B1 (by rw[Ay0];exact e) ?_;refine ifT (by show (x1.n+1)*16<=_/\x1.n+1<=_;omega) (hs hl _ _ ⟨C0 (by omega),hl,by show x1.n+1=i+1;omega,fun j t=>?_⟩);by_cases e2:j=i
   ·subst e2
    have:(x1.push pt).g j=pt:=by simp[Sl.push,q]
    rw[this];exact y
   ·have:(x1.push pt).g j=x1.g j:=by simp[Sl.push];omega
    rw[this];exact o j (by omega)
  ·obtain rfl:i=p.L.n:=by omega
   have fin:∀(pt:Part),(∀(w:Sl Sound),w.n<=32->(∀i,i<w.n->okS (w.g i))->∀M,N+d<=M->∃f,Y9 (M+1) pt w=some f/\TabA w.n (PR w p) f)->∃r,some pt=some r/\Al8 (N+(d+1)) p r:=by intro pt h;refine⟨pt,rfl,fun w hw c M' l=>?_⟩;obtain⟨M'',rfl⟩:∃M'',M' = M'' + 1:=⟨M' - 1,by omega⟩;exact h w hw c M'' (by omega)
   refine ifF (by simp) ?_;obtain⟨⟨k0,k6⟩,n1,n2,n3,n4,n5⟩:=hn;by_cases k1:p.Kind=1
   ·refine ifT (by simp[k1]) (fin _ fun w hw c M' l=>?_);obtain⟨f,e,h⟩:=Xi (N:=M') (by omega) hw c n5.ok p.Not;refine⟨f,e,h.congr fun a b _ _=>?_⟩;rw[Jf];simp[k1]
   refine ifF (by simp[k1]) ?_;by_cases k2:p.Kind=2
   ·refine ifT (by simp[k2]) (fin _ fun w hw c M' l=>?_);obtain⟨f,e,h⟩:=TV (N:=M') hw false;refine⟨f,e,h.congr fun a b _ _=>?_⟩;rw[Jf];simp[k2]
   refine ifF (by simp[k2]) ?_;by_cases k6:p.Kind=6
   ·refine ifT (by simp[k6]) (fin _ fun w hw c M' l=>?_);obtain⟨f,e,h⟩:=TV (N:=M') hw true;refine⟨f,e,h.congr fun a b _ _=>?_⟩;rw[Jf];simp[k6]
   refine ifF (by simp[k6]) ?_;by_cases k4:p.Kind=4
   ·refine ifT (by simp[k4]) (fin _ fun w hw c M' l=>?_);obtain⟨f,e,h⟩:=Al6 (N:=M') (by omega) hw (rec:=Y9 M') (m:=x1.n) (g:=x1.g) (Q:=fun i=>PR w (p.L.g i)) (by omega) fun i v=>o i (by omega) w hw c M' (by omega);refine⟨f,e,h.congr fun a b _ _=>?_⟩;rw[Jf,q];simp[k4]
   refine ifF (by simp[k4]) ?_;by_cases k5:p.Kind=5
   ·obtain⟨g1,g2,g3,g4⟩:=n4 k5;refine ifT (by simp[k5]) (ifT (by omega) (fin _ fun w hw c M' l=>?_));obtain⟨f,e,h⟩:=o 0 (by omega) w hw c M' (by omega);obtain⟨s,e2,z⟩:=Al7 (N:=M') (by omega) hw (rec:=Y9 M') (Qi w (p.L.g 0)) e h g2 g3 g4;refine⟨s,e2,z.congr fun a b _ _=>?_⟩;rw[Jf];simp[k5]
   ·refine ifF (by simp[k5]) (fin _ fun w hw c M' l=>?_);obtain⟨f,e,h⟩:=Al5 (N:=M') (by omega) hw (rec:=Y9 M') (m:=x1.n) (g:=x1.g) (Q:=fun i=>PR w (p.L.g i)) (by omega) fun i v=>o i (by omega) w hw c M' (by omega);refine⟨f,e,h.congr fun a b _ _=>?_⟩;rw[Jf,q];by_cases k3:p.Kind=3
    ·simp[k3]
    ·have k0' : p.Kind=0:=by omega
     rw[n2 k3 k4 k5];simp[k0',Vd]
end Go.AM
namespace Go.AM
open IntKind (wrap)
open Go.Proofs
theorem Vk {N:Nat}{p:Pat}(hp:okS p.Is):∃e,Y5 N p=some e/\(e=0↔FC p):=by
 obtain⟨a,b,i⟩:=hp;have m:=Sv i;have V:M8 N p.Is=some (vB a b):=by rw[i];exact Qv a b
 have e0:((p.Is.Plus==0)&&(p.Is.Minus==0))=decide (p.Is.Plus=0/\p.Is.Minus=0):=by rw[AA9];simp
 have fin:(FC p↔vS p.Is)->∃e,((M8 N p.Is).bind fun y1=>if (!y1) then some (14:Int)else some 0)=some e/\(e=0↔FC p):=by
  intro c;rw[V];refine B1 rfl ?_;rw[c,m];cases vB a b
  ·exact ifT rfl ⟨14,rfl,by simp⟩
  ·exact ifF (by simp) ⟨0,rfl,by simp⟩
 have bad:∀{x:Int},x≠0->¬FC p->∃e,some x=some e/\(e=0↔FC p):=fun hx h=>⟨_,rfl,fun d=>absurd d hx,fun d=>absurd d h⟩;unfold Y5;by_cases hk:p.Kind=0 \/ p.Kind=2 \/ p.Kind=6
 ·refine ifT (by rcases hk with h|h|h<;>simp[h]) (ltX ?_);rw[e0];by_cases g1:p.Is.Plus=0/\p.Is.Minus=0
  case neg=>exact ifT (by simp[g1]) (ifT rfl (bad (by decide) fun h=>g1 (h.2.1 (by omega)).1))
  refine ifF (by simp[g1]) ?_;by_cases g2:p.Not=true
  ·exact ifT g2 (ifT rfl (bad (by decide) fun h=>by have:=(h.2.1 (by omega)).2;rw[g2]at this;cases this))
  refine ifF g2 ?_;by_cases g3:p.Min=0
  case neg=>exact ifT (by simp[g3]) (ifT rfl (bad (by decide) fun h=>g3 (h.2.2.2.1 (by omega)).1))
  refine ifF (by simp[g3]) ?_;by_cases g4:p.Max=0
  case neg=>exact ifT (by simp[g4]) (ifT rfl (bad (by decide) fun h=>g4 (h.2.2.2.1 (by omega)).2))
  refine ifF (by simp[g4]) ?_;by_cases g5:p.L.n=0
  case neg=>exact ifT (by simp;omega) (bad (by decide) fun h=>g5 (h.2.2.1 (by omega) (by omega) (by omega)))
  refine ifF (by simp;omega) (fin ?_);exact⟨fun h=>h.2.2.2.2.2,fun h=>⟨by omega,fun _=>⟨g1,by simpa using g2⟩,fun _ _ _=>g5,fun _=>⟨g3,g4⟩,fun f=>by omega,h⟩⟩
 refine ifF (by simp only[not_or]at hk;simp[hk]) ?_;by_cases k1:p.Kind=1
 ·refine ifT (by simp[k1]) (ltX ?_);refine ifF (by simp) ?_;by_cases g3:p.Min=0
  case neg=>exact ifT (by simp[g3]) (ifT rfl (bad (by decide) fun h=>g3 (h.2.2.2.1 (by omega)).1))
  refine ifF (by simp[g3]) ?_;by_cases g4:p.Max=0
  case neg=>exact ifT (by simp[g4]) (ifT rfl (bad (by decide) fun h=>g4 (h.2.2.2.1 (by omega)).2))
  refine ifF (by simp[g4]) ?_;by_cases g5:p.L.n=0
  case neg=>exact ifT (by simp;omega) (bad (by decide) fun h=>g5 (h.2.2.1 (by omega) (by omega) (by omega)))
  refine ifF (by simp;omega) (fin ?_);exact⟨fun h=>h.2.2.2.2.2,fun h=>⟨by omega,fun h1=>absurd k1 h1,fun _ _ _=>g5,fun _=>⟨g3,g4⟩,fun f=>by omega,h⟩⟩
 refine ifF (by simp[k1]) (ltX ?_);rw[e0];have tail:∀(x y:Int),(FC p↔(p.Is.Plus=0/\p.Is.Minus=0)/\p.Not=false/\x=0/\y=0/\vS p.Is)->∃e,(if (((((decide (p.Is.Plus=0/\p.Is.Minus=0) != true)||p.Not)||(x != 0))||(y != 0))||(decide (0<0))) then some (2:Int)else
  (M8 N p.Is).bind fun y3=>if (!y3) then some 14 else some 0)=some e/\(e=0↔FC p):=by
  intro x y c;by_cases g:(p.Is.Plus=0/\p.Is.Minus=0)/\p.Not=false/\x=0/\y=0
  ·obtain⟨g1,g2,g3,g4⟩:=g;exact ifF (by simp[g1,g2,g3,g4]) (fin (c.trans ⟨fun h=>h.2.2.2.2,fun h=>⟨g1,g2,g3,g4,h⟩⟩))
  ·refine ifT ?_ (bad (by decide) fun h=>g ⟨(c.1 h).1,(c.1 h).2.1,(c.1 h).2.2.1,(c.1 h).2.2.2.1⟩);simp only[AA0,bne_iff_ne,ne_eq,decide_eq_true_eq];by_cases g1:p.Is.Plus=0/\p.Is.Minus=0
   ·by_cases g2:p.Not=true
    ·simp[g2]
    ·by_cases g3:x=0
     ·have:¬y=0:=fun g4=>g ⟨g1,by simpa using g2,g3,g4⟩
      simp[this]
     ·simp[g3]
   ·simp[g1]
 by_cases k34:p.Kind=3 \/ p.Kind=4
 ·refine ifT (by rcases k34 with h|h<;>simp[h]) (tail _ _ ?_);constructor
  ·exact fun h=>⟨(h.2.1 k1).1,(h.2.1 k1).2,(h.2.2.2.1 (by omega)).1,(h.2.2.2.1 (by omega)).2,h.2.2.2.2.2⟩
  ·rintro⟨h1,d,j,l,f⟩;exact⟨by omega,fun _=>⟨h1,d⟩,fun h h'=>by omega,fun _=>⟨j,l⟩,fun h=>by omega,f⟩
 refine ifF (by simp only[not_or]at k34;simp[k34]) ?_;by_cases k5:p.Kind=5
 ·refine ifT (by simp[k5]) ?_;by_cases g:p.L.n=1/\0<=p.Min/\p.Min<=32/\(p.Max = -1 \/ (p.Min<=p.Max/\p.Max<=32))
  ·refine ifF (by simp only[AA0,Ay3,bne_iff_ne,ne_eq,decide_eq_true_eq];omega) (tail 0 0 ?_);constructor
   ·exact fun h=>⟨(h.2.1 k1).1,(h.2.1 k1).2,rfl,rfl,h.2.2.2.2.2⟩
   ·rintro⟨h1,d,j,l,f⟩;exact⟨by omega,fun _=>⟨h1,d⟩,fun _ _ h=>absurd k5 h,fun h=>absurd k5 h,fun _=>g,f⟩
  ·exact ifT (by simp only[AA0,Ay3,bne_iff_ne,ne_eq,decide_eq_true_eq];omega) (bad (by decide) fun h=>g (h.2.2.2.2.1 k5))
 ·exact ifF (by simp[k5]) (bad (by decide) fun h=>by have:=h.1;omega)
theorem Xl {x:Sl Pat}{m:Nat}(h:x.n=m+1):x.toList.reverse=x.g m::(x.take m).toList.reverse:=by unfold Sl.toList;rw[h,AJ7,List.map_append,AL3];rfl
theorem ZD (z:Sl Pat)(q:Pat):((z.push Pat.nil).upd z.n q).toList.reverse=q::z.toList.reverse:=by
 rw[Xl (m:=z.n) rfl];have e1:((z.push Pat.nil).upd z.n q).g z.n=q:=by simp
 have e2:(((z.push Pat.nil).upd z.n q).take z.n).toList=z.toList:=by
  unfold Sl.toList;refine AB4 fun i a=>?_
  have:i<z.n:=AE3.1 a
  show (if i=z.n then q else if i<z.n then z.g i else Pat.nil)=z.g i;rw[if_neg (by omega),if_pos this]
 rw[e1,e2]
theorem Sx {N:Nat}(q:Sl Pat)(c:q.n<N)(hs:q.n<1000000):C5 N q=some ((List.range q.n).reverse.map fun (i:Nat)=>((i:Int),q.g i)):=by
 unfold C5;have h:∀(m:Nat),m<=q.n->∀F,m<F->S8 F (fun (a:Int->Option (List (Int×Pat))) (x1:Int)=>
  if (decide (0<=x1)) then
   if ((0:Int)<=x1/\x1<(q.n:Int))then
    Bm (x1,q.g x1.toNat) (
     a (wrap .i64 (x1-1))
     )
   else none
  else
   some []) ((m:Int)-1)=some ((List.range m).reverse.map fun (i:Nat)=>((i:Int),q.g i)):=by
  intro m
  induction m with
  |zero=>
   intro _ F b
   match F,b with
   |F+1,_=>rfl
  |succ m ih=>
   intro hm F b
   match F,b with
   |F+1,b=>rw[BP];rw[show ((m+1:Nat):Int)-1=(m:Int) by omega,if_pos (by simp),if_pos (by omega),D3 (by omega) (by omega),ih (by omega) F (by omega),Ay0,AJ7,AL3,AO0,AO5,AA7];rfl
 rw[D3 (by omega) (by omega)];exact h q.n (Ay6 _) N c
theorem Al9 {k:Nat}(hk:k<=40){c:Sl Pat}{l:List Pat}:chk k ((c.take (min 41 c.n)).toList++l)↔chk k (c.toList++l):=by
 by_cases h:c.n<=41
 ·rw[AK4 h]
 ·constructor
  ·intro a
   have:=KU _ _ a
   rw[AC5,BG]at this
   have:(c.take (min 41 c.n)).n=41:=AF0 (by omega)
   omega
  ·intro a
   have:=KU _ _ a
   rw[AC5,BG]at this;omega
theorem Ox {N:Nat}(hN:2000<=N){p:Pat}(hp:okPS p):∃e,U3 N p=some e/\(e=0↔chk 40 [p]):=by
 unfold U3;refine N8 (fun i x3 x4=>x4=(i:Int)/\x3.n<=1+41*i/\(∀q∈x3.toList.reverse,okPS q)/\(chk 40 [p]↔chk (40-i) x3.toList.reverse)) 40 _ (by omega)
  ⟨rfl,by show 1<=_;omega,fun q l=>by rw[show (Sl.of [p]:Sl Pat).toList.reverse=[p] from rfl]at l;rw[AG3.1 l];exact hp,AG4⟩ ?_
 rintro x i x3 x4 hi ⟨rfl,h1,c,f⟩ hs;rcases hn:x3.n with _|m
 ·refine ifF (by simp) ⟨0,rfl,fun _=>f.2 ?_,fun _=>rfl⟩
  have:x3.toList.reverse=[]:=by unfold Sl.toList;rw[hn];rfl
  rw[this];exact Xe _
 ·rw[Xl hn]at f c;refine ifT (decide_eq_true (by omega)) ?_;by_cases r:i=40
  ·subst r;refine ifT (by simp) ⟨12,rfl,fun h=>absurd h (by decide),fun h=>?_⟩
   have:(x3.g m::(x3.take m).toList.reverse)=[]:=f.1 h
   cases this
  refine ifF (by simp;omega) ?_;have hw:IntKind.i64.wrap (((m+1:Nat):Int)-1)=(m:Int):=by rw[D3 (by omega) (by omega)];omega
  simp only[hw,Ay0];refine ifT (by omega) (ifT (by omega) ?_);obtain⟨e,y,a⟩:=Vk (N:=N) (c (x3.g m) (by simp)).is;refine B1 y ?_;rw[show 40-i=(39-i)+1 by omega]at f;by_cases o:e=0
  case neg=>exact ifT (by simp[o]) ⟨e,rfl,fun h=>absurd h o,fun h=>absurd (a.2 (f.1 h).1) o⟩
  refine ifF (by simp[o]) ?_;have hc:(if (41:Int)<((x3.g m).L.n:Int)then (41:Int)else ((x3.g m).L.n:Int))=((min 41 (x3.g m).L.n:Nat):Int):=by split<;>omega
  simp only[hc,Ay0];refine ifT (by omega) (B1 rfl (B1 (Sx _ (by show min 41 _<N;omega) (by show min 41 _<1000000;omega)) ?_));generalize s:(x3.g m).L.take (min 41 (x3.g m).L.n)=C;have a0:C.n<=41:=by rw[<- s];exact Nat.min_le_left _ _
  refine ZB (fun L z=>∃j,j<=C.n/\L=((List.range j).reverse.map fun (i:Nat)=>((i:Int),C.g i))/\z.n=m+(C.n-j)/\z.toList.reverse=C.toList.drop j++(x3.take m).toList.reverse) ?_ ?_ _ _ ⟨C.n,Ay6 _,rfl,by show m=_;omega,by rw[Cl];rfl⟩
  ·rintro z ⟨j,hj,hL,hz,b⟩;have u:j=0:=by
    cases j with
    |zero=>rfl
    |succ j=>simp[AJ7]at hL
   subst u;rw[AL9]at b;refine hs (by omega) _ _ ⟨C0 (by omega),by omega,fun q l=>?_,?_⟩
   ·rw[b]at l;rcases List.mem_append.1 l with h|h
    ·obtain⟨i',d,rfl⟩:=AF3.1 h;have d:=AE3.1 d;rw[<- s]at d⊢;exact (c (x3.g m) (by simp)).L (AA1 d (Nat.min_le_right _ _))
    ·exact c q (by simp[h])
   ·rw[b,f,show 40-(i+1)=39-i by omega,<- s,Al9 (by omega)];exact⟨fun h=>h.2,fun h=>⟨a.1 o,h⟩⟩
  ·rintro t L z v ⟨j,hj,hL,hz,b⟩ w;cases j with
   |zero=>simp at hL
   |succ j=>rw[AJ7,AL3,AO0,AO5,AA7]at hL;obtain⟨rfl,rfl⟩:=AQ1 hL;have e1:(z.n:Int).toNat=z.n:=Ay0 _;refine ifT ⟨⟨⟨by show (z.n+1)*64<=_;omega,by show z.n+1<=_;omega⟩,by show (0:Int)<=_/\(z.n:Int)<((z.n+1:Nat):Int);omega⟩,by show z.n<z.n+1;omega⟩ ?_;refine w _ ⟨j,by omega,rfl,by show z.n+1=_;omega,?_⟩;rw[ZD,b,Ed C (i:=j) (by omega),AC0]
end Go.AM
namespace Go.AM
open IntKind (wrap)
open Go.Proofs
def wOk (w:Sl Sound):Prop:=w.n<=32/\∀i,i<w.n->vS (w.g i)
theorem IQ {N:Nat}{w:Sl Sound}(m:w.n<N)(hs:w.n<1000000){f:Sound->Option Bool}{b:Nat->Bool}(o:∀i,i<w.n->f (w.g i)=some (b i)) :∃r,B2 N w f=some r/\(r=true ↔ ∃i,i<w.n/\b i=true):=by
 unfold B2 D0
 have:∃y,S8 N (fun (a:Int->Option Int) (x1:Int)=>
  if (decide (x1<(w.n:Int))) then
   if ((0:Int)<=x1/\x1<(w.n:Int))then
    (f (w.g x1.toNat)).bind fun y3=>
    if y3 then
     some x1
    else
     a (wrap .i64 (x1+1))
   else none
  else
   some (-1)) 0=some y/\(0<=y ↔ ∃i,i<w.n/\b i=true):=by
  refine BA (fun i x1=>x1=(i:Int)/\∀j,j<i->b j=false) w.n _ m ⟨rfl,fun j c=>absurd c (by omega)⟩ ?_;rintro l i x1 q ⟨rfl,h⟩ d;by_cases hl:i<w.n
  ·refine ifT (by simp;omega) (ifT (by omega) (B1 (by rw[Ay0];exact o i hl) ?_));cases hb:b i
   ·refine ifF (by simp) (d hl _ ⟨C0 (by omega),fun j c=>?_⟩);by_cases e:j=i
    ·subst e;exact hb
    ·exact h j (by omega)
   ·exact ifT rfl ⟨i,rfl,fun _=>⟨i,hl,hb⟩,fun _=>by omega⟩
  ·refine ifF (by simp;omega) ⟨-1,rfl,fun h=>absurd h (by decide),?_⟩;rintro⟨j,c,hb⟩;rw[h j (by omega)]at hb;cases hb
 obtain⟨y,e,hy⟩:=this;exact B1 e ⟨_,rfl,by rw[decide_eq_true_eq];exact hy⟩
theorem MR {N:Nat}(z:3000<=N){p:Pat}(hp:okPS p){w:Sl Sound}(hs:w.n<1000000/\w.n+1000<N)(hw:∀i,i<w.n->okS (w.g i)) :∃r,W4 N p w=some r/\(r.2=0↔chk 40 [p]/\wOk w)/\(r.2=0->TabA w.n (PR w p) r.1):=by
 unfold W4;obtain⟨e,l,hc⟩:=Ox (N:=N) (by omega) hp;refine B1 l ?_;by_cases d:e=0
 case neg=>exact ifT (by simp[d]) ⟨_,rfl,⟨fun h=>absurd h d,fun h=>absurd (hc.2 h.1) d⟩,fun h=>absurd h d⟩
 refine ifF (by simp[d]) ?_;by_cases hn:32<w.n
 ·exact ifT (by simp;omega) ⟨_,rfl,⟨fun h=>absurd h (by decide),fun h=>by have:=h.2.1;omega⟩,fun h=>absurd h (by decide)⟩
 refine ifF (by simp;omega) ?_;have s:∀i,∃b:Bool,i<w.n->Q2 N (w.g i)=some b/\(b=true ↔ ¬vS (w.g i)):=by
  intro i;by_cases a:i<w.n
  ·obtain⟨x,y,l⟩:=hw i a;refine⟨!vB x y,fun _=>⟨?_,?_⟩⟩
   ·unfold Q2;rw[l,Qv];rfl
   ·rw[Sv l];cases vB x y<;>simp
  ·exact⟨false,fun h=>absurd h a⟩
 obtain⟨b,hb⟩:=AF8 s;obtain⟨r,t,j⟩:=IQ (N:=N) (by omega) hs.1 (f:=fun u1=>Q2 N u1) fun i a=>(hb i a).1;refine B1 t ?_;by_cases c:r=true
 ·refine ifT c ⟨_,rfl,⟨fun h=>absurd h (by decide),fun h=>?_⟩,fun h=>absurd h (by decide)⟩;obtain⟨i,a,m⟩:=j.1 c;exact absurd (h.2.2 i a) ((hb i a).2.1 m)
 ·refine ifF c ?_;have o:wOk w:=⟨by omega,fun i a=>AB6 fun q=>c (j.2 ⟨i,a,(hb i a).2.2 q⟩)⟩;obtain⟨pt,ep,u⟩:=KX (N:=1000) (by omega) 40 (Ay6 _) p (Xk 40 [p] (Ay6 _) (hc.1 d) p (by simp)) N (by omega);refine B1 ep ?_;obtain⟨f,ef,v⟩:=u w (by omega) hw N (by omega);exact B1 ef ⟨_,rfl,⟨fun _=>⟨hc.1 d,o⟩,fun _=>rfl⟩,fun _=>v⟩
end Go.AM
namespace Go.AM
open Go.Proofs
theorem Vl {N:Nat}(o:3000<=N){p:Pat}(hp:okPS p){w:Sl Sound}(hs:w.n<1000000/\w.n+1000<N)(hw:∀i,i<w.n->okS (w.g i))(at_:Int) :∃r,Av N p w at_=some r/\(0<r.1.n↔chk 40 [p]/\wOk w/\0<=at_/\at_<=w.n/\∃a,a<=w.n/\PR w p a at_.toNat):=by
 unfold Av;obtain⟨y,e,h1,q⟩:=MR o hp hs hw;refine B1 e (ltX ?_);by_cases c:y.2=0
 case neg=>refine ifF (by simp[c]) (ifT (by simp[c]) ⟨_,rfl,fun h=>absurd h (by show ¬ 0<0;omega),fun h=>absurd (h1.2 ⟨h.1,h.2.1⟩) c⟩)
 refine ifT (by simp[c]) ?_;obtain⟨hc,d⟩:=h1.1 c;have s:=q c;have hn:=d.1;unfold W0;by_cases f:at_<0 \/ (w.n:Int)<at_
 ·rw[if_pos (by simpa using f)];refine B1 rfl (ifT (by decide) ⟨_,rfl,fun h=>absurd h (by show ¬ 0<0;omega),fun h=>by omega⟩)
 rw[if_neg (by simpa using f)];refine B1 rfl (ifF (by simp) ?_);obtain⟨k,rfl⟩:∃k:Nat,at_=(k:Int):=⟨at_.toNat,by omega⟩;rw[C0 (by omega),Ay0];refine N8 (fun i x2 x3=>x3=(i:Int)/\x2.n<=i/\(0<x2.n ↔ ∃a,a<i/\PR w p a k)) (w.n+1) _ (by omega) ⟨rfl,Ay6 _,fun h=>absurd h (by show ¬ 0<0;omega),fun⟨a,h,_⟩=>absurd h (by omega)⟩ ?_;rintro m i x2 x3 t ⟨rfl,g1,g2⟩ j;by_cases hl:i<=w.n
 ·refine ifT (by simp;omega) (ifT (by omega) ?_);rw[Ay0,AB0,AD0];have hb:=s.1.bit hl (b:=k) (by omega);by_cases l:PR w p i k
  ·refine ifT (hb.2 ⟨by omega,l⟩) (ifT (by show (x2.n+1)*8<=_/\x2.n+1<=_;omega) (j (by omega) _ _ ⟨C0 (by omega),by show x2.n+1<=_;omega,fun _=>⟨i,by omega,l⟩,fun _=>by show 0<x2.n+1;omega⟩))
  ·refine ifF (fun h=>l (hb.1 h).2) (j (by omega) _ _ ⟨C0 (by omega),by omega,fun h=>?_,fun⟨a,ha,h⟩=>?_⟩)
   ·obtain⟨a,ha,h'⟩:=g2.1 h;exact⟨a,by omega,h'⟩
   ·by_cases e2:a=i
    ·subst e2;exact absurd h l
    ·exact g2.2 ⟨a,by omega,h⟩
 ·refine ifF (by simp;omega) ⟨_,rfl,fun h=>?_,fun h=>?_⟩
  ·obtain⟨a,ha,h'⟩:=g2.1 h;exact⟨hc,d,by omega,by omega,a,by omega,h'⟩
  ·obtain⟨a,ha,h'⟩:=h.2.2.2.2;exact g2.2 ⟨a,by omega,h'⟩
theorem Sy {N:Nat}(L:List Int)(hL:L.length<1000):∃s,J1 N L=some s/\s.n=L.length:=by
 unfold J1 G4
 have:∃s:Sl Int,Q4 L (fun (a:Sl Int->Option (Sl Int)) (x1:Int) (z1:Sl Int)=>
  if ((z1.n+(Sl.of [x1]:Sl Int).n)*8<=140737488355328/\z1.n+(Sl.of [x1]:Sl Int).n<=140737488355328)then
   a (z1.push x1)
  else none
  ) (fun (z1:Sl Int)=>some z1) (Sl.nil:Sl Int)=some s/\s.n=L.length:=by
  refine ZB (fun l z=>z.n+l.length=L.length) (fun z h=>⟨z,rfl,by simpa using h⟩) (fun t l z b h hs=>?_) L _ (by simp);simp only[AB1]at h;exact ifT (by show (z.n+1)*8<=_/\z.n+1<=_;omega) (hs _ (by show z.n+1+l.length=_;omega))
 obtain⟨s,e,hn⟩:=this;exact B1 e ⟨s,rfl,hn⟩
theorem ZE {N:Nat}(l:3000<=N){p:Pat}(hp:okPS p){w:Sl Sound}(hs:w.n<1000000/\w.n+1000<N)(hw:∀i,i<w.n->okS (w.g i))(at_:Int) :∃r,Ce N p w at_=some r/\(0<r.1.n↔chk 40 [p]/\wOk w/\0<=at_/\at_<=w.n/\∃b,b<=w.n/\PR w p at_.toNat b):=by
 unfold Ce;obtain⟨y,e,h1,m⟩:=MR l hp hs hw;refine B1 e (ltX ?_);by_cases c:y.2=0
 case neg=>refine ifF (by simp[c]) (ifT (by simp[c]) ⟨_,rfl,fun h=>absurd h (by show ¬ 0<0;omega),fun h=>absurd (h1.2 ⟨h.1,h.2.1⟩) c⟩)
 refine ifT (by simp[c]) ?_;obtain⟨hc,d⟩:=h1.1 c;have o:=m c;have hn:=d.1;unfold W0;by_cases f:at_<0 \/ (w.n:Int)<at_
 ·rw[if_pos (by simpa using f)];refine B1 rfl (ifT (by decide) ⟨_,rfl,fun h=>absurd h (by show ¬ 0<0;omega),fun h=>by omega⟩)
 rw[if_neg (by simpa using f)];refine B1 rfl (ifF (by simp) ?_);obtain⟨k,rfl⟩:∃k:Nat,at_=(k:Int):=⟨at_.toNat,by omega⟩;refine ifT (by omega) ?_;rw[Ay0,AB0,AD0];obtain⟨u,e1,g1⟩:=o.1 k (by omega);refine B1 (x:=y.1 k) rfl (B1 (x:=Ee u 0) (by rw[e1];exact Gv u (by omega)) ?_);obtain⟨s,es,j⟩:=Sy (N:=N) (Ee u 0) (by unfold Ee;rw[AD3];exact AQ0 (List.length_filter_le _ _) (by simp))
 refine B1 es ⟨_,rfl,?_⟩;show 0<s.n↔_;rw[j,List.length_pos_iff_exists_mem];constructor
 ·rintro⟨t,ht⟩;obtain⟨b,rfl,_,hb,a⟩:=mem_bitsF.1 ht;exact⟨hc,d,by omega,by omega,b,((g1 b hb).1 a).1,((g1 b hb).1 a).2⟩
 ·rintro⟨_,_,_,_,b,hb,h⟩;exact⟨(b:Int),mem_bitsF.2 ⟨b,rfl,by omega,by omega,(g1 b (by omega)).2 ⟨hb,h⟩⟩⟩
end Go.AM
namespace Go.AM
open IntKind (wrap)
open Go.Proofs
def TX (w:Sl Sound)(e:Int):Prop:=(32<w.n/\e=11) \/ (w.n<=32/\(∃i,i<w.n/\¬vS (w.g i))/\e=14) \/ (wOk w/\e=0)
theorem Qy {w:Sl Sound}{e e' : Int}(h:TX w e)(h' : TX w e'):e=e':=by
 rcases h with⟨h1,a⟩ | ⟨h1,⟨i,b,c⟩,a⟩ | ⟨h1,a⟩<;>rcases h' with⟨g1,g2⟩ | ⟨g1,⟨j,d,gv⟩,g2⟩ | ⟨g1,g2⟩
 ·omega
 ·omega
 ·have:=g1.1;omega
 ·omega
 ·omega
 ·exact absurd (g1.2 i b) c
 ·have:=h1.1;omega
 ·exact absurd (h1.2 j d) gv
 ·omega
theorem U9 {w:Sl Sound}{e:Int}(h:TX w e):e=0↔wOk w:=by
 rcases h with⟨h1,a⟩ | ⟨h1,⟨i,b,c⟩,a⟩ | ⟨h1,a⟩
 ·exact⟨fun h=>by omega,fun h=>by have:=h.1;omega⟩
 ·exact⟨fun h=>by omega,fun h=>absurd (h.2 i b) c⟩
 ·exact⟨fun _=>h1,fun _=>a⟩
theorem Qz {N:Nat}(o:1000<=N){w:Sl Sound}(hw:∀i,i<w.n->okS (w.g i))(V:Sound->Option Bool)(f:∀p m:BitVec 32,V (sOf p m)=some (vB p m)) :∃e,(if (decide (32<(w.n:Int))) then
 some (11:Int)
 else
  S8 N (fun a (x1:Int)=>
   if (decide (x1<(w.n:Int))) then
    if ((0:Int)<=x1/\x1<(w.n:Int))then
     (V (w.g x1.toNat)).bind fun y3=>
     if (!y3) then
      some 14
     else
      a (wrap .i64 (x1+1))
    else none
   else
    some 0
   ) 0)=some e/\TX w e:=by
 by_cases hn:32<w.n
 ·exact ifT (by simp;omega) ⟨11,rfl,.inl ⟨hn,rfl⟩⟩
 refine ifF (by simp;omega) ?_;refine BA (fun i x1=>x1=(i:Int)/\∀j,j<i->vS (w.g j)) w.n _ (by omega) ⟨rfl,fun j b=>absurd b (by omega)⟩ ?_;rintro d i x1 q ⟨rfl,h⟩ hs;by_cases hl:i<w.n
 ·obtain⟨p,m,c⟩:=hw i hl;refine ifT (by simp;omega) (ifT (by omega) (B1 (by rw[Ay0,c];exact f p m) ?_));cases hb:vB p m
  ·refine ifT rfl ⟨14,rfl,.inr (.inl ⟨by omega,⟨i,hl,fun l=>?_⟩,rfl⟩)⟩
   have:=(Sv c).1 l;rw[hb]at this;cases this
  ·refine ifF (by simp) (hs hl _ ⟨C0 (by omega),fun j b=>?_⟩);by_cases e:j=i
   ·subst e;exact (Sv c).2 hb
   ·exact h j (by omega)
 ·exact ifF (by simp;omega) ⟨0,rfl,.inr (.inr ⟨⟨by omega,fun j b=>h j (by omega)⟩,rfl⟩)⟩
theorem KY {N:Nat}(a:1000<=N){w:Sl Sound}(hw:∀i,i<w.n->okS (w.g i)):∃e,J0 N w=some e/\TX w e:=
 Qz a hw (Ae N) fun p m=>Qu p m
theorem MS {N:Nat}(a:1000<=N){w:Sl Sound}(hw:∀i,i<w.n->okS (w.g i)):∃e,Gn N w=some e/\TX w e:=
 Qz a hw (T9 N) fun p m=>MO p m
theorem TY {N:Nat}(d:2000<=N){p:Pat}(hp:okPS p){w:Sl Sound}(hw:∀i,i<w.n->okS (w.g i)):∃e,Ft N p w=some e/\(e=0↔chk 40 [p]/\wOk w):=by
 unfold Ft;obtain⟨e,f,hc⟩:=KW d hp;refine B1 f ?_;by_cases a:e=0
 ·obtain⟨e2,b,c⟩:=MS (N:=N) (by omega) hw;exact ifT (by simp[a]) (B1 b ⟨e2,rfl,(U9 c).trans ⟨fun h=>⟨hc.1 a,h⟩,fun h=>h.2⟩⟩)
 ·exact ifF (by simp[a]) ⟨e,rfl,fun h=>absurd h a,fun h=>absurd (hc.2 h.1) a⟩
theorem Sz {N:Nat}(s:3000<=N){p:Pat}(hp:okPS p){w:Sl Sound}(hw:∀i,i<w.n->okS (w.g i))(at_:Int) :∃r,EX N p w at_=some r/\(0<r.1.n↔chk 40 [p]/\wOk w/\0<=at_/\at_<=w.n/\∃a,a<=w.n/\PR w p a at_.toNat):=by
 unfold EX;obtain⟨e,o,h1⟩:=TY (N:=N) (by omega) hp hw;refine B1 o ?_;by_cases j:e=0
 case neg=>exact ifT (by simp[j]) ⟨_,rfl,fun h=>absurd h (by show ¬ 0<0;omega),fun h=>absurd (h1.2 ⟨h.1,h.2.1⟩) j⟩
 refine ifF (by simp[j]) ?_;obtain⟨hc,c⟩:=h1.1 j;have hn:=c.1;by_cases d:at_<0 \/ (w.n:Int)<at_
 ·exact ifT (by simpa using d) ⟨_,rfl,fun h=>absurd h (by show ¬ 0<0;omega),fun h=>by omega⟩
 refine ifF (by simpa using d) ?_;obtain⟨k,rfl⟩:∃k:Nat,at_=(k:Int):=⟨at_.toNat,by omega⟩;obtain⟨t,et,tn,q⟩:=KT (N:=1000) (by omega) hn 40 p (KV 40 [p] (Ay6 _) hc p (by simp)) N (by omega);refine B1 et ?_;rw[Ay0];refine N8 (fun i x2 x3=>x3=(i:Int)/\x2.n<=i/\(0<x2.n ↔ ∃a,a<i/\PR w p a k)) (w.n+1) _ (by omega) ⟨rfl,Ay6 _,fun h=>absurd h (by show ¬ 0<0;omega),fun⟨a,h,_⟩=>absurd h (by omega)⟩ ?_;rintro m i x2 x3 u ⟨rfl,g1,g2⟩ f;by_cases hl:i<=w.n
 ·refine ifT (by simp;omega) (ifT (by omega) ?_);rw[Ay0];have hb:=q.bit hl (b:=k) (by omega);by_cases l:PR w p i k
  ·refine ifT (hb.2 ⟨by omega,l⟩) (ifT (by show (x2.n+1)*8<=_/\x2.n+1<=_;omega) (f (by omega) _ _ ⟨C0 (by omega),by show x2.n+1<=_;omega,fun _=>⟨i,by omega,l⟩,fun _=>by show 0<x2.n+1;omega⟩))
  ·refine ifF (fun h=>l (hb.1 h).2) (f (by omega) _ _ ⟨C0 (by omega),by omega,fun h=>?_,fun⟨a,ha,h⟩=>?_⟩)
   ·obtain⟨a,ha,h'⟩:=g2.1 h;exact⟨a,by omega,h'⟩
   ·by_cases e2:a=i
    ·subst e2;exact absurd h l
    ·exact g2.2 ⟨a,by omega,h⟩
 ·refine ifF (by simp;omega) ⟨_,rfl,fun h=>?_,fun h=>?_⟩
  ·obtain⟨a,ha,h'⟩:=g2.1 h;exact⟨hc,c,by omega,by omega,a,by omega,h'⟩
  ·obtain⟨a,ha,h'⟩:=h.2.2.2.2;exact g2.2 ⟨a,by omega,h'⟩
theorem Xm {N:Nat}(s:3000<=N){p:Pat}(hp:okPS p){w:Sl Sound}(hw:∀i,i<w.n->okS (w.g i))(at_:Int) :∃r,HZ N p w at_=some r/\(0<r.1.n↔chk 40 [p]/\wOk w/\0<=at_/\at_<=w.n/\∃b,b<=w.n/\PR w p at_.toNat b):=by
 unfold HZ;obtain⟨e,o,h1⟩:=TY (N:=N) (by omega) hp hw;refine B1 o ?_;by_cases j:e=0
 case neg=>exact ifT (by simp[j]) ⟨_,rfl,fun h=>absurd h (by show ¬ 0<0;omega),fun h=>absurd (h1.2 ⟨h.1,h.2.1⟩) j⟩
 refine ifF (by simp[j]) ?_;obtain⟨hc,c⟩:=h1.1 j;have hn:=c.1;by_cases d:at_<0 \/ (w.n:Int)<at_
 ·exact ifT (by simpa using d) ⟨_,rfl,fun h=>absurd h (by show ¬ 0<0;omega),fun h=>by omega⟩
 refine ifF (by simpa using d) ?_;obtain⟨k,rfl⟩:∃k:Nat,at_=(k:Int):=⟨at_.toNat,by omega⟩;obtain⟨t,et,tn,q⟩:=KT (N:=1000) (by omega) hn 40 p (KV 40 [p] (Ay6 _) hc p (by simp)) N (by omega);refine B1 et ?_;rw[Ay0];refine N8 (fun i x2 x3=>x3=(i:Int)/\x2.n<=i/\(0<x2.n ↔ ∃b,b<i/\PR w p k b)) (w.n+1) _ (by omega) ⟨rfl,Ay6 _,fun h=>absurd h (by show ¬ 0<0;omega),fun⟨a,h,_⟩=>absurd h (by omega)⟩ ?_;rintro m i x2 x3 u ⟨rfl,g1,g2⟩ f;by_cases hl:i<=w.n
 ·refine ifT (by simp;omega) (ifT (by omega) ?_);have hb:=q.bit (a:=k) (by omega) (b:=i) (by omega);by_cases l:PR w p k i
  ·refine ifT (hb.2 ⟨by omega,l⟩) (ifT (by show (x2.n+1)*8<=_/\x2.n+1<=_;omega) (f (by omega) _ _ ⟨C0 (by omega),by show x2.n+1<=_;omega,fun _=>⟨i,by omega,l⟩,fun _=>by show 0<x2.n+1;omega⟩))
  ·refine ifF (fun h=>l (hb.1 h).2) (f (by omega) _ _ ⟨C0 (by omega),by omega,fun h=>?_,fun⟨a,ha,h⟩=>?_⟩)
   ·obtain⟨a,ha,h'⟩:=g2.1 h;exact⟨a,by omega,h'⟩
   ·by_cases e2:a=i
    ·subst e2;exact absurd h l
    ·exact g2.2 ⟨a,by omega,h⟩
 ·refine ifF (by simp;omega) ⟨_,rfl,fun h=>?_,fun h=>?_⟩
  ·obtain⟨a,ha,h'⟩:=g2.1 h;exact⟨hc,c,by omega,by omega,a,by omega,h'⟩
  ·obtain⟨a,ha,h'⟩:=h.2.2.2.2;exact g2.2 ⟨a,by omega,h'⟩
end Go.AM
namespace Go.AM
open Go.Proofs
def Ao9 (s c:Sound):Prop:=∃p m a b:BitVec 32,s=sOf p m/\c=sOf a b/\VG p m a b=true
theorem Xn {p m a b:BitVec 32}(h:sOf p m=sOf a b):p=a/\m=b:=by have e1:(p.toNat:Int)=a.toNat:=congrArg Sound.Plus h;have e2:(m.toNat:Int)=b.toNat:=congrArg Sound.Minus h;exact⟨AB8 (by omega),AB8 (by omega)⟩
theorem satS_of {p m a b:BitVec 32}:Ao9 (sOf p m) (sOf a b)↔VG p m a b=true:=by
 constructor
 ·rintro⟨p',m',a',b',h1,c,d⟩;obtain⟨rfl,rfl⟩:=Xn h1;obtain⟨rfl,rfl⟩:=Xn c;exact d
 ·exact fun h=>⟨_,_,_,_,rfl,rfl,h⟩
theorem ZF {N:Nat}{s c:Sound}(hs:okS s)(hc:okS c):∃b,I4 N s c=some b/\(b=true↔Ao9 s c):=by obtain⟨p,m,rfl⟩:=hs;obtain⟨a,b,rfl⟩:=hc;exact⟨_,Al1 p m a b,satS_of.symm⟩
theorem ZG {N:Nat}(d:1000<=N){s c:Sound}(hs:okS s)(hc:okS c):∃b,T7 N s c=some b/\(b=true↔Ao9 s c):=by obtain⟨p,m,rfl⟩:=hs;obtain⟨a,b,rfl⟩:=hc;exact⟨_,Al2 p m a b d,satS_of.symm⟩
def okL (l:Law):Prop:=okPS l.Left/\okPS l.Right/\∀i,i<l.If.n->okS (l.If.g i)
def arP (l:Law)(w:Sl Sound)(i:Nat):Prop:=chk 40 [l.Left]/\chk 40 [l.Right]/\wOk w/\i+l.If.n<=w.n/\(∃a,a<=w.n/\PR w l.Left a i)/\∃b,b<=w.n/\PR w l.Right (i+l.If.n) b
def MT (l:Law)(w:Sl Sound)(i:Nat):Prop:=i+l.If.n<=w.n/\(∀j,j<l.If.n->Ao9 (w.g (i+j)) (l.If.g j))/\arP l w i
def okW (w:Sl Sound):Prop:=w.n<1000/\∀i,i<w.n->okS (w.g i)
theorem Vm {N:Nat}(c:3000<=N){l:Law}(hl:okL l)(hk:l.If.n<=4){w:Sl Sound}(hw:okW w)(i:Nat)(f:i<2000) :∃b,R9 N (i:Int) l w=some b/\(b=true↔arP l w i):=by
 unfold R9;obtain⟨y1,e1,h1⟩:=Vl (N:=N) c hl.1 (w:=w) ⟨by have:=hw.1;omega,by have:=hw.1;omega⟩ hw.2 (i:Int);refine B1 e1 ?_;rw[Ay0]at h1;by_cases d:y1.1.n=0
 ·refine ifT (by simp[d]) ⟨false,rfl,by simp,fun h=>?_⟩
  have:=h1.2 ⟨h.1,h.2.2.1,by omega,by have:=h.2.2.2.1;omega,h.2.2.2.2.1⟩
  omega
 ·refine ifF (by simp;omega) ?_;rw[Cq (by omega)];obtain⟨y2,e2,a⟩:=ZE (N:=N) c hl.2.1 (w:=w) ⟨by have:=hw.1;omega,by have:=hw.1;omega⟩ hw.2 ((i+l.If.n:Nat):Int);rw[Ay0]at a;refine B1 e2 ⟨_,rfl,?_⟩;have h1:=h1.1 (by omega);rw[decide_eq_true_eq];constructor
  ·intro h;have a:=a.1 (by omega);exact⟨h1.1,a.1,h1.2.1,by omega,h1.2.2.2.2,a.2.2.2.2⟩
  ·intro h
   have:=a.2 ⟨h.2.1,h.2.2.1,by omega,by have:=h.2.2.2.1;omega,h.2.2.2.2.2⟩
   omega
theorem Oy {N:Nat}(f:3000<=N){l:Law}(hl:okL l)(hk:l.If.n<=4){w:Sl Sound}(hw:okW w)(i:Nat)(o:i<2000) :∃b,Bc N l w (i:Int)=some b/\(b=true↔MT l w i):=by
 unfold Bc;rw[Cq (by omega)];by_cases hn:w.n<i+l.If.n
 ·exact ifT (by simp;omega) ⟨false,rfl,by simp,fun h=>by have:=h.1;omega⟩
 refine ifF (by simp;omega) ?_;refine BA (fun j x1=>x1=(j:Int)/\∀k,k<j->Ao9 (w.g (i+k)) (l.If.g k)) l.If.n _ (by omega) ⟨rfl,fun k hk=>absurd hk (by omega)⟩ ?_;rintro m j x1 q ⟨rfl,h⟩ hs;by_cases c:j<l.If.n
 ·rw[Cq (by omega)];refine ifT (by simp;omega) (ifT (by omega) ?_);obtain⟨b,eb,hb⟩:=ZG (N:=N) (by omega) (hw.2 (i+j) (by omega)) (hl.2.2 j c);refine B1 (by rw[Ay0,Ay0];exact eb) ?_;cases b
  ·refine ifT rfl ⟨false,rfl,by simp,fun a=>?_⟩
   have:=hb.2 (a.2.1 j c);cases this
  ·refine ifF (by simp) (hs c _ ⟨C0 (by omega),fun k d=>?_⟩);by_cases e:k=j
   ·subst e;exact hb.1 rfl
   ·exact h k (by omega)
 ·refine ifF (by simp;omega) ?_;obtain⟨y1,e1,h1⟩:=Sz (N:=N) f hl.1 (w:=w) hw.2 (i:Int);obtain⟨y2,e2,a⟩:=Xm (N:=N) f hl.2.1 (w:=w) hw.2 ((i+l.If.n:Nat):Int);rw[Ay0]at h1 a;refine B1 e1 (B1 e2 ⟨_,rfl,?_⟩);simp only[Ay3,decide_eq_true_eq];constructor
  ·rintro⟨g1,g2⟩;have h1:=h1.1 (by omega);have a:=a.1 (by omega);exact⟨by omega,fun k d=>h k (by omega),h1.1,a.1,h1.2.1,by omega,h1.2.2.2.2,a.2.2.2.2⟩
  ·intro g;have a1:=h1.2 ⟨g.2.2.1,g.2.2.2.2.1,by omega,by omega,g.2.2.2.2.2.2.1⟩;have a2:=a.2 ⟨g.2.2.2.1,g.2.2.2.2.1,by omega,by omega,g.2.2.2.2.2.2.2⟩;exact⟨by omega,by omega⟩
end Go.AM
namespace Go.AM
open IntKind (wrap)
open Go.Proofs
open Classical in
noncomputable def hitB (l:Law) (w:Sl Sound) (i:Nat):Bool:=decide (MT l w i)
theorem hitB_iff {l:Law}{w:Sl Sound}{i:Nat}:hitB l w i=true↔MT l w i:=by simp[hitB]
noncomputable def CY (l:Law) (w:Sl Sound) (i:Nat):List Int:=((List.range' i (w.n+1-i)).filter (hitB l w)).map fun (j:Nat)=>(j:Int)
theorem Ie {l:Law}{w:Sl Sound}{i:Nat}(h:w.n<i+l.If.n):CY l w i=[]:=by
 unfold CY;rw[AN9.2 fun j a hb=>by
  have:=AM6.1 a
  have:=(hitB_iff.1 hb).1
  omega]
 rfl
theorem Hv {l:Law}{w:Sl Sound}{i:Nat}(a:i<=w.n)(h:MT l w i):CY l w i=(i:Int)::CY l w (i+1):=by unfold CY;rw[show w.n+1-i=(w.n+1-(i+1))+1 by omega,AI9,AN0 (hitB_iff.2 h)];rfl
theorem Hw {l:Law}{w:Sl Sound}{i:Nat}(h:¬MT l w i):CY l w i=CY l w (i+1):=by
 unfold CY;by_cases a:i<=w.n
 ·rw[show w.n+1-i=(w.n+1-(i+1))+1 by omega,AI9,AN1 fun hb=>h (hitB_iff.1 hb)]
 ·rw[show w.n+1-i=0 by omega,show w.n+1-(i+1)=0 by omega];rfl
theorem ZH {l:Law}{w:Sl Sound}{i:Nat}{y:Int}(h:y∈CY l w i):(i:Int)<=y:=by
 obtain⟨j,a,rfl⟩:=AF3.1 h
 have:=AM6.1 (AJ6.1 a).1
 omega
theorem TZ {N:Nat}(z:3000<=N){l:Law}(hl:okL l)(hk:l.If.n<=4){w:Sl Sound}(hw:okW w)(i:Nat)(v:i<1500):U4 N l w (i:Int)=some (CY l w i):=by
 unfold U4;show (some (l,w)).bind _=_;rw[Ay4];simp only[]
 suffices h:∀(k i:Nat),i<1501->w.n+1-i<=k->∀F,k<F->∃r,S8 F (fun (a:Int->Option (List Int)) (x2:Int)=>
  if (decide ((wrap .i64 (x2+(l.If.n:Int)))<=(w.n:Int))) then
   S8 N (fun (d:Int->Option (List Int)) (x4:Int)=>
    if (decide (x4<(l.If.n:Int))) then
     if ((0:Int)<=x4/\x4<(l.If.n:Int))then
      if ((0:Int)<=(wrap .i64 (x2+x4))/\(wrap .i64 (x2+x4))<(w.n:Int))then
       (I4 N (w.g (wrap .i64 (x2+x4)).toNat) (l.If.g x4.toNat)).bind fun s=>
       if (!s) then
        a (wrap .i64 (x2+1))
       else
        d (wrap .i64 (x4+1))
      else none
     else none
    else
     (R9 N x2 l w).bind fun t=>
     if t then
      Bm x2 (
       a (wrap .i64 (x2+1))
       )
     else
      a (wrap .i64 (x2+1))
    ) 0
  else
   some []
  ) (i:Int)=some r/\r=CY l w i by
  obtain⟨r,h1,rfl⟩:=h (w.n+1-i) i (by omega) (Ay6 _) N (by have:=hw.1;omega);exact h1
 intro k
 induction k with
 |zero=>
  intro i v f F q
  match F,q with
  |F+1,_=>rw[BP,Cq (by omega)];exact ifF (by simp;omega) ⟨_,rfl,(Ie (by omega)).symm⟩
 |succ k ih=>
  intro i v f F q
  match F,q with
  |F+1,q=>
   rw[BP,Cq (by omega)];by_cases hn:i+l.If.n<=w.n
   case neg=>exact ifF (by simp;omega) ⟨_,rfl,(Ie (by omega)).symm⟩
   refine ifT (by simp;omega) ?_;have a0:=hw.1;obtain⟨r,x,o⟩:=ih (i+1) (by omega) (by omega) F (by omega);have c:∀(Q:List Int->Prop),Q (CY l w (i+1))->∃r,S8 F _ (IntKind.i64.wrap ((i:Int)+1))=some r/\Q r:=fun Q hQ=>⟨r,by rw[C0 (by omega)];exact x,by rw[o];exact hQ⟩;refine BA (fun j x1=>x1=(j:Int)/\∀k,k<j->Ao9 (w.g (i+k)) (l.If.g k)) l.If.n _ (by omega) ⟨rfl,fun k hk=>absurd hk (by omega)⟩ ?_;rintro y j x1 hj ⟨rfl,h⟩ hs;by_cases m:j<l.If.n
   ·rw[Cq (by omega)];refine ifT (by simp;omega) (ifT (by omega) (ifT (by omega) ?_));obtain⟨b,eb,hb⟩:=ZF (N:=N) (hw.2 (i+j) (by omega)) (hl.2.2 j m);refine B1 (by rw[Ay0,Ay0];exact eb) ?_;cases b
    ·refine ifT rfl (c _ ?_);exact (Hw fun u=>by have:=hb.2 (u.2.1 j m);cases this).symm
    ·refine ifF (by simp) (hs m _ ⟨C0 (by omega),fun k f=>?_⟩);by_cases e:k=j
     ·subst e;exact hb.1 rfl
     ·exact h k (by omega)
   ·refine ifF (by simp;omega) ?_;obtain⟨b,eb,hb⟩:=Vm z hl hk hw i (by omega);refine B1 eb ?_;cases b
    ·refine ifF (by simp) (c _ ?_);exact (Hw fun u=>by have:=hb.2 u.2.2;cases this).symm
    ·refine ifT rfl ?_;have hh:MT l w i:=⟨hn,fun k f=>h k (by omega),hb.1 rfl⟩;refine⟨(i:Int)::CY l w (i+1),?_,(Hv (by omega) hh).symm⟩;rw[C0 (by omega),x,o];rfl
theorem Xo {N:Nat}(a:3000<=N){l:Law}(hl:okL l)(hk:l.If.n<=4){w:Sl Sound}(hw:okW w)(i:Nat)(c:i<1500) :∃b,Bf N l w (i:Int)=some b/\(b=true↔MT l w i):=by
 unfold Bf;refine B1 (x:=(l,w,(i:Int))) rfl (B1 (TZ a hl hk hw i c) ?_);by_cases h:MT l w i
 ·rw[Hv (by have:=h.1;omega) h];exact⟨true,by simp[Q4],by simp[h]⟩
 ·rw[Hw h];rcases hL:CY l w (i+1)with _|⟨t,L⟩
  ·exact⟨false,rfl,by simp[h]⟩
  ·have:((i+1:Nat):Int)<=t:=ZH (l:=l) (w:=w) (by rw[hL];simp)
   exact⟨false,by show some (t==(i:Int))=some false;congr 1;simp;omega,by simp[h]⟩
end Go.AM
namespace Go.AM
open IntKind (wrap)
open Go.Proofs
def okO (x:AE):Prop:=okS x.Set/\(∃c:BitVec 32,x.Clear=(c.toNat:Int))/\∃t:BitVec 32,x.Take=(t.toNat:Int)
theorem Ad3 {p m a b s:BitVec 32}(h1:vB p m=true)(d:vB a b=true):vB (OM p a s) (OM m b s)=true:=by rw[Ew]at *;intro i c;have g1:=h1 i c;have g2:=d i c;simp only[OM,Az4,Az5,AC8];revert g1 g2;cases s.getLsbD i<;>cases p.getLsbD i<;>cases m.getLsbD i<;>cases a.getLsbD i<;>cases b.getLsbD i<;>simp[c]
theorem vS0:vS (⟨0,0⟩:Sound):=⟨0#32,0#32,rfl,by decide +kernel⟩
theorem SA {N:Nat}(f:1000<=N){s t:Sound}{c:Int}(hs:okS s)(hc:∃b:BitVec 32,c=(b.toNat:Int))(ht:okS t):∃y,L7 N s c t=some y/\T8 N s c t=some y/\vS y.1:=by
 obtain⟨p,m,rfl⟩:=hs;obtain⟨a,b,rfl⟩:=ht;obtain⟨d,rfl⟩:=hc;refine⟨_,Vi p m d a b,Vj p m d a b f,?_⟩;unfold Zw;split
 ·rename_i h;split
  ·exact⟨_,_,rfl,Ad3 h.1 h.2⟩
  ·exact vS0
 ·exact vS0
theorem Xp {N:Nat}(f:1000<=N){s t:Sound}{c:Int}(hs:okS s)(hc:∃b:BitVec 32,c=(b.toNat:Int))(ht:okS t):∃y,Q6 N s t c=some y/\AG N s t c=some y/\vS y.1:=by
 obtain⟨p,m,rfl⟩:=hs;obtain⟨a,b,rfl⟩:=ht;obtain⟨d,rfl⟩:=hc;refine⟨_,Zy p m a b d,Zz p m a b d f,?_⟩;unfold Zx;split
 ·rename_i h;split
  ·exact⟨_,_,rfl,Ad3 h.1 h.2⟩
  ·exact vS0
 ·exact vS0
def Ap0 (l:Law):Prop:=l.Out.n<=6/\∀i,i<l.Out.n->okO (l.Out.g i)/\(l.Out.g i).From<l.If.n/\((l.Out.g i).Take≠0->0<=(l.Out.g i).Of/\(l.Out.g i).Of<l.If.n)
theorem eqX {R:Type}{Q:R->Prop}{o o' : Option R}(h:o=o')(a:∃r,o' = some r/\Q r):∃r,o=some r/\Q r:=by rw[h];exact a
def BB (f:Nat->Sound):Nat->Sl Sound
 |0=>Sl.nil
 |m+1=>(BB f m).push (f m)
theorem KZ (f:Nat->Sound):∀m,(BB f m).n=m
 |0=>rfl
 |m+1=>by show (BB f m).n+1=_;rw[KZ f m]
theorem Xq (f:Nat->Sound):∀{m i:Nat},i<m->(BB f m).g i=f i
 |0,i,h=>by omega
 |m+1,i,h=>by
  show (if i<(BB f m).n then (BB f m).g i else f m)=f i;rw[KZ];by_cases e:i<m
  ·rw[if_pos e,Xq f e]
  ·rw[if_neg e,show i=m by omega]
abbrev srcS (l:Law)(cut:Sl Sound)(i:Nat):Sound:=⟨(if (decide (0<=(l.Out.g i).From)) then (cut.g (l.Out.g i).From.toNat).Plus else 0),(if (decide (0<=(l.Out.g i).From)) then (cut.g (l.Out.g i).From.toNat).Minus else 0)⟩
theorem Am0 {N:Nat}(t:1000<=N){l:Law}(u:Ap0 l){cut:Sl Sound}(hn:cut.n=l.If.n)(hc:∀i,i<cut.n->okS (cut.g i)) :∃s,K6 N l cut=some s/\Cd N l cut=some s/\s.n=l.Out.n/\∀i,i<s.n->vS (s.g i):=by
 have one:∀i,∃y:Sound,i<l.Out.n->vS y/\∀(R:Type) (k:Sound->Option R),
  (∀(Ch:Nat->Sound->Int->Sound->Option (Sound×Int)) (Ta:Nat->Sound->Sound->Int->Option (Sound×Int)),(Ch=L7/\Ta=Q6) \/ (Ch=T8/\Ta=AG) ->
  (if ((decide (0<=(l.Out.g i).From))=true->((0:Int)<=(l.Out.g i).From/\(l.Out.g i).From<(cut.n:Int)))then
   (Ch N (⟨(if (decide (0<=(l.Out.g i).From)) then (cut.g (l.Out.g i).From.toNat).Plus else 0),(if (decide (0<=(l.Out.g i).From)) then (cut.g (l.Out.g i).From.toNat).Minus else 0)⟩:Sound) (l.Out.g i).Clear (l.Out.g i).Set).bind fun y5=>
   if ((l.Out.g i).Take != 0) then
    if ((0:Int)<=(l.Out.g i).Of/\(l.Out.g i).Of<(cut.n:Int))then
     (Ta N y5.1 (cut.g (l.Out.g i).Of.toNat) (l.Out.g i).Take).bind fun y6=>k y6.1
    else none
   else k y5.1
   else none)=k y):=by
  intro i;by_cases d:i<l.Out.n
  case neg=>exact⟨default,fun h=>absurd h d⟩
  obtain⟨⟨j,m,o⟩,w,q⟩:=u.2 i d;have hs:okS (⟨(if (decide (0<=(l.Out.g i).From)) then (cut.g (l.Out.g i).From.toNat).Plus else 0),(if (decide (0<=(l.Out.g i).From)) then (cut.g (l.Out.g i).From.toNat).Minus else 0)⟩:Sound):=by
   by_cases v:0<=(l.Out.g i).From
   ·simp only[v,decide_true,if_true];exact hc _ (by omega)
   ·simp only[v,decide_false,Ay7,if_false];exact⟨0#32,0#32,rfl⟩
  obtain⟨y,e1,e2,hy⟩:=SA t hs m j;by_cases ht:(l.Out.g i).Take=0
  ·refine⟨y.1,fun _=>⟨hy,fun R k Ch Ta h=>?_⟩⟩;rw[if_pos (fun h=>by have:=of_decide_eq_true h;omega)]
   have:Ch N (srcS l cut i) (l.Out.g i).Clear (l.Out.g i).Set=some y:=by
    rcases h with⟨rfl,rfl⟩ | ⟨rfl,rfl⟩
    ·exact e1
    ·exact e2
   rw[this,Ay4,if_neg (by simp[ht])]
  ·obtain⟨g1,g2⟩:=q ht;obtain⟨z,e3,e4,x⟩:=Xp t hy.ok o (hc (l.Out.g i).Of.toNat (by omega));refine⟨z.1,fun _=>⟨x,fun R k Ch Ta h=>?_⟩⟩;rw[if_pos (fun h=>by have:=of_decide_eq_true h;omega)]
   have:Ch N (srcS l cut i) (l.Out.g i).Clear (l.Out.g i).Set=some y:=by
    rcases h with⟨rfl,rfl⟩ | ⟨rfl,rfl⟩
    ·exact e1
    ·exact e2
   rw[this,Ay4,if_pos (by simp[ht]),if_pos (by omega)]
   have:Ta N y.1 (cut.g (l.Out.g i).Of.toNat) (l.Out.g i).Take=some z:=by
    rcases h with⟨rfl,rfl⟩ | ⟨rfl,rfl⟩
    ·exact e3
    ·exact e4
   rw[this,Ay4]
 obtain⟨out,f⟩:=AF8 one;have a0:=u.1;have b:∀(Ch:Nat->Sound->Int->Sound->Option (Sound×Int)) (Ta:Nat->Sound->Sound->Int->Option (Sound×Int)),(Ch=L7/\Ta=Q6) \/ (Ch=T8/\Ta=AG) ->
  ∀(a:Sl Sound->Int->Option (Sl Sound)) (i:Nat),i<l.Out.n->(∃r,a ((BB out i).push (out i)) (wrap .i64 ((i:Int)+1))=some r/\r=BB out l.Out.n) ->
  ∃r,(if ((decide (0<=(l.Out.g i).From))=true->((0:Int)<=(l.Out.g i).From/\(l.Out.g i).From<(cut.n:Int)))then
   (Ch N (srcS l cut i) (l.Out.g i).Clear (l.Out.g i).Set).bind fun y5=>
   if ((l.Out.g i).Take != 0) then
    if ((0:Int)<=(l.Out.g i).Of/\(l.Out.g i).Of<(cut.n:Int))then
     (Ta N y5.1 (cut.g (l.Out.g i).Of.toNat) (l.Out.g i).Take).bind fun y6=>
     if (((BB out i).n+(Sl.of [y6.1]:Sl Sound).n)*8<=140737488355328/\(BB out i).n+(Sl.of [y6.1]:Sl Sound).n<=140737488355328)then
      a ((BB out i).push y6.1) (wrap .i64 ((i:Int)+1))
     else none
    else none
   else
    if (((BB out i).n+(Sl.of [y5.1]:Sl Sound).n)*8<=140737488355328/\(BB out i).n+(Sl.of [y5.1]:Sl Sound).n<=140737488355328)then
     a ((BB out i).push y5.1) (wrap .i64 ((i:Int)+1))
    else none
   else none)=some r/\r=BB out l.Out.n:=by
  intro Ch Ta h a i d hr;have e:=(f i d).2 (Sl Sound) (fun y=>if (((BB out i).n+(Sl.of [y]:Sl Sound).n)*8<=140737488355328/\(BB out i).n+(Sl.of [y]:Sl Sound).n<=140737488355328)then a ((BB out i).push y) (wrap .i64 ((i:Int)+1))else none) Ch Ta h;refine eqX e (ifT ?_ hr)
  have:=KZ out i
  show ((BB out i).n+1)*8<=_/\(BB out i).n+1<=_;omega
 have h1:∃r,K6 N l cut=some r/\r=BB out l.Out.n:=by
  unfold K6;refine N8 (fun i x1 x2=>x2=(i:Int)/\x1=BB out i) l.Out.n _ (by omega) ⟨rfl,rfl⟩ ?_;rintro a i x1 x2 d ⟨rfl,rfl⟩ hs;by_cases c:i<l.Out.n
  ·refine ifT (by simp;omega) (ifT (by omega) ?_);rw[Ay0];exact b _ _ (.inl ⟨rfl,rfl⟩) a i c (hs c _ _ ⟨C0 (by omega),rfl⟩)
  ·exact ifF (by simp;omega) ⟨_,rfl,by congr 1;omega⟩
 have h2:∃r,Cd N l cut=some r/\r=BB out l.Out.n:=by
  unfold Cd;refine N8 (fun i x1 x2=>x2=(i:Int)/\x1=BB out i) l.Out.n _ (by omega) ⟨rfl,rfl⟩ ?_;rintro a i x1 x2 d ⟨rfl,rfl⟩ hs;by_cases c:i<l.Out.n
  ·refine ifT (by simp;omega) (ifT (by omega) ?_);rw[Ay0];exact b _ _ (.inr ⟨rfl,rfl⟩) a i c (hs c _ _ ⟨C0 (by omega),rfl⟩)
  ·exact ifF (by simp;omega) ⟨_,rfl,by congr 1;omega⟩
 obtain⟨r,e1,rfl⟩:=h1;obtain⟨r,e2,rfl⟩:=h2;exact⟨_,e1,e2,KZ out _,fun i d=>by rw[KZ]at d;rw[Xq out d];exact (f i d).1⟩
end Go.AM
namespace Go.AM
open Go.Proofs
theorem ne0 (x:BitVec 32):((x.toNat:Int) != 0)=decide (x≠0#32):=by rw[bne,eq0];simp
theorem or0 (x y:BitVec 32):x ||| y=0#32↔x=0#32/\y=0#32:=by
 constructor
 ·intro h;have h:=(z32 _).1 h;exact⟨(z32 _).2 fun i a=>by have:=h i a;rw[Az4,AG9]at this;exact this.1,(z32 _).2 fun i a=>by have:=h i a;rw[Az4,AG9]at this;exact this.2⟩
 ·rintro⟨rfl,rfl⟩;rfl
theorem Av7 (x y z:BitVec 32):x &&& (y ||| z)=(x &&& y) ||| (x &&& z):=by apply AD2;intro i a;simp only[Az5,Az4];cases x.getLsbD i<;>simp
theorem Av8 (x y z:BitVec 32):(x ||| y) &&& z=(x &&& z) ||| (y &&& z):=by apply AD2;intro i a;simp only[Az5,Az4];cases z.getLsbD i<;>simp
theorem Ua {N:Nat}(j:1000<=N){x:AE}(hx:okO x)(k:Int):∃b,R8 N x k=some b/\HY N x k=some b:=by
 obtain⟨⟨a,b,d⟩,⟨c,hc⟩,t,ht⟩:=hx;have f:(16777215:Int)=((16777215#32).toNat:Int):=rfl;unfold R8 HY;simp only[lt,d,hc,ht,Az,W7 a b j,Ay4];rw[f];simp only[DD,Iz,Dn,ne0];by_cases h1:x.From < -1
 ·simp[h1]
 by_cases g:k<=x.From
 ·simp[h1,g]
 by_cases i:vB a b=true
 case neg=>simp[h1,g,i]
 simp only[h1,g,i,decide_false,Ay7,if_false,AJ3];rw[Av8,Av7 t];generalize ~~~16777215#32=M;by_cases g1:c &&& M=0#32
 case neg=>simp[g1,or0]
 by_cases g2:t &&& M=0#32
 case neg=>simp[g1,g2,or0]
 by_cases g3:c &&& (a ||| b)=0#32
 case neg=>simp[g1,g2,g3,or0]
 by_cases g4:t &&& (a ||| b)=0#32
 case neg=>simp[g1,g2,g3,g4,or0]
 by_cases g5:t &&& c=0#32
 case neg=>simp[g1,g2,g3,g4,g5,or0]
 simp[g1,g2,g3,g4,g5,or0];by_cases g6:t.toNat=0
 ·simp only[g6,if_true];cases x.Of==0<;>simp
 ·simp only[g6,if_false];cases (decide (0<=x.Of)&&decide (x.Of<k))<;>simp
end Go.AM
namespace Go.AM
open Go.Proofs
abbrev nameC:Str:=[97,98,99,100,101,102,103,104,105,106,107,108,109,110,111,112,113,114,115,116,117,118,119,120,121,122,65,66,67,68,69,70,71,72,73,74,75,76,77,78,79,80,81,82,83,84,85,86,87,88,89,90,48,49,50,51,52,53,54,55,56,57,45]
theorem Xr {p:UInt8->Bool}:∀{l:Str},l.dropWhile p=[] ↔ ∀x∈l,p x=true
 |[]=>by simp
 |a::l=>by
  rw[List.dropWhile_cons];by_cases h:p a=true
  ·rw[if_pos h,Xr];simp[h]
  ·rw[if_neg h];simp[h]
theorem ZI (l cs:Str):Lib.trimS l cs=[] ↔ ∀b∈l,cs.contains b=true:=by
 unfold Lib.trimS Lib.trimLeftS Lib.trimRightS;rw[Xr];constructor
 ·intro h;have h:∀x∈l.reverse.dropWhile (cs.contains ·),cs.contains x=true:=fun x hx=>h x (AK6.2 hx);have a:l.reverse.dropWhile (cs.contains ·)=[]:=by
   rcases e:l.reverse.dropWhile (cs.contains ·)with _|⟨y,r⟩
   ·rfl
   ·have c:=h y (by rw[e];simp);have d:¬cs.contains y=true:=by
     have:=List.head_dropWhile_not (cs.contains ·) (l:=l.reverse) (by rw[e];simp)
     simp only[e,List.head_cons]at this;rw[this];exact Bool.false_ne_true
    exact absurd c d
  rw[Xr]at a;exact fun b hb=>a b (AK6.2 hb)
 ·intro h x hx;have hx:=AK6.1 hx;exact h x (AK6.1 ((List.dropWhile_sublist _).mem hx))
abbrev Oz (y:Int):Bool:=((((decide (97<=y))&&(decide (y<=122)))||((decide (65<=y))&&(decide (y<=90))))||((decide (48<=y))&&(decide (y<=57))))||(y==45)
theorem Xs:∀k:Fin 256,nameC.contains (UInt8.ofNat k.val)=Oz ((k.val:Nat):Int):=by decide +kernel
theorem Xt (b:UInt8):nameC.contains b=Oz ((b.toNat:Nat):Int):=by
 have:=Xs ⟨b.toNat,b.toNat_lt⟩
 rw[show UInt8.ofNat b.toNat=b by simp]at this;exact this
theorem QA {N:Nat}{s:Str}(n:s.length<N)(hs:s.length<1000000000):∃b,AI N s=some b/\Dv N s=some b:=by
 have o:∃b,Dv N s=some b/\(b=true↔(∀c∈s,nameC.contains c=true)/\1<=s.length/\s.length<=24):=by
  unfold Dv;refine BA (fun i x1=>x1=(i:Int)/\∀j (h:j<s.length),j<i->nameC.contains s[j]=true) s.length _ n ⟨rfl,fun j _ a=>absurd a (by omega)⟩ ?_;rintro l i x1 v ⟨rfl,h⟩ f;by_cases hl:i<s.length
  ·refine ifT (by simp;omega) (ifT (by omega) ?_);have eb:BO s (i:Int)=((s[i].toNat:Nat):Int):=by simp[BO,hl]
   by_cases hb:nameC.contains s[i]=true
   ·refine ifF (by rw[eb];show ¬(!(Oz ((s[i].toNat:Nat):Int)))=true;rw[<- Xt,hb];simp) (f hl _ ⟨C0 (by omega),fun j a q=>?_⟩);by_cases e:j=i
    ·subst e;exact hb
    ·exact h j a (by omega)
   ·refine ifT ?_ ⟨false,rfl,by simp,fun t=>absurd (t.1 s[i] (AN3 hl)) hb⟩;rw[eb];show (!(Oz ((s[i].toNat:Nat):Int)))=true;rw[<- Xt];simpa using hb
  ·refine ifF (by simp;omega) ⟨_,rfl,?_⟩;simp only[Ay3,decide_eq_true_eq];constructor
   ·rintro⟨g1,g2⟩;refine⟨fun c hc=>?_,by omega,by omega⟩;obtain⟨j,a,rfl⟩:=AK9 hc;exact h j a (by omega)
   ·rintro⟨_,g1,g2⟩;exact⟨by omega,by omega⟩
 obtain⟨b,e,hb⟩:=o;refine⟨b,?_,e⟩
 suffices h:∃r,AI N s=some r/\(r=true↔(∀c∈s,nameC.contains c=true)/\1<=s.length/\s.length<=24) by obtain⟨r,u,g⟩:=h;rw[u,show r=b by rw[AA9,g,hb]]
 unfold AI;refine ltX ?_;by_cases d:s=[]
 ·exact ifF (by simp[d]) ⟨false,rfl,by simp[d]⟩
 refine ifT (by simp[d]) ?_;have m:0<s.length:=List.length_pos_iff.2 d;by_cases h1:s.length<=24
 ·refine ifT (by simp;omega) (B1 (x:=Lib.trimS s nameC) ?_ ⟨_,rfl,?_⟩)
  ·unfold CP;rw[if_pos ⟨by omega,by decide,by decide⟩]
  ·rw[<- ZI];constructor
   ·intro h;exact⟨by simpa using h,by omega,h1⟩
   ·rintro⟨h,_⟩;simp[h]
 ·exact ifF (by simp;omega) ⟨false,rfl,by simp;intro _ _;omega⟩
end Go.AM
namespace Go.AM
open IntKind (wrap)
open Go.Proofs
theorem QB {N:Nat}{s:Sl AE}(m:s.n<N)(hs:s.n<1000000){f:AE->Option Bool}{b:Nat->Bool}(o:∀i,i<s.n->f (s.g i)=some (b i)) :∃r,B8 N s f=some r/\(r=true ↔ ∃i,i<s.n/\b i=true):=by
 unfold B8 E1
 have:∃y,S8 N (fun (a:Int->Option Int) (x1:Int)=>
  if (decide (x1<(s.n:Int))) then
   if ((0:Int)<=x1/\x1<(s.n:Int))then
    (f (s.g x1.toNat)).bind fun y3=>
    if y3 then
     some x1
    else
     a (wrap .i64 (x1+1))
   else none
  else
   some (-1)) 0=some y/\(0<=y ↔ ∃i,i<s.n/\b i=true):=by
  refine BA (fun i x1=>x1=(i:Int)/\∀j,j<i->b j=false) s.n _ m ⟨rfl,fun j c=>absurd c (by omega)⟩ ?_;rintro l i x1 q ⟨rfl,h⟩ d;by_cases hl:i<s.n
  ·refine ifT (by simp;omega) (ifT (by omega) (B1 (by rw[Ay0];exact o i hl) ?_));cases hb:b i
   ·refine ifF (by simp) (d hl _ ⟨C0 (by omega),fun j c=>?_⟩);by_cases e:j=i
    ·subst e;exact hb
    ·exact h j (by omega)
   ·exact ifT rfl ⟨i,rfl,fun _=>⟨i,hl,hb⟩,fun _=>by omega⟩
  ·refine ifF (by simp;omega) ⟨-1,rfl,fun h=>absurd h (by decide),?_⟩;rintro⟨j,c,hb⟩;rw[h j (by omega)]at hb;cases hb
 obtain⟨y,e,hy⟩:=this;exact B1 e ⟨_,rfl,by rw[decide_eq_true_eq];exact hy⟩
def Hx (l:Law):Prop:=okL l/\l.Name.length<1100000/\l.If.n<1100000/\l.Out.n<1100000/\∀i,i<l.Out.n->okO (l.Out.g i)
theorem Vn {N:Nat}{s:Sound}(hs:okS s):∃b,F7 N s=some b/\(b=true↔vS s):=by obtain⟨p,m,e⟩:=hs;exact⟨vB p m,by rw[e];exact Az p m,(Sv e).symm⟩
theorem Vo {N:Nat}(a:1000<=N){s:Sound}(hs:okS s):∃b,I5 N s=some b/\(b=true↔vS s):=by obtain⟨p,m,e⟩:=hs;exact⟨vB p m,by rw[e];exact W7 p m a,(Sv e).symm⟩
theorem ZJ {N:Nat}{x:AE}(hx:okO x){k:Int}(h:R8 N x k=some true):x.From<k/\(x.Take≠0->0<=x.Of/\x.Of<k):=by
 obtain⟨⟨a,b,c⟩,_,_⟩:=hx;unfold R8 at h;simp only[lt,c,Az,Ay4]at h;by_cases h1:x.From < -1
 ·simp[h1]at h
 by_cases d:k<=x.From
 ·simp[h1,d]at h
 refine⟨by omega,fun ht=>?_⟩;simp only[h1,d,decide_false,Ay7,if_false]at h;by_cases f:(!vB a b)=true
 ·rw[if_pos f]at h;cases h
 rw[if_neg f]at h;split at h
 ·cases h
 ·rw[if_neg (by simp[ht])]at h;simpa using h
def chkAll (N:Nat)(l:Law):Prop:=Dv N l.Name=some true/\chk 40 [l.Left]/\chk 40 [l.Right]/\l.If.n<=4/\l.Out.n<=6/\l.If.n+l.Out.n≠0/\1<=l.Mode/\l.Mode<=3/\(∀i,i<l.If.n->vS (l.If.g i))/\∀i,i<l.Out.n->R8 N (l.Out.g i) l.If.n=some true
def Am1 (N:Nat)(l:Law)(e:Int):Prop:=(e=0/\chkAll N l) \/ (e=17/\¬chkAll N l)
def Ap1 (l:Law):Prop:=okL l/\chk 40 [l.Left]/\chk 40 [l.Right]/\l.If.n<=4/\Ap0 l/\l.If.n+l.Out.n≠0/\1<=l.Mode/\l.Mode<=3
theorem chkAll.f {N:Nat}{l:Law}(hl:Hx l)(h:chkAll N l):Ap1 l:=by obtain⟨_,h1,b,c,d,g,j,m,o,n⟩:=h;exact⟨hl.1,h1,b,c,⟨d,fun i a=>⟨hl.2.2.2.2 i a,ZJ (hl.2.2.2.2 i a) (n i a)⟩⟩,g,j,m⟩
theorem MU {N:Nat}(hN:3000000<=N){l:Law}(hl:Hx l):∃e,Q8 N l=some e/\Am1 N l e:=by
 have u:=hl.2.1;have v:=hl.2.2.1;have x:=hl.2.2.2.1;unfold Q8;obtain⟨b0,e0,e0'⟩:=QA (N:=N) (s:=l.Name) (by omega) (by omega);refine B1 e0 ?_;cases b0
 ·exact ifT rfl ⟨17,rfl,.inr ⟨rfl,fun h=>by have:=h.1;rw[e0']at this;cases this⟩⟩
 refine ifF (by simp) ?_;obtain⟨y2,e2,o⟩:=Ox (N:=N) (by omega) hl.1.1;refine B1 e2 ?_;by_cases c2:y2=0
 case neg=>exact ifT (by simpa using c2) ⟨17,rfl,.inr ⟨rfl,fun h=>c2 (o.2 h.2.1)⟩⟩
 refine ifF (by simp[c2]) ?_;obtain⟨y3,e3,q⟩:=Ox (N:=N) (by omega) hl.1.2.1;refine B1 e3 ?_;by_cases c3:y3=0
 case neg=>exact ifT (by simpa using c3) ⟨17,rfl,.inr ⟨rfl,fun h=>c3 (q.2 h.2.2.1)⟩⟩
 refine ifF (by simp[c3]) ?_;by_cases c4:4<l.If.n
 ·exact ifT (by simp;omega) ⟨17,rfl,.inr ⟨rfl,fun h=>by have:=h.2.2.2.1;omega⟩⟩
 refine ifF (by simp;omega) ?_;by_cases c5:6<l.Out.n
 ·exact ifT (by simp;omega) ⟨17,rfl,.inr ⟨rfl,fun h=>by have:=h.2.2.2.2.1;omega⟩⟩
 refine ifF (by simp;omega) ?_;rw[Cq (by omega)];by_cases c6:l.If.n+l.Out.n=0
 ·exact ifT (by rw[c6];rfl) ⟨17,rfl,.inr ⟨rfl,fun h=>h.2.2.2.2.2.1 c6⟩⟩
 refine ifF (by simp;omega) ?_;by_cases c7:l.Mode<1 \/ 3<l.Mode
 ·exact ifT (by simp;omega) ⟨17,rfl,.inr ⟨rfl,fun h=>by have g1:=h.2.2.2.2.2.2.1;have g2:=h.2.2.2.2.2.2.2.1;omega⟩⟩
 refine ifF (by simp;omega) ?_;have y:∀i,∃b,i<l.If.n->W6 N (l.If.g i)=some b/\(b=true ↔ ¬vS (l.If.g i)):=by
  intro i;by_cases a:i<l.If.n
  ·obtain⟨b,eb,hb⟩:=Vn (N:=N) (hl.1.2.2 i a);refine⟨!b,fun _=>⟨by unfold W6;rw[eb];rfl,?_⟩⟩;rw[<- hb];simp
  ·exact⟨false,fun h=>absurd h a⟩
 obtain⟨f,j⟩:=AF8 y;obtain⟨y4,e4,r⟩:=IQ (N:=N) (w:=l.If) (by omega) (by omega) (f:=fun u1=>W6 N u1) (fun i a=>(j i a).1);refine B1 e4 ?_;cases c:y4
 case true=>obtain⟨i,a,hb⟩:=r.1 c;exact ifT rfl ⟨17,rfl,.inr ⟨rfl,fun h=>(j i a).2.1 hb (h.2.2.2.2.2.2.2.2.1 i a)⟩⟩
 refine ifF (by simp) ?_;have z:∀i,∃b,i<l.Out.n->W5 N (l.Out.g i) (l.If.n:Int)=some b/\(b=true ↔ ¬R8 N (l.Out.g i) l.If.n=some true):=by
  intro i;by_cases a:i<l.Out.n
  ·obtain⟨b,eb,_⟩:=Ua (N:=N) (by omega) (hl.2.2.2.2 i a) (l.If.n:Int);refine⟨!b,fun _=>⟨by unfold W5;rw[eb];rfl,?_⟩⟩;rw[eb];simp
  ·exact⟨false,fun h=>absurd h a⟩
 obtain⟨g,m⟩:=AF8 z;obtain⟨y5,e5,t⟩:=QB (N:=N) (s:=l.Out) (by omega) (by omega) (f:=fun u2=>W5 N u2 (l.If.n:Int)) (fun i a=>(m i a).1);refine B1 e5 ?_;cases d:y5
 case true=>obtain⟨i,a,hb⟩:=t.1 d;exact ifT rfl ⟨17,rfl,.inr ⟨rfl,fun h=>(m i a).2.1 hb (h.2.2.2.2.2.2.2.2.2 i a)⟩⟩
 refine ifF (by simp) ⟨0,rfl,.inl ⟨rfl,e0',o.1 c2,q.1 c3,by omega,by omega,c6,by omega,by omega,fun i a=>?_,fun i a=>?_⟩⟩
 ·refine AB6 fun hn=>?_
  have:=r.2 ⟨i,a,(j i a).2.2 hn⟩
  rw[c]at this;cases this
 ·refine AB6 fun hn=>?_
  have:=t.2 ⟨i,a,(m i a).2.2 hn⟩
  rw[d]at this;cases this
theorem Vp {N:Nat}(y:3000000<=N){l:Law}(hl:Hx l):∃e,Cb N l=some e/\Am1 N l e:=by
 have u:=hl.2.1;have v:=hl.2.2.1;have w:=hl.2.2.2.1;unfold Cb;obtain⟨b0,e0,e0'⟩:=QA (N:=N) (s:=l.Name) (by omega) (by omega);refine B1 e0' (ltX ?_);cases b0
 ·exact ifT rfl (ifT rfl ⟨17,rfl,.inr ⟨rfl,fun h=>by have:=h.1;rw[e0']at this;cases this⟩⟩)
 refine ifF (by simp) ?_;obtain⟨y2,e2,q⟩:=KW (N:=N) (by omega) hl.1.1;refine B1 e2 ?_;by_cases c2:y2=0
 case neg=>exact ifT (by simpa using c2) (ifT rfl ⟨17,rfl,.inr ⟨rfl,fun h=>c2 (q.2 h.2.1)⟩⟩)
 refine ifF (by simp[c2]) ?_;obtain⟨y3,e3,r⟩:=KW (N:=N) (by omega) hl.1.2.1;refine B1 e3 ?_;by_cases c3:y3=0
 case neg=>exact ifT (by simpa using c3) ⟨17,rfl,.inr ⟨rfl,fun h=>c3 (r.2 h.2.2.1)⟩⟩
 refine ifF (by simp[c3]) ?_;rw[Cq (by omega)];by_cases a:l.If.n<=4/\l.Out.n<=6/\l.If.n+l.Out.n≠0/\1<=l.Mode/\l.Mode<=3
 case neg=>refine ifT ?_ ⟨17,rfl,.inr ⟨rfl,fun h=>a ⟨h.2.2.2.1,h.2.2.2.2.1,h.2.2.2.2.2.1,h.2.2.2.2.2.2.1,h.2.2.2.2.2.2.2.1⟩⟩⟩;simp only[AA0,decide_eq_true_eq,beq_iff_eq];omega
 refine ifF (by simp only[AA0,decide_eq_true_eq,beq_iff_eq];omega) ?_;obtain⟨c4,c5,c6,c7,c8⟩:=a;refine BA (fun i x1=>x1=(i:Int)/\∀j,j<i->vS (l.If.g j)) l.If.n _ (by omega) ⟨rfl,fun j c=>absurd c (by omega)⟩ ?_;rintro t i x1 z ⟨rfl,h⟩ hs;by_cases d:i<l.If.n
 ·obtain⟨b,eb,hb⟩:=Vo (N:=N) (by omega) (hl.1.2.2 i d);refine ifT (by simp;omega) (ifT (by omega) (B1 (by rw[Ay0];exact eb) ?_));cases b
  ·exact ifT rfl ⟨17,rfl,.inr ⟨rfl,fun h=>by have:=hb.2 (h.2.2.2.2.2.2.2.2.1 i d);cases this⟩⟩
  ·refine ifF (by simp) (hs d _ ⟨C0 (by omega),fun j c=>?_⟩);by_cases e:j=i
   ·subst e;exact hb.1 rfl
   ·exact h j (by omega)
 refine ifF (by simp;omega) ?_;have x:∀j,j<l.If.n->vS (l.If.g j):=fun j c=>h j (by omega);refine BA (fun i x1=>x1=(i:Int)/\∀j,j<i->R8 N (l.Out.g j) l.If.n=some true) l.Out.n _ (by omega) ⟨rfl,fun j c=>absurd c (by omega)⟩ ?_;rintro m k x2 hk ⟨rfl,h'⟩ o;by_cases f:k<l.Out.n
 ·obtain⟨b,eb,eb'⟩:=Ua (N:=N) (by omega) (hl.2.2.2.2 k f) (l.If.n:Int);refine ifT (by simp;omega) (ifT (by omega) (B1 (by rw[Ay0];exact eb') ?_));cases b
  ·exact ifT rfl ⟨17,rfl,.inr ⟨rfl,fun h=>by have:=h.2.2.2.2.2.2.2.2.2 k f;rw[eb]at this;cases this⟩⟩
  ·refine ifF (by simp) (o f _ ⟨C0 (by omega),fun j c=>?_⟩);by_cases e:j=k
   ·subst e;exact eb
   ·exact h' j (by omega)
 ·exact ifF (by simp;omega) ⟨0,rfl,.inl ⟨rfl,e0',q.1 c2,r.1 c3,c4,c5,c6,c7,c8,x,fun j c=>h' j (by omega)⟩⟩
theorem QC {N:Nat}{l:Law}{e e' : Int}(h:Am1 N l e)(h' : Am1 N l e'):e=e':=by
 rcases h with⟨rfl,h⟩ | ⟨rfl,h⟩<;>rcases h' with⟨rfl,h'⟩ | ⟨rfl,h'⟩
 ·rfl
 ·exact absurd h h'
 ·exact absurd h' h
 ·rfl
theorem Fi {N:Nat}(a:3000000<=N){l:Law}(hl:Hx l):∃e,Q8 N l=some e/\Cb N l=some e/\Am1 N l e:=by obtain⟨e,h,c⟩:=MU a hl;obtain⟨e',h',c'⟩:=Vp a hl;obtain rfl:=QC c c';exact⟨_,h,h',c⟩
end Go.AM
namespace Go.AM
open Go.Proofs
def PE:Pat->Pat->Prop
 |.nil,q=>q.Kind=0/\q.Is=default/\q.Not=false/\q.Min=0/\q.Max=0/\q.L.n=0
 |.mk k is no mn mx n g,q=>q.Kind=k/\q.Is=is/\q.Not=no/\q.Min=mn/\q.Max=mx/\q.L.n=n/\∀i,i<n->PE (g i) (q.L.g i)
theorem PE_of {p q:Pat}:PE p q↔q.Kind=p.Kind/\q.Is=p.Is/\q.Not=p.Not/\q.Min=p.Min/\q.Max=p.Max/\q.L.n=p.L.n/\∀i,i<p.L.n->PE (p.L.g i) (q.L.g i):=by
 cases p with
 |nil=>exact⟨fun h=>⟨h.1,h.2.1,h.2.2.1,h.2.2.2.1,h.2.2.2.2.1,h.2.2.2.2.2,fun i a=>absurd a (AC1 i)⟩,fun h=>⟨h.1,h.2.1,h.2.2.1,h.2.2.2.1,h.2.2.2.2.1,h.2.2.2.2.2.1⟩⟩
 |mk k is no mn mx n g=>exact AG4
theorem SB:∀p:Pat,PE p p
 |.nil=>⟨rfl,rfl,rfl,rfl,rfl,rfl⟩
 |.mk k is no mn mx n g=>⟨rfl,rfl,rfl,rfl,rfl,rfl,fun i _=>SB (g i)⟩
theorem SD:∀{p q:Pat},PE p q->PE q p
 |.nil,q,h=>PE_of.2 ⟨h.1.symm,h.2.1.symm,h.2.2.1.symm,h.2.2.2.1.symm,h.2.2.2.2.1.symm,h.2.2.2.2.2.symm,fun i a=>absurd a (by rw[h.2.2.2.2.2];exact AC1 i)⟩
 |.mk k is no mn mx n g,q,h=>PE_of.2 ⟨h.1.symm,h.2.1.symm,h.2.2.1.symm,h.2.2.2.1.symm,h.2.2.2.2.1.symm,h.2.2.2.2.2.1.symm,fun i a=>SD (h.2.2.2.2.2.2 i (by rw[<- h.2.2.2.2.2.1];exact a))⟩
theorem MV {n:Nat}{Q Q' : Nat->Nat->Nat->Prop}:∀{m:Nat},(∀i,i<m->Q i=Q' i)->Vd n Q m=Vd n Q' m
 |0,_=>rfl
 |m+1,h=>by funext a b;simp only[Vd];rw[MV fun i c=>h i (by omega),h m (by omega)]
theorem Am2 {w:Sl Sound}:∀(d:Nat) {p q:Pat},okP d p->PE p q->PR w p=PR w q
 |0,p,q,h,_=>h.elim
 |d+1,p,q,h,e=>by
  obtain⟨e1,e2,e3,e4,e5,e6,e7⟩:=PE_of.1 e;have ih:∀i,i<p.L.n->PR w (p.L.g i)=PR w (q.L.g i):=fun i c=>Am2 d (h.2.2 i c) (e7 i c);funext a b;apply propext;rw[Jf,Jf,e1,e2,e3,e4,e5,e6];have j:Vd w.n (fun i=>PR w (p.L.g i)) p.L.n=Vd w.n (fun i=>PR w (q.L.g i)) p.L.n:=MV ih;have l:(∃i,i<p.L.n/\PR w (p.L.g i) a b) ↔ ∃i,i<p.L.n/\PR w (q.L.g i) a b:=⟨fun⟨i,c,g⟩=>⟨i,c,by rw[<- ih i c];exact g⟩,fun⟨i,c,g⟩=>⟨i,c,by rw[ih i c];exact g⟩⟩;rw[j,l];by_cases f:p.Kind=5
  ·have:=(h.2.1 f).1
   rw[ih 0 (by omega)]
  ·simp[f]
theorem ZK {p q:Pat}(e:PE p q):FC p↔FC q:=by obtain⟨e1,e2,e3,e4,e5,e6,_⟩:=PE_of.1 e;unfold FC;rw[e1,e2,e3,e4,e5,e6]
def PEs:List Pat->List Pat->Prop
 |[],[]=>True
 |p::l,q::m=>PE p q/\PEs l m
 |_,_=>False
theorem Xu:∀{a b c d:List Pat},PEs a b->PEs c d->PEs (a++c) (b++d)
 |[],[],_,_,_,h=>h
 |_::_,_::_,_,_,⟨h1,h2⟩,h=>⟨h1,Xu h2 h⟩
 |[],_::_,_,_,h,_=>h.elim
 |_::_,[],_,_,h,_=>h.elim
theorem QD {f g:Nat->Pat}:∀(l:List Nat),(∀i∈l,PE (f i) (g i))->PEs (l.map f) (l.map g)
 |[],_=>trivial
 |i::l,h=>⟨h i (by simp),QD l fun j a=>h j (by simp[a])⟩
theorem Ad4:∀(k:Nat) (l m:List Pat),PEs l m->(chk k l↔chk k m)
 |0,[],[],_=>AG4
 |0,p::l,q::m,_=>⟨fun h=>(by cases h),fun h=>by cases h⟩
 |k+1,[],[],_=>AG4
 |k+1,p::l,q::m,⟨h1,h2⟩=>by
  obtain⟨_,_,_,_,_,e6,e7⟩:=PE_of.1 h1;show FC p/\chk k (p.L.toList++l)↔FC q/\chk k (q.L.toList++m);rw[ZK h1,Ad4 k _ _ (Xu (c:=l) (d:=m) (show PEs p.L.toList q.L.toList by unfold Sl.toList;rw[e6];exact QD _ fun i a=>e7 i (AE3.1 a)) h2)]
 |_,[],_::_,h=>h.elim
 |_,_::_,[],h=>h.elim
theorem Ig {p q:Pat}(h:PE p q):chk 40 [p]↔chk 40 [q]:=Ad4 40 [p] [q] ⟨h,trivial⟩
theorem okPS_of {p:Pat}:okPS p↔okS p.Is/\∀i,i<p.L.n->okPS (p.L.g i):=by
 cases p with
 |nil=>exact⟨fun _=>⟨⟨0#32,0#32,rfl⟩,fun i a=>absurd a (AC1 i)⟩,fun _=>trivial⟩
 |mk k is no mn mx n g=>exact AG4
theorem La:∀{p q:Pat},PE p q->okPS p->okPS q
 |.nil,q,h,_=>okPS_of.2 ⟨by rw[h.2.1];exact⟨0#32,0#32,rfl⟩,fun i a=>absurd a (by rw[h.2.2.2.2.2];exact AC1 i)⟩
 |.mk k is no mn mx n g,q,h,hp=>okPS_of.2 ⟨by rw[h.2.1];exact hp.1,fun i a=>by
  have a:i<n:=by rw[<- h.2.2.2.2.2.1];exact a
  exact La (h.2.2.2.2.2.2 i a) (hp.2 i a)⟩
end Go.AM
namespace Go.AM
open IntKind (wrap)
open Go.Proofs
theorem nf:(!false)=true:=rfl
theorem Ap2 {α : Type}{s t:Sl α}(h:s.n=0):s.app t=t:=by cases t;simp[Sl.app,h]
def Ad5 {α : Type}[Inhabited α](s:Sl (Sl α)):Nat->Sl α
 |0=>Sl.nil
 |k+1=>(Ad5 s k).app (s.g k)
theorem Ad6 {α : Type}[Inhabited α](s:Sl (Sl α)){B:Nat}:∀k,(∀i,i<k->(s.g i).n<=B)->(Ad5 s k).n<=k*B
 |0,_=>by simp[Ad5]
 |k+1,h=>by
  have:=Ad6 s k fun i a=>h i (by omega)
  have:=h k (by omega)
  show (Ad5 s k).n+(s.g k).n<=_;rw[AK2];omega
theorem SF {N:Nat}{s:Sl (Sl Sound)}(hn:s.n<1000)(d:1000<=N)(hs:∀i,i<s.n->(s.g i).n<=3000000) :A7 N s=some (Ad5 s s.n):=by
 suffices h:∃r,A7 N s=some r/\r=Ad5 s s.n by obtain⟨r,h,rfl⟩:=h;exact h
 unfold A7;refine N8 (fun (i:Nat) (x1 x2:Int)=>x2=(i:Int)/\0<=x1/\x1<=(i:Int)*3000000) s.n _ (by omega) ⟨rfl,Int.le_refl 0,by simp⟩ ?_;rintro b i x1 x2 c ⟨rfl,f,h1⟩ a;by_cases hl:i<s.n
 ·have:=hs i hl
  refine ifT (by simp;omega) (ifT (by omega) ?_);rw[Ay0,D3 (by omega) (by omega)];exact ifF (by simp;omega) (a hl _ _ ⟨C0 (by omega),by omega,by omega⟩)
 refine ifF (by simp;omega) (B1 (x:=Sl.nil) ?_ ?_)
 ·unfold G7;rw[if_pos (by omega)]
 refine N8 (fun i x1 x2=>x2=(i:Int)/\x1=Ad5 s i) s.n _ (by omega) ⟨rfl,rfl⟩ ?_;rintro b i x1 x2 c ⟨rfl,rfl⟩ a;by_cases hl:i<s.n
 ·have g1:=hs i hl;have g2:=Ad6 s i (B:=3000000) fun j l=>hs j (by omega);refine ifT (by simp;omega) (ifT ⟨by omega,?_⟩ (a hl _ _ ⟨C0 (by omega),?_⟩))
  ·rw[Ay0];omega
  ·rw[Ay0];rfl
 ·exact ifF (by simp;omega) ⟨_,rfl,by congr 1;omega⟩
def Ap3 (w:Sl Sound)(i k:Nat)(y:Sl Sound):Sl Sound:=((w.take i).app y).app (w.drop (i+k))
theorem Xv {w y:Sl Sound}{i k:Nat}(b:i+k<=w.n)(hw:∀j,j<w.n->vS (w.g j))(hy:∀j,j<y.n->vS (y.g j)):(Ap3 w i k y).n=w.n-k+y.n/\∀j,j<(Ap3 w i k y).n->vS ((Ap3 w i k y).g j):=by
 have hn:(Ap3 w i k y).n=w.n-k+y.n:=by show i+y.n+(w.n-(i+k))=_;omega
 refine⟨hn,fun j a=>?_⟩;rw[hn]at a;show vS (if j<i+y.n then (if j<i then w.g j else y.g (j-i))else w.g (i+k+(j-(i+y.n))));split
 ·split
  ·exact hw _ (by omega)
  ·exact hy _ (by omega)
 ·exact hw _ (by omega)
def FD (N:Nat)(l:Law)(w:Sl Sound)(i:Nat):Sl Sound:=(K6 N l (w.sub i (i+l.If.n))).getD Sl.nil
def V2 (N:Nat)(l:Law)(w:Sl Sound)(i:Nat):Sl Sound:=Ap3 w i l.If.n (FD N l w i)
theorem vOk {w:Sl Sound}(h:wOk w):okW w:=⟨by have:=h.1;omega,fun i a=>(h.2 i a).ok⟩
theorem Fj {N:Nat}(a:1000<=N){l:Law}(b:Ap0 l){w:Sl Sound}(hw:∀j,j<w.n->vS (w.g j)){i:Nat}(o:i+l.If.n<=w.n) :K6 N l (w.sub i (i+l.If.n))=some (FD N l w i)/\Cd N l (w.sub i (i+l.If.n))=some (FD N l w i)/\(FD N l w i).n=l.Out.n/\∀j,j<(FD N l w i).n->vS ((FD N l w i).g j):=by
 obtain⟨s,h1,c,d,f⟩:=Am0 a b (cut:=w.sub i (i+l.If.n)) (by show i+l.If.n-i=_;omega) fun j m=>(hw (i+j) (by have:j<i+l.If.n-i:=m;omega)).ok;have e:FD N l w i=s:=by unfold FD;rw[h1];rfl
 rw[e];exact⟨h1,c,d,f⟩
theorem cat3 (a b c:Sl Sound):Ad5 (Sl.of [a,b,c]:Sl (Sl Sound)) 3=(a.app b).app c:=by show (((Sl.nil:Sl Sound).app a).app b).app c=_;rw[Ap2 (s:=(Sl.nil:Sl Sound)) rfl]
theorem Xw {N:Nat}(d:1000<=N){a b c:Sl Sound}(ha:a.n<=3000000)(hb:b.n<=3000000)(hc:c.n<=3000000):A7 N (Sl.of [a,b,c]:Sl (Sl Sound))=some ((a.app b).app c):=by
 have h:=SF (N:=N) (s:=(Sl.of [a,b,c]:Sl (Sl Sound))) (by show 3<1000;omega) d fun i f=>by
  match i,f with
  |0,_=>exact ha
  |1,_=>exact hb
  |2,_=>exact hc
 rw[h];exact congrArg some (cat3 a b c)
theorem Ef {N:Nat}(a:1000<=N){l:Law}(b:Ap0 l){w:Sl Sound}(c:w.n<1000)(hw:∀j,j<w.n->vS (w.g j)){i:Nat}(d:i+l.If.n<=w.n) :O8 N l w i=some (V2 N l w i)/\W2 N l w i=some (V2 N l w i):=by
 obtain⟨h1,f,m,o⟩:=Fj a b hw d;have q:=b.1;constructor
 ·unfold O8;rw[Cq (by omega),if_pos (by omega),Ay0,Ay0,h1,Ay4,if_pos (by omega),
   Xw a (by show i<=_;omega) (by omega) (by show w.n-(i+l.If.n)<=_;omega)]
  rfl
 ·unfold W2;rw[Cq (by omega),Ay0,Ay0,Ap2 (s:=(Sl.of []:Sl Sound)) rfl,if_pos ⟨by omega,by show (0+i)*8<=_/\0+i<=_;omega⟩,if_pos (by omega),f,Ay4,
   if_pos (by show (i+(FD N l w i).n)*8<=_/\i+(FD N l w i).n<=_;omega),if_pos ⟨by omega,by show (i+(FD N l w i).n+(w.n-(i+l.If.n)))*8<=_/\i+(FD N l w i).n+(w.n-(i+l.If.n))<=_;omega⟩]
  rfl
def SE {α : Type}(s t:Sl α):Prop:=s.n=t.n/\∀i,i<s.n->s.g i=t.g i
theorem SE.refl {α : Type}(s:Sl α):SE s s:=⟨rfl,fun _ _=>rfl⟩
theorem SE.symm {α : Type}{s t:Sl α}(h:SE s t):SE t s:=⟨h.1.symm,fun i a=>(h.2 i (by rw[h.1];exact a)).symm⟩
theorem SE.trans {α : Type}{s t u:Sl α}(h:SE s t)(h' : SE t u):SE s u:=⟨h.1.trans h'.1,fun i a=>(h.2 i a).trans (h'.2 i (by rw[<- h.1];exact a))⟩
theorem SE.app {α : Type}{s t u v:Sl α}(h:SE s t)(h' : SE u v):SE (s.app u) (t.app v):=⟨by show s.n+u.n=t.n+v.n;rw[h.1,h'.1],fun i a=>by
 show (if i<s.n then s.g i else u.g (i-s.n))=if i<t.n then t.g i else v.g (i-t.n)
 have a:i<s.n+u.n:=a;rw[<- h.1];split
 ·exact h.2 i (by assumption)
 ·exact h'.2 _ (by omega)⟩
theorem SE.drop {α : Type}{s t:Sl α}(h:SE s t)(k:Nat):SE (s.drop k) (t.drop k):=⟨by show s.n-k=t.n-k;rw[h.1],fun i a=>by have a:i<s.n-k:=a;exact h.2 _ (by omega)⟩
theorem SE.take {α : Type}{s t:Sl α}(h:SE s t){k:Nat}(hk:k<=s.n):SE (s.take k) (t.take k):=⟨rfl,fun i a=>h.2 i (by have a:i<k:=a;omega)⟩
theorem SE.sub {α : Type}{s t:Sl α}(h:SE s t){a b:Nat}(hk:b<=s.n):SE (s.sub a b) (t.sub a b):=⟨rfl,fun i c=>h.2 _ (by have c:i<b-a:=c;omega)⟩
theorem SE.v {s t:Sl Sound}(h:SE s t)(b:∀j,j<s.n->vS (s.g j)):∀j,j<t.n->vS (t.g j):=fun j a=>by rw[<- h.2 j (by rw[h.1];exact a)];exact b j (by rw[h.1];exact a)
theorem SE.wOk {s t:Sl Sound}(h:SE s t)(a:wOk s):wOk t:=⟨by rw[<- h.1];exact a.1,h.v a.2⟩
theorem OA {w w' : Sl Sound}(h:SE w w'):∀p:Pat,PR w p=PR w' p
 |.nil=>rfl
 |.mk kind is no mn mx m g=>by
  have ih:(fun i=>PR w (g i))=fun i=>PR w' (g i):=funext fun i=>OA h (g i);have ih1:∀i,PR w (g i)=PR w' (g i):=fun i=>congrFun ih i;have e1:∀a,(a<w.n↔a<w'.n):=fun a=>by rw[h.1]
  funext a b;unfold PR;rw[ih];simp only[ih1,<- h.1];by_cases ha:a<w.n
  ·rw[h.2 a ha]
  ·simp[ha]
theorem Vq {l:Law}{w w' : Sl Sound}(h:SE w w'){i:Nat}:MT l w i↔MT l w' i:=by
 suffices H:∀{w w' : Sl Sound},SE w w' -> MT l w i->MT l w' i by exact⟨H h,H h.symm⟩
 intro w w' h;rintro⟨h1,f,g,m,n,q,⟨a,ha,c⟩,b,hb,d⟩;have hn:=h.1;refine⟨by omega,fun j o=>?_,g,m,h.wOk n,by omega,⟨a,by omega,?_⟩,b,by omega,?_⟩
 ·rw[<- h.2 (i+j) (by omega)];exact f j o
 ·rw[<- OA h];exact c
 ·rw[<- OA h];exact d
structure LE (l l' : Law):Prop where
 name:l'.Name=l.Name
 left:PE l.Left l'.Left
 right:PE l.Right l'.Right
 cond:SE l.If l'.If
 out:SE l.Out l'.Out
 mode:l'.Mode=l.Mode
theorem LE.refl (l:Law):LE l l:=⟨rfl,SB _,SB _,SE.refl _,SE.refl _,rfl⟩
theorem LE.symm {l l' : Law}(h:LE l l'):LE l' l:=⟨h.name.symm,SD h.left,SD h.right,h.cond.symm,h.out.symm,h.mode.symm⟩
theorem Am3 {l l' : Law}(h:LE l l'){w:Sl Sound}{i:Nat}:MT l w i↔MT l' w i:=by
 suffices H:∀{l l' : Law},LE l l' -> MT l w i->MT l' w i by exact⟨H h,H h.symm⟩
 intro l l' h;rintro⟨h1,m,f,g,n,o,⟨a,ha,c⟩,b,hb,d⟩;have hn:=h.cond.1;refine⟨by omega,fun j q=>?_,(Ig h.left).1 f,(Ig h.right).1 g,n,by omega,⟨a,ha,?_⟩,b,hb,?_⟩
 ·rw[<- h.cond.2 j (by omega)];exact m j (by omega)
 ·rw[<- Am2 40 (KV 40 _ (by omega) f _ (by simp)) h.left];exact c
 ·rw[<- hn,<- Am2 40 (KV 40 _ (by omega) g _ (by simp)) h.right];exact d
theorem Gw {l l' : Law}(e:LE l l'){w w' : Sl Sound}(h:SE w w'){i:Nat}:MT l w i↔MT l' w' i:=(Am3 e).trans (Vq h)
theorem Jq {l l' : Law}(h:LE l l')(hl:Hx l):Hx l':=by obtain⟨⟨h1,a,b⟩,c,g,j,d⟩:=hl;have m:=h.cond.1;have n:=h.out.1;exact⟨⟨La h.left h1,La h.right a,fun i f=>by rw[<- h.cond.2 i (by omega)];exact b i (by omega)⟩,by rw[h.name];exact c,by omega,by omega,fun i f=>by rw[<- h.out.2 i (by omega)];exact d i (by omega)⟩
theorem Am4 {l l' : Law}(h:LE l l')(hl:Ap0 l):Ap0 l':=by have a:=h.cond.1;have b:=h.out.1;exact⟨by rw[<- b];exact hl.1,fun i c=>by rw[<- h.out.2 i (by omega),<- a];exact hl.2 i (by omega)⟩
theorem SH {l l' : Law}(h:LE l l')(hl:Ap1 l):Ap1 l':=by obtain⟨⟨h1,a,b⟩,c,d,j,f,m,n,g⟩:=hl;have o:=h.cond.1;have q:=h.out.1;have hm:=h.mode;exact⟨⟨La h.left h1,La h.right a,fun i r=>by rw[<- h.cond.2 i (by omega)];exact b i (by omega)⟩,(Ig h.left).1 c,(Ig h.right).1 d,by omega,Am4 h f,by omega,by omega,by omega⟩
theorem Hy {N:Nat}{l l' : Law}(h:LE l l'):chkAll N l↔chkAll N l':=by
 suffices H:∀{l l' : Law},LE l l' -> chkAll N l->chkAll N l' by exact⟨H h,H h.symm⟩
 rintro l l' h ⟨h1,b,c,j,m,n,o,q,d,a⟩;have f:=h.cond.1;have r:=h.out.1;have hm:=h.mode;exact⟨by rw[h.name];exact h1,(Ig h.left).1 b,(Ig h.right).1 c,by omega,by omega,by omega,by omega,by omega,
  fun i g=>by rw[<- h.cond.2 i (by omega)];exact d i (by omega),fun i g=>by rw[<- h.out.2 i (by omega),<- f];exact a i (by omega)⟩
theorem Am5 {N:Nat}{l l' : Law}(h:LE l l'){e:Int}(b:Am1 N l e):Am1 N l' e:=by
 rcases b with⟨h1,a⟩ | ⟨h1,a⟩
 ·exact .inl ⟨h1,(Hy h).1 a⟩
 ·exact .inr ⟨h1,fun g=>a ((Hy h).2 g)⟩
theorem Xx {N:Nat}{l:Law}{c c' : Sl Sound}(h:SE c c'):K6 N l c=K6 N l c':=by
 unfold K6;congr 1;funext self x1 x2;by_cases h1:(decide (x2<(l.Out.n:Int)))=true
 case neg=>rw[if_neg h1,if_neg h1]
 rw[if_pos h1,if_pos h1,<- h.1];have e1:∀y:Int,(0:Int)<=y->y<(c.n:Int)->c.g y.toNat=c'.g y.toNat:=fun y i h1=>h.2 _ (by omega);by_cases b:(0:Int)<=x2/\x2<(l.Out.n:Int)
 case neg=>rw[if_neg b,if_neg b]
 rw[if_pos b,if_pos b];split
 ·rename_i f;have e2:(⟨(if (decide (0<=(l.Out.g x2.toNat).From)) then (c.g (l.Out.g x2.toNat).From.toNat).Plus else 0),(if (decide (0<=(l.Out.g x2.toNat).From)) then (c.g (l.Out.g x2.toNat).From.toNat).Minus else 0)⟩:Sound) =
   ⟨(if (decide (0<=(l.Out.g x2.toNat).From)) then (c'.g (l.Out.g x2.toNat).From.toNat).Plus else 0),(if (decide (0<=(l.Out.g x2.toNat).From)) then (c'.g (l.Out.g x2.toNat).From.toNat).Minus else 0)⟩:=by
   by_cases a:decide (0<=(l.Out.g x2.toNat).From)=true
   ·have:=f a
    rw[if_pos a,if_pos a,if_pos a,if_pos a,e1 _ this.1 this.2]
   ·rw[if_neg a,if_neg a,if_neg a,if_neg a]
  rw[e2];congr 1;funext y5;split
  ·split
   ·rename_i d;rw[e1 _ d.1 d.2]
   ·rfl
  ·rfl
 ·rfl
theorem Vr {N:Nat}{l l' : Law}(h:SE l.Out l'.Out)(c:Sl Sound):K6 N l c=K6 N l' c:=by
 unfold K6;congr 1;funext self x1 x2;rw[<- h.1];by_cases h1:(0:Int)<=x2/\x2<(l.Out.n:Int)
 ·rw[h.2 x2.toNat (by omega)]
 ·by_cases a:(decide (x2<(l.Out.n:Int)))=true
  ·rw[if_pos a,if_pos a,if_neg h1,if_neg h1]
  ·rw[if_neg a,if_neg a]
theorem Lb {N:Nat}{l l' : Law}(e:LE l l'){w w' : Sl Sound}(h:SE w w'){i:Nat}(a:i+l.If.n<=w.n):FD N l w i=FD N l' w' i:=by unfold FD;rw[Xx (h.sub a),Vr e.out,<- e.cond.1]
theorem IR {N:Nat}{l l' : Law}(e:LE l l'){w w' : Sl Sound}(h:SE w w'){i:Nat}(a:i+l.If.n<=w.n):SE (V2 N l w i) (V2 N l' w' i):=by unfold V2 Ap3;rw[Lb e h a,<- e.cond.1];exact ((h.take (by omega)).app (SE.refl _)).app (h.drop _)
def RL:List (Int×Sl Sound)->List (Int×Sl Sound)->Prop
 |[],[]=>True
 |(p,v)::L,(q,u)::M=>p=q/\SE v u/\RL L M
 |_,_=>False
def Ih:Sl Int->Sl (Sl Sound)->List (Int×Sl Sound)->Sl Int×Sl (Sl Sound)×Int
 |x,y,[]=>(x,y,0)
 |x,y,(p,v)::L=>if 32<v.n then (Sl.nil,Sl.nil,11)else Ih (x.push p) (y.push v) L
abbrev QE:=List (Int×Sl Sound)
def vL (L:QE):Prop:=∀x∈L,∀j,j<x.2.n->vS (x.2.g j)
theorem QF:vL []:=fun x hx=>absurd hx (by simp)
theorem SI {x:Int×Sl Sound}{L:QE}(h:∀j,j<x.2.n->vS (x.2.g j))(hL:vL L):vL (x::L):=fun y hy=>by
 rcases AB2.1 hy with rfl|hy
 ·exact h
 ·exact hL y hy
def QG (N:Nat)(l:Law)(a:Sl Sound->Int->Option QE)(x5:Sl Sound)(x6:Int):Option QE:=
 if (decide ((wrap .i64 (x6+(l.If.n:Int)))<=(x5.n:Int))) then
  (Bf N l x5 x6).bind fun c=>
  if (!c) then
   a x5 (wrap .i64 (x6+1))
  else
   (O8 N l x5 x6).bind fun b=>
   Bm (x6,b) (
    if ((l.If.n:Int)==0) then
     a b (wrap .i64 ((wrap .i64 (x6+(l.Out.n:Int)))+1))
    else
     a b (wrap .i64 (x6+(l.Out.n:Int)))
    )
 else
  some []
abbrev ZL:=(Sl Int)×(Sl (Sl Sound))×Int
def QH (N:Nat)(l:Law)(a:Sl Sound->Sl Int->Sl (Sl Sound)->Int->Option ZL)(x1:Sl Sound)(x2:Sl Int)(x3:Sl (Sl Sound))(x4:Int):Option ZL:=
 if (decide ((wrap .i64 (x4+(l.If.n:Int)))<=(x1.n:Int))) then
  (Bc N l x1 x4).bind fun y5=>
  if (!y5) then
   a x1 x2 x3 (wrap .i64 (x4+1))
  else
   (W2 N l x1 x4).bind fun y6=>
   if (decide (32<(y6.n:Int))) then
    some ((Sl.nil:Sl Int),(Sl.nil:Sl (Sl Sound)),11)
   else
    if (((x2.n+(Sl.of [x4]:Sl Int).n)*8<=140737488355328/\x2.n+(Sl.of [x4]:Sl Int).n<=140737488355328)/\((x3.n+(Sl.of [y6]:Sl (Sl Sound)).n)*24<=140737488355328/\x3.n+(Sl.of [y6]:Sl (Sl Sound)).n<=140737488355328))then
     if ((l.If.n:Int)==0) then
      a y6 (x2.push x4) (x3.push y6) (wrap .i64 ((wrap .i64 (x4+(l.Out.n:Int)))+1))
     else
      a y6 (x2.push x4) (x3.push y6) (wrap .i64 (x4+(l.Out.n:Int)))
    else none
 else
  some (x2,x3,0)
theorem Xy {N:Nat}(hN:3000<=N){l l' : Law}(hf:Ap1 l)(s:LE l l'):∀(m:Nat) (w w' : Sl Sound) (i:Nat),SE w w' -> w.n<=100->(∀j,j<w.n->vS (w.g j))->i<=200->w.n+1<=i+m ->
 ∃L L',(∀M,m<M->S5 M (QG N l) w i=some L)/\vL L/\L.length<=m/\RL L L' /\ ∀M x2 x3,m<M->x2.n+m<=1000->x3.n+m<=1000->YT M (QH N l') w' x2 x3 i=some (Ih x2 x3 L'):=by
 obtain⟨hl,_,_,hk,x,y,_,_⟩:=hf;have h6:=x.1;obtain⟨z,_,_,a0,a1,_,_,_⟩:=SH s ⟨hl,‹_›, ‹_›,hk,x,y,‹_›, ‹_›⟩;have c:l'.If.n=l.If.n:=s.cond.1.symm;have d:l'.Out.n=l.Out.n:=s.out.1.symm;intro m
 induction m with
 |zero=>
  intro w w' i a hn o hi hm;have a2:=a.1;refine⟨[],[],fun M q=>?_,QF,Ay6 _,trivial,fun M x2 x3 q _ _=>?_⟩
  ·obtain⟨M,rfl⟩:∃K,M=K+1:=⟨M-1,by omega⟩;rw[O4,QG,Cq (by omega),if_neg (by simp;omega)]
  ·obtain⟨M,rfl⟩:∃K,M=K+1:=⟨M-1,by omega⟩;rw[Q9,QH,c,d,Cq (by omega),if_neg (by simp;omega),Ih]
 |succ m ih=>
  intro w w' i a hn o hi hm;have a2:=a.1;by_cases hle:i+l.If.n<=w.n
  case neg=>
   refine⟨[],[],fun M q=>?_,QF,by simp,trivial,fun M x2 x3 q _ _=>?_⟩
   ·obtain⟨M,rfl⟩:∃K,M=K+1:=⟨M-1,by omega⟩;rw[O4,QG,Cq (by omega),if_neg (by simp;omega)]
   ·obtain⟨M,rfl⟩:∃K,M=K+1:=⟨M-1,by omega⟩;rw[Q9,QH,c,d,Cq (by omega),if_neg (by simp;omega),Ih]
  have hw:okW w:=⟨by omega,fun j hj=>(o j hj).ok⟩;have t:=a.v o;have hw' : okW w':=⟨by omega,fun j hj=>(t j hj).ok⟩;obtain⟨b,e1,h1⟩:=Xo hN hl hk hw i (by omega);obtain⟨b',e2,h2⟩:=Oy hN z a0 hw' i (by omega);obtain rfl:b' = b:=by rw[AA9,h1,h2,Gw s a]
  cases b'
  ·obtain⟨L,L',g1,g2,g3,g5,g4⟩:=ih w w' (i+1) a hn o (by omega) (by omega);refine⟨L,L',fun M q=>?_,g2,by omega,g5,fun M x2 x3 q hx hy=>?_⟩
   ·obtain⟨M,rfl⟩:∃K,M=K+1:=⟨M-1,by omega⟩;rw[O4,QG,Cq (by omega),if_pos (by simp;omega),e1,Ay4,if_pos nf,C0 (by omega)];exact g1 M (by omega)
   ·obtain⟨M,rfl⟩:∃K,M=K+1:=⟨M-1,by omega⟩;rw[Q9,QH,c,d,Cq (by omega),if_pos (by simp;omega),e2,Ay4,if_pos nf,C0 (by omega)];exact g4 M x2 x3 (by omega) (by omega) (by omega)
  ·have hit:=h1.1 rfl;have hw32:=hit.2.2.2.2.1.1;have r1:=(Ef (N:=N) (by omega) x (by omega) o hle).1;have r2:=(Ef (N:=N) (l:=l') (w:=w') (i:=i) (by omega) a1 (by omega) t (by omega)).2;have r:=IR (N:=N) s a hle;have hrn:=r.1;obtain⟨_,_,p3,p4⟩:=Fj (N:=N) (by omega) x o hle;obtain⟨q1,q2⟩:=Xv hle o p4;have q1:(V2 N l w i).n=w.n-l.If.n+l.Out.n:=by rw[<- p3];exact q1
   have q2:∀j,j<(V2 N l w i).n->vS ((V2 N l w i).g j):=q2;obtain⟨L,L',g1,g2,g3,g5,g4⟩:=ih (V2 N l w i) (V2 N l' w' i) (if l.If.n=0 then i+l.Out.n+1 else i+l.Out.n) r (by omega) q2 (by split<;>omega) (by split<;>omega);refine⟨((i:Int),V2 N l w i)::L,((i:Int),V2 N l' w' i)::L',fun M q=>?_,SI q2 g2,by simp;omega,⟨rfl,r,g5⟩,fun M x2 x3 q hx hy=>?_⟩
   ·obtain⟨M,rfl⟩:∃K,M=K+1:=⟨M-1,by omega⟩;rw[O4,QG,Cq (by omega),if_pos (by simp;omega),e1,Ay4,if_neg (by simp),r1,Ay4,Cq (by omega),C0 (by omega)];have g1:=g1 M (by omega);by_cases f:l.If.n=0
    ·rw[if_pos f]at g1;rw[if_pos (by simp[f]),g1];rfl
    ·rw[if_neg f]at g1;rw[if_neg (by simp[f]),g1];rfl
   ·obtain⟨M,rfl⟩:∃K,M=K+1:=⟨M-1,by omega⟩;rw[Q9,QH,c,d,Cq (by omega),if_pos (by simp;omega),e2,Ay4,if_neg (by simp),r2,Ay4,Cq (by omega),C0 (by omega),Ih];by_cases u:32<(V2 N l' w' i).n
    ·rw[if_pos (by simp;omega),if_pos u]
    rw[if_neg (by simp;omega),if_neg u,if_pos (by show ((x2.n+1)*8<=_/\x2.n+1<=_)/\(x3.n+1)*24<=_/\x3.n+1<=_;omega)];have g4:=g4 M (x2.push (i:Int)) (x3.push (V2 N l' w' i)) (by omega) (by show x2.n+1+m<=_;omega) (by show x3.n+1+m<=_;omega);by_cases f:l.If.n=0
    ·rw[if_pos f]at g4;rw[if_pos (by simp[f]),g4]
    ·rw[if_neg f]at g4;rw[if_neg (by simp[f]),g4]
def Xz (N:Nat)(l:Law)(a:Sl Sound->Int->Option QE)(x7:Sl Sound)(x8:Int):Option QE:=
 if (decide (0<=x8)) then
  (Bf N l x7 x8).bind fun c=>
  if (!c) then
   a x7 (wrap .i64 (x8-1))
  else
   (O8 N l x7 x8).bind fun b=>
   Bm (x8,b) (
    a b (wrap .i64 (x8-(if (l.If.n:Int)<1 then 1 else (l.If.n:Int))))
    )
 else
  some []
def XA (N:Nat)(l:Law)(a:Sl Sound->Sl Int->Sl (Sl Sound)->Int->Option ZL)(x1:Sl Sound)(x2:Sl Int)(x3:Sl (Sl Sound))(x4:Int):Option ZL:=
 if (decide (0<=x4)) then
  (Bc N l x1 x4).bind fun y5=>
  if (!y5) then
   a x1 x2 x3 (wrap .i64 (x4-1))
  else
   (W2 N l x1 x4).bind fun y6=>
   if (decide (32<(y6.n:Int))) then
    some ((Sl.nil:Sl Int),(Sl.nil:Sl (Sl Sound)),11)
   else
    if (((x2.n+(Sl.of [x4]:Sl Int).n)*8<=140737488355328/\x2.n+(Sl.of [x4]:Sl Int).n<=140737488355328)/\((x3.n+(Sl.of [y6]:Sl (Sl Sound)).n)*24<=140737488355328/\x3.n+(Sl.of [y6]:Sl (Sl Sound)).n<=140737488355328))then
     if ((l.If.n:Int)==0) then
      a y6 (x2.push x4) (x3.push y6) (wrap .i64 ((wrap .i64 (x4-(l.If.n:Int)))-1))
     else
      a y6 (x2.push x4) (x3.push y6) (wrap .i64 (x4-(l.If.n:Int)))
    else none
 else
  some (x2,x3,0)
theorem ZM {N:Nat}(hN:3000<=N){l l' : Law}(hf:Ap1 l)(r:LE l l'):∀(m:Nat) (w w' : Sl Sound) (i:Int),SE w w' -> w.n<=100->(∀j,j<w.n->vS (w.g j)) -> -100<=i->i+1<=m->m<=200 ->
 ∃L L',(∀M,m<M->S5 M (Xz N l) w i=some L)/\vL L/\L.length<=m/\RL L L' /\ ∀M x2 x3,m<M->x2.n+m<=1000->x3.n+m<=1000->YT M (XA N l') w' x2 x3 i=some (Ih x2 x3 L'):=by
 obtain⟨hl,_,_,hk,x,y,_,_⟩:=hf;have h6:=x.1;obtain⟨z,_,_,a0,a1,_,_,_⟩:=SH r ⟨hl,‹_›, ‹_›,hk,x,y,‹_›, ‹_›⟩;have c:l'.If.n=l.If.n:=r.cond.1.symm;have hof:l'.Out.n=l.Out.n:=r.out.1.symm;intro m
 induction m with
 |zero=>
  intro w w' i a hn d hi hm a2;have a3:=a.1;refine⟨[],[],fun M f=>?_,QF,Ay6 _,trivial,fun M x2 x3 f _ _=>?_⟩
  ·obtain⟨M,rfl⟩:∃K,M=K+1:=⟨M-1,by omega⟩;rw[O4,Xz,if_neg (by simp;omega)]
  ·obtain⟨M,rfl⟩:∃K,M=K+1:=⟨M-1,by omega⟩;rw[Q9,XA,c,if_neg (by simp;omega),Ih]
 |succ m ih=>
  intro w w' i a hn d hi hm a2;have a3:=a.1;by_cases hle:0<=i
  case neg=>
   refine⟨[],[],fun M f=>?_,QF,by simp,trivial,fun M x2 x3 f _ _=>?_⟩
   ·obtain⟨M,rfl⟩:∃K,M=K+1:=⟨M-1,by omega⟩;rw[O4,Xz,if_neg (by simp;omega)]
   ·obtain⟨M,rfl⟩:∃K,M=K+1:=⟨M-1,by omega⟩;rw[Q9,XA,c,if_neg (by simp;omega),Ih]
  obtain⟨k,rfl⟩:∃k:Nat,i=(k:Int):=⟨i.toNat,by omega⟩;have hw:okW w:=⟨by omega,fun j hj=>(d j hj).ok⟩;have s:=a.v d;have hw' : okW w':=⟨by omega,fun j hj=>(s j hj).ok⟩;obtain⟨b,e1,h1⟩:=Xo hN hl hk hw k (by omega);obtain⟨b',e2,h2⟩:=Oy hN z a0 hw' k (by omega);obtain rfl:b' = b:=by rw[AA9,h1,h2,Gw r a]
  cases b'
  ·obtain⟨L,L',g1,g2,g3,g5,g4⟩:=ih w w' ((k:Int)-1) a hn d (by omega) (by omega) (by omega);refine⟨L,L',fun M f=>?_,g2,by omega,g5,fun M x2 x3 f hx hy=>?_⟩
   ·obtain⟨M,rfl⟩:∃K,M=K+1:=⟨M-1,by omega⟩;rw[O4,Xz,if_pos (by simp),e1,Ay4,if_pos nf,D3 (by omega) (by omega)];exact g1 M (by omega)
   ·obtain⟨M,rfl⟩:∃K,M=K+1:=⟨M-1,by omega⟩;rw[Q9,XA,c,if_pos (by simp),e2,Ay4,if_pos nf,D3 (by omega) (by omega)];exact g4 M x2 x3 (by omega) (by omega) (by omega)
  ·have t:=h1.1 rfl;have hle:=t.1;have hw32:=t.2.2.2.2.1.1;have r1:=(Ef (N:=N) (by omega) x (by omega) d hle).1;have r2:=(Ef (N:=N) (l:=l') (w:=w') (i:=k) (by omega) a1 (by omega) s (by omega)).2;have o:=IR (N:=N) r a hle;have hrn:=o.1;obtain⟨_,_,p3,p4⟩:=Fj (N:=N) (by omega) x d hle;obtain⟨q1,q2⟩:=Xv hle d p4;have q1:(V2 N l w k).n=w.n-l.If.n+l.Out.n:=by rw[<- p3];exact q1
   have q2:∀j,j<(V2 N l w k).n->vS ((V2 N l w k).g j):=q2;obtain⟨L,L',g1,g2,g3,g5,g4⟩:=ih (V2 N l w k) (V2 N l' w' k) (if l.If.n=0 then (k:Int)-1 else (k:Int)-l.If.n) o (by omega) q2 (by split<;>omega) (by split<;>omega) (by omega);refine⟨((k:Int),V2 N l w k)::L,((k:Int),V2 N l' w' k)::L',fun M f=>?_,SI q2 g2,by simp;omega,⟨rfl,o,g5⟩,fun M x2 x3 f hx hy=>?_⟩
   ·obtain⟨M,rfl⟩:∃K,M=K+1:=⟨M-1,by omega⟩;rw[O4,Xz,if_pos (by simp),e1,Ay4,if_neg (by simp),r1,Ay4];have g1:=g1 M (by omega);by_cases q:l.If.n=0
    ·rw[if_pos q]at g1;rw[if_pos (by omega),D3 (by omega) (by omega),g1];rfl
    ·rw[if_neg q]at g1;rw[if_neg (by omega),D3 (by omega) (by omega),g1];rfl
   ·obtain⟨M,rfl⟩:∃K,M=K+1:=⟨M-1,by omega⟩;rw[Q9,XA,c,if_pos (by simp),e2,Ay4,if_neg (by simp),r2,Ay4,Ih];by_cases u:32<(V2 N l' w' k).n
    ·rw[if_pos (by simp;omega),if_pos u]
    rw[if_neg (by simp;omega),if_neg u,if_pos (by show ((x2.n+1)*8<=_/\x2.n+1<=_)/\(x3.n+1)*24<=_/\x3.n+1<=_;omega)];have g4:=g4 M (x2.push (k:Int)) (x3.push (V2 N l' w' k)) (by omega) (by show x2.n+1+m<=_;omega) (by show x3.n+1+m<=_;omega);rw[D3 (n:=(k:Int)-(l.If.n:Int)) (by omega) (by omega)];by_cases q:l.If.n=0
    ·rw[if_pos q]at g4;rw[if_pos (by simp[q]),D3 (by omega) (by omega),show (k:Int)-(l.If.n:Int)-1=(k:Int)-1 by omega,g4]
    ·rw[if_neg q]at g4;rw[if_neg (by simp[q]),g4]
end Go.AM
namespace Go.AM
open IntKind (wrap)
open Go.Proofs
abbrev AllS:=Sl Sound×Int×Int
def Jg (N:Nat)(l:Law)(q0:Sl Sound)(a:AllS->Option QE)(x1:Int)(z1:AllS):Option QE:=
 if (decide (x1<z1.2.1)) then
  a (z1.1,z1.2.1,z1.2.2)
 else
  if (((0:Int)<=(wrap .i64 (x1+z1.2.2))/\(wrap .i64 (x1+z1.2.2))<=(z1.1.n:Int))/\((0:Int)<=x1/\x1<=(wrap .i64 (x1+(l.If.n:Int)))/\(wrap .i64 (x1+(l.If.n:Int)))<=(q0.n:Int)))then
   (K6 N l (q0.sub x1.toNat (wrap .i64 (x1+(l.If.n:Int))).toNat)).bind fun y6=>
   if ((0:Int)<=(wrap .i64 (x1+(l.If.n:Int)))/\(wrap .i64 (x1+(l.If.n:Int)))<=(q0.n:Int))then
    (A7 N (Sl.of [z1.1.take (wrap .i64 (x1+z1.2.2)).toNat,y6,q0.drop (wrap .i64 (x1+(l.If.n:Int))).toNat]:Sl (Sl Sound))).bind fun y7=>
    Bm (x1,y7) (
     a (y7,wrap .i64 (x1+(if (l.If.n:Int)<1 then 1 else (l.If.n:Int))),wrap .i64 ((wrap .i64 (z1.2.2+(l.Out.n:Int)))-(l.If.n:Int)))
     )
   else none
  else none
def Ap4 (N:Nat)(a:Law)(b:Sl Sound)(c:Sl Int->Sl (Sl Sound)->Sl Sound->Int->Option ZL)(x2:Sl Int)(x3:Sl (Sl Sound))(x4:Sl Sound)(x5:Int):Option ZL:=
 if (decide (x5<=(b.n:Int))) then
  (Bc N a b x5).bind fun y5=>
  if (!y5) then
   lt (fun (z3:Sl Sound)=>
    c x2 x3 z3 (wrap .i64 (x5+1))
    ) fun k3=>
    if (decide (x5<(b.n:Int))) then
     if (((0:Int)<=x5/\x5<(b.n:Int))/\((x4.n+(Sl.of [b.g x5.toNat]:Sl Sound).n)*8<=140737488355328/\x4.n+(Sl.of [b.g x5.toNat]:Sl Sound).n<=140737488355328))then
      k3 (x4.push (b.g x5.toNat))
     else none
    else
     k3 x4
  else
   if ((0:Int)<=x5/\x5<=(wrap .i64 (x5+(a.If.n:Int)))/\(wrap .i64 (x5+(a.If.n:Int)))<=(b.n:Int))then
    (Cd N a (b.sub x5.toNat (wrap .i64 (x5+(a.If.n:Int))).toNat)).bind fun y6=>
    if ((x4.n+y6.n)*8<=140737488355328/\x4.n+y6.n<=140737488355328)then
     if ((x2.n+(Sl.of [x5]:Sl Int).n)*8<=140737488355328/\x2.n+(Sl.of [x5]:Sl Int).n<=140737488355328)then
      if (((((Sl.of []:Sl Sound).n+(x4.app y6).n)*8<=140737488355328/\(Sl.of []:Sl Sound).n+(x4.app y6).n<=140737488355328)/\((0:Int)<=(wrap .i64 (x5+(a.If.n:Int)))/\(wrap .i64 (x5+(a.If.n:Int)))<=(b.n:Int)))/\((((Sl.of []:Sl Sound).app (x4.app y6)).n+(b.drop (wrap .i64 (x5+(a.If.n:Int))).toNat).n)*8<=140737488355328/\((Sl.of []:Sl Sound).app (x4.app y6)).n+(b.drop (wrap .i64 (x5+(a.If.n:Int))).toNat).n<=140737488355328))then
       if (decide (32<((((Sl.of []:Sl Sound).app (x4.app y6)).app (b.drop (wrap .i64 (x5+(a.If.n:Int))).toNat)).n:Int))) then
        some ((Sl.nil:Sl Int),(Sl.nil:Sl (Sl Sound)),11)
       else
        if ((x3.n+(Sl.of [((Sl.of []:Sl Sound).app (x4.app y6)).app (b.drop (wrap .i64 (x5+(a.If.n:Int))).toNat)]:Sl (Sl Sound)).n)*24<=140737488355328/\x3.n+(Sl.of [((Sl.of []:Sl Sound).app (x4.app y6)).app (b.drop (wrap .i64 (x5+(a.If.n:Int))).toNat)]:Sl (Sl Sound)).n<=140737488355328)then
         if ((a.If.n:Int)==0) then
          if (decide ((wrap .i64 (x5+(a.If.n:Int)))<(b.n:Int))) then
           if (((0:Int)<=(wrap .i64 (x5+(a.If.n:Int)))/\(wrap .i64 (x5+(a.If.n:Int)))<(b.n:Int))/\(((x4.app y6).n+(Sl.of [b.g (wrap .i64 (x5+(a.If.n:Int))).toNat]:Sl Sound).n)*8<=140737488355328/\(x4.app y6).n+(Sl.of [b.g (wrap .i64 (x5+(a.If.n:Int))).toNat]:Sl Sound).n<=140737488355328))then
            c (x2.push x5) (x3.push (((Sl.of []:Sl Sound).app (x4.app y6)).app (b.drop (wrap .i64 (x5+(a.If.n:Int))).toNat))) ((x4.app y6).push (b.g (wrap .i64 (x5+(a.If.n:Int))).toNat)) (wrap .i64 ((wrap .i64 (x5+(a.If.n:Int)))+1))
           else none
          else
           c (x2.push x5) (x3.push (((Sl.of []:Sl Sound).app (x4.app y6)).app (b.drop (wrap .i64 (x5+(a.If.n:Int))).toNat))) (x4.app y6) (wrap .i64 ((wrap .i64 (x5+(a.If.n:Int)))+1))
         else
          c (x2.push x5) (x3.push (((Sl.of []:Sl Sound).app (x4.app y6)).app (b.drop (wrap .i64 (x5+(a.If.n:Int))).toNat))) (x4.app y6) (wrap .i64 (x5+(a.If.n:Int)))
        else none
      else none
     else none
    else none
   else none
 else
  some (x2,x3,0)
abbrev vW (s:Sl Sound):Prop:=∀j,j<s.n->vS (s.g j)
theorem Ad7 {s t:Sl Sound}(h:vW s)(h' : vW t):vW (s.app t):=fun j a=>by
 have a:j<s.n+t.n:=a;show vS (if j<s.n then s.g j else t.g (j-s.n));split
 ·exact h j (by assumption)
 ·exact h' _ (by omega)
theorem Am6 {s:Sl Sound}(h:vW s)(k:Nat):vW (s.drop k):=fun j a=>h _ (by have a:j<s.n-k:=a;omega)
theorem Am7 {s:Sl Sound}(h:vW s){k:Nat}(hk:k<=s.n):vW (s.take k):=fun j a=>h _ (by have a:j<k:=a;omega)
theorem QI {x s:Sl Sound}{i:Nat}(b:i<s.n):SE (x.app (s.drop i)) ((x.push (s.g i)).app (s.drop (i+1))):=⟨by show x.n+(s.n-i)=x.n+1+(s.n-(i+1));omega,fun j _=>by
 show (if j<x.n then x.g j else s.g (i+(j-x.n)))=if j<x.n+1 then (if j<x.n then x.g j else s.g i)else s.g (i+1+(j-(x.n+1)))
 by_cases h1:j<x.n
 ·rw[if_pos h1,if_pos (by omega),if_pos h1]
 ·rw[if_neg h1];by_cases a:j=x.n
  ·rw[if_pos (by omega),if_neg h1,a];simp
  ·rw[if_neg (by omega)];congr 1;omega⟩
theorem ZN {a x t:Sl Sound}(h:SE a (x.app t)):SE (a.take x.n) x:=⟨rfl,fun j b=>by
 have b:j<x.n:=b;have hn:a.n=x.n+t.n:=h.1;have e:a.g j=if j<x.n then x.g j else t.g (j-x.n):=h.2 j (by omega)
 rw[if_pos b]at e;exact e⟩
theorem Ub {N:Nat}{l:Law}{w:Sl Sound}{K:AllS->Option QE}{acc:Sl Sound}{next sh:Int}:∀(d i:Nat),((i+d:Nat):Int)<=next->Q4 (CY l w i) (Jg N l w) K (acc,next,sh)=Q4 (CY l w (i+d)) (Jg N l w) K (acc,next,sh)
 |0,i,_=>rfl
 |d+1,i,h=>by
  have ih:=Ub (N:=N) (l:=l) (w:=w) (K:=K) (acc:=acc) (next:=next) (sh:=sh) d (i+1) (by omega);rw[show i+(d+1)=i+1+d by omega,<- ih];by_cases a:MT l w i
  ·rw[Hv (by have:=a.1;omega) a];show Jg N l w (Q4 (CY l w (i+1)) (Jg N l w) K) (i:Int) (acc,next,sh)=_;unfold Jg;rw[if_pos (by simp;omega)]
  ·rw[Hw a]
theorem Am8 {N:Nat}(hN:3000<=N){l l' : Law}(hf:Ap1 l)(he:LE l l'){w w' : Sl Sound}(b:SE w w')(hn:w.n<=32)(hv:vW w):∀(m i:Nat) (x4 acc:Sl Sound) (sh next:Int),i<=w.n+1->w.n+1<=i+m ->
 (i<=w.n->SE acc (x4.app (w'.drop i))/\(x4.n:Int)=i+sh)->next<=i->x4.n<=7*i->vW acc -> -1000<=sh->sh<=1000 ->
 ∃L L',Q4 (CY l w i) (Jg N l w) (fun _=>some []) (acc,next,sh)=some L/\vL L/\L.length<=m/\RL L L' /\ ∀M x2 x3,m<M->x2.n+m<=1000->x3.n+m<=1000->YT M (Ap4 N l' w') x2 x3 x4 i=some (Ih x2 x3 L'):=by
 obtain⟨hl,_,_,hk,ho,hko,_,_⟩:=hf;have h6:=ho.1;obtain⟨hl',_,_,hk',ho',_,_,_⟩:=SH he ⟨hl,‹_›, ‹_›,hk,ho,hko,‹_›, ‹_›⟩;have d:l'.If.n=l.If.n:=he.cond.1.symm;have hn':=b.1;have hw:okW w:=⟨by omega,fun j hj=>(hv j hj).ok⟩;have r : vW w':=b.v hv;have hw' : okW w':=⟨by omega,fun j hj=>(r j hj).ok⟩;have fin:∀(m i:Nat) (x4 acc:Sl Sound) (sh next:Int),w.n<i->∃L L',Q4 (CY l w i) (Jg N l w) (fun _=>some []) (acc,next,sh)=some L/\vL L/\L.length<=m/\RL L L' /\ ∀M x2 x3,m<M->x2.n+m<=1000->x3.n+m<=1000->YT M (Ap4 N l' w') x2 x3 x4 i=some (Ih x2 x3 L'):=by
  intro m i x4 acc sh next hi
  refine⟨[],[],by rw[Ie (by omega)];rfl,QF,by simp,trivial,fun M x2 x3 hM _ _=>?_⟩;obtain⟨M,rfl⟩:∃K,M=K+1:=⟨M-1,by omega⟩;rw[Q9,Ap4,if_neg (by simp;omega),Ih]
 intro m
 induction m with
 |zero=>exact fun i x4 acc sh next h1 t _ _ _ _ _ _=>fin 0 i x4 acc sh next (by omega)
 |succ m ih=>
  intro i x4 acc sh next hi hm hx hnx h7 f u x
  by_cases hle:i<=w.n
  case neg=>exact fin _ i x4 acc sh next (by omega)
  obtain⟨o,hnn⟩:=hx hle;have han:acc.n=x4.n+(w.n-i):=by rw[o.1];show x4.n+(w'.n-i)=_;omega
  obtain⟨b',e2,t⟩:=Oy hN hl' hk' hw' i (by omega);have t:=t.trans (Gw he b).symm;cases b'
  ·have hno:¬MT l w i:=fun h=>by have:=t.2 h;cases this
   rw[Hw hno];by_cases y:i<w.n
   ·obtain⟨L,L',g1,g2,g3,g5,g4⟩:=ih (i+1) (x4.push (w'.g i)) acc sh next (by omega) (by omega) (fun _=>⟨o.trans (QI (by omega)),by show ((x4.n+1:Nat):Int)=_;omega⟩) (by omega) (by show x4.n+1<=_;omega) f u x
    refine⟨L,L',g1,g2,by omega,g5,fun M x2 x3 hM hx hy=>?_⟩;obtain⟨M,rfl⟩:∃K,M=K+1:=⟨M-1,by omega⟩;rw[Q9,Ap4,d,if_pos (by simp;omega),e2,Ay4,if_pos nf,lt,if_pos (by simp;omega),if_pos ⟨by omega,by show (x4.n+1)*8<=_/\x4.n+1<=_;omega⟩,C0 (by omega),Ay0];exact g4 M x2 x3 (by omega) (by omega) (by omega)
   ·obtain⟨L,L',g1,g2,g3,g5,g4⟩:=ih (i+1) x4 acc sh next (by omega) (by omega) (fun h=>by omega) (by omega) (by omega) f u x
    refine⟨L,L',g1,g2,by omega,g5,fun M x2 x3 hM hx hy=>?_⟩;obtain⟨M,rfl⟩:∃K,M=K+1:=⟨M-1,by omega⟩;rw[Q9,Ap4,d,if_pos (by simp;omega),e2,Ay4,if_pos nf,lt,if_neg (by simp;omega),C0 (by omega)];exact g4 M x2 x3 (by omega) (by omega) (by omega)
  ·have z:=t.1 rfl;have a0:=z.1;rw[Hv hle z];obtain⟨p1,_,p3,p4⟩:=Fj (N:=N) (by omega) ho hv a0;obtain⟨_,p2,_,_⟩:=Fj (N:=N) (l:=l') (i:=i) (by omega) ho' r (by omega);rw[<- Lb he b a0,d]at p2;generalize hY:FD N l w i=Y at p1 p2 p3 p4;have c:SE (((acc.take x4.n).app Y).app (w.drop (i+l.If.n))) ((x4.app Y).app (w'.drop (i+l.If.n))):=((ZN o).app (SE.refl _)).app (b.drop _);have q:vW (((acc.take x4.n).app Y).app (w.drop (i+l.If.n))):=Ad7 (Ad7 (Am7 f (by omega)) p4) (Am6 hv _);generalize hZ:(((acc.take x4.n).app Y).app (w.drop (i+l.If.n)))=Z at c q;have hZn:Z.n=x4.n+Y.n+(w.n-(i+l.If.n)):=by rw[<- hZ]
   obtain⟨L,L',g1,g2,g3,g5,g4⟩:=ih (if l.If.n=0 then i+1 else i+l.If.n) (if l.If.n=0/\i<w.n then (x4.app Y).push (w'.g i)else x4.app Y) Z (sh+l.Out.n-l.If.n) (if l.If.n=0 then i+1 else i+l.If.n:Nat)
    (by split<;>omega) (by split<;>omega)
    (fun h=>by
     by_cases a:l.If.n=0
     ·rw[if_pos a]at h;rw[if_pos a,if_pos ⟨a,by omega⟩];rw[a]at c;exact⟨c.trans (QI (by omega)),by show ((x4.n+Y.n+1:Nat):Int)=_;omega⟩
     ·rw[if_neg a,if_neg (by omega)];exact⟨c,by show ((x4.n+Y.n:Nat):Int)=_;omega⟩)
    (by omega)
    (by
     by_cases a:l.If.n=0
     ·rw[if_pos a];split
      ·show x4.n+Y.n+1<=_;omega
      ·show x4.n+Y.n<=_;omega
     ·rw[if_neg a,if_neg (by omega)];show x4.n+Y.n<=_;omega)
    q (by omega) (by omega)
   refine⟨((i:Int),Z)::L,((i:Int),(x4.app Y).app (w'.drop (i+l.If.n)))::L', ?_,SI q g2,by simp;omega,⟨rfl,c,g5⟩,fun M x2 x3 hM hx hy=>?_⟩
   ·show Jg N l w (Q4 (CY l w (i+1)) (Jg N l w) fun _=>some []) (i:Int) (acc,next,sh)=_;unfold Jg;have es:wrap .i64 ((i:Int)+sh)=((x4.n:Nat):Int):=by rw[D3 (by omega) (by omega),hnn]
    simp only[es];rw[Cq (by omega),if_neg (by simp;omega),if_pos (by omega)];simp only[Ay0];rw[p1,Ay4,if_pos (by omega),Xw (by omega) (by show x4.n<=_;omega) (by omega) (by show w.n-(i+l.If.n)<=_;omega),Ay4,hZ];have en:wrap .i64 ((i:Int)+(if (l.If.n:Int)<1 then 1 else (l.If.n:Int)))=((if l.If.n=0 then i+1 else i+l.If.n:Nat):Int):=by
     by_cases a:l.If.n=0
     ·rw[if_pos (by omega),if_pos a,D3 (by omega) (by omega)];omega
     ·rw[if_neg (by omega),if_neg a,D3 (by omega) (by omega)];omega
    have eh:wrap .i64 ((wrap .i64 (sh+(l.Out.n:Int)))-(l.If.n:Int))=sh+l.Out.n-l.If.n:=by rw[D3 (n:=sh+(l.Out.n:Int)) (by omega) (by omega),D3 (by omega) (by omega)]
    rw[en,eh];have sk:=Ub (N:=N) (l:=l) (w:=w) (K:=fun _=>some []) (acc:=Z) (next:=((if l.If.n=0 then i+1 else i+l.If.n:Nat):Int)) (sh:=sh+l.Out.n-l.If.n) (if l.If.n=0 then 0 else l.If.n-1) (i+1) (by split<;>omega);rw[show i+1+(if l.If.n=0 then 0 else l.If.n-1)=(if l.If.n=0 then i+1 else i+l.If.n) by split<;>omega]at sk;show Bm _ (Q4 (CY l w (i+1)) (Jg N l w) (fun _=>some []) (Z,_,_))=_;rw[sk,g1];rfl
   ·obtain⟨M,rfl⟩:∃K,M=K+1:=⟨M-1,by omega⟩;have hdn:((x4.app Y).app (w'.drop (i+l.If.n))).n=x4.n+Y.n+(w'.n-(i+l.If.n)):=rfl;rw[Q9,Ap4,d,if_pos (by simp;omega),e2,Ay4,if_neg (by simp),Cq (by omega),if_pos (by omega)];simp only[Ay0];rw[p2,Ay4,if_pos (by omega),if_pos (by show (x2.n+1)*8<=_/\x2.n+1<=_;omega)];rw[if_pos ⟨⟨by show (0+(x4.n+Y.n))*8<=_/\0+(x4.n+Y.n)<=_;omega,by omega⟩,by simp only[AI1];omega⟩,Ih];by_cases a1:32<((x4.app Y).app (w'.drop (i+l.If.n))).n
    ·rw[if_pos (by simp only[decide_eq_true_eq,AI1];omega),if_pos a1]
    rw[if_neg (by simp only[decide_eq_true_eq,AI1];omega),if_neg a1,Ap2 (s:=(Sl.of []:Sl Sound)) rfl,if_pos (by show (x3.n+1)*24<=_/\x3.n+1<=_;omega)];have g4:=g4 M (x2.push (i:Int)) (x3.push ((x4.app Y).app (w'.drop (i+l.If.n)))) (by omega) (by show x2.n+1+m<=_;omega) (by show x3.n+1+m<=_;omega);by_cases a:l.If.n=0
    ·rw[if_pos (by simp[a])];rw[if_pos a]at g4;by_cases y:i<w.n
     ·rw[if_pos ⟨a,y⟩]at g4;rw[if_pos (by simp only[decide_eq_true_eq];omega),if_pos ⟨by omega,by show (x4.n+Y.n+1)*8<=_/\x4.n+Y.n+1<=_;omega⟩,C0 (by omega),show w'.g (i+l.If.n)=w'.g i by rw[a];rfl,show i+l.If.n+1=i+1 by omega];exact g4
     ·rw[if_neg (by omega)]at g4;rw[if_neg (by simp only[decide_eq_true_eq];omega),C0 (by omega),show i+l.If.n+1=i+1 by omega];exact g4
    ·rw[if_neg (by simp[a])];rw[if_neg a,if_neg (by omega)]at g4;exact g4
def trS (r r' : ZL):Prop:=r.1=r'.1/\r.2.1.n=r'.2.1.n/\(∀i,i<r.2.1.n->SE (r.2.1.g i) (r'.2.1.g i))/\r.2.2=r'.2.2
theorem Ad8:∀(L L' : QE) (x:Sl Int) (y y' : Sl (Sl Sound)),RL L L' -> y.n=y'.n->(∀i,i<y.n->SE (y.g i) (y'.g i))->trS (Ih x y L) (Ih x y' L')
 |[],[],x,y,y',_,h1,h2=>⟨rfl,h1,h2,rfl⟩
 |(p,v)::L,(q,u)::M,x,y,y',⟨h3,h4,h5⟩,h1,h2=>by
  subst h3;unfold Ih;rw[<- h4.1];split
  ·exact⟨rfl,rfl,fun i a=>absurd a (AC1 i),rfl⟩
  ·refine Ad8 L M _ _ _ h5 (by show y.n+1=y'.n+1;omega) fun i a=>?_;have a:i<y.n+1:=a;show SE (if i<y.n then y.g i else v) (if i<y'.n then y'.g i else u);rw[<- h1];split
   ·exact h2 i (by assumption)
   ·exact h4
 |[],_::_,_,_,_,h,_,_=>h.elim
 |_::_,[],_,_,_,h,_,_=>h.elim
theorem XB:∀(L:QE) (x:Sl Int) (y:Sl (Sl Sound)),vL L->(∀i,i<y.n->wOk (y.g i))->(Ih x y L).2.2=11 \/ ((Ih x y L).2.2=0/\(Ih x y L).2.1.n<=y.n+L.length/\∀i,i<(Ih x y L).2.1.n->wOk ((Ih x y L).2.1.g i))
 |[],x,y,_,h=>.inr ⟨rfl,Ay6 _,h⟩
 |(p,v)::L,x,y,hv,h=>by
  unfold Ih;split
  ·exact .inl rfl
  ·have:=XB L (x.push p) (y.push v) (fun z b=>hv z (AA5 _ b)) fun i d=>by
    show wOk (if i<y.n then y.g i else v);split
    ·exact h i (by assumption)
    ·exact⟨by omega,hv (p,v) (by simp)⟩
   rcases this with h|⟨h1,a,c⟩
   ·exact .inl h
   ·refine .inr ⟨h1,?_,c⟩;have a:_<=y.n+1+L.length:=a;simp only[AB1];omega
theorem QJ:∀(L:QE) (x:Sl Int) (y:Sl (Sl Sound)),x.n+L.length<=100000->y.n+L.length<=100000 ->
 Q4 L (fun (a:Sl Int×Sl (Sl Sound)->Option ZL) (x1:Int×(Sl Sound)) (z1:(Sl Int)×(Sl (Sl Sound)))=>
  if (decide (32<(x1.2.n:Int))) then
   some ((Sl.nil:Sl Int),(Sl.nil:Sl (Sl Sound)),11)
  else
   if ((z1.1.n+(Sl.of [x1.1]:Sl Int).n)*8<=140737488355328/\z1.1.n+(Sl.of [x1.1]:Sl Int).n<=140737488355328)then
    if ((z1.2.n+(Sl.of [x1.2]:Sl (Sl Sound)).n)*24<=140737488355328/\z1.2.n+(Sl.of [x1.2]:Sl (Sl Sound)).n<=140737488355328)then
     a (z1.1.push x1.1,z1.2.push x1.2)
    else none
   else none
  ) (fun (z1:(Sl Int)×(Sl (Sl Sound)))=>
   some (z1.1,z1.2,0)
  ) (x,y)=some (Ih x y L)
 |[],x,y,_,_=>rfl
 |(p,v)::L,x,y,hx,hy=>by
  simp only[AB1]at hx hy;have ih:=QJ L (x.push p) (y.push v) (by show x.n+1+_<=_;omega) (by show y.n+1+_<=_;omega);rw[Q4,Ih];by_cases h:32<v.n
  ·rw[if_pos (by simp;omega),if_pos h]
  ·rw[if_neg (by simp;omega),if_neg h,if_pos (by show (x.n+1)*8<=_/\x.n+1<=_;omega),if_pos (by show (y.n+1)*24<=_/\y.n+1<=_;omega)];exact ih
def trE (N:Nat)(l:Law)(w:Sl Sound)(r:ZL):Prop:=(r.2.2=17/\¬chkAll N l) \/ (chkAll N l/\TX w r.2.2/\r.2.2≠0) \/ (chkAll N l/\wOk w/\(r.2.2=11 \/ (r.2.2=0/\r.2.1.n<=1000/\∀i,i<r.2.1.n->wOk (r.2.1.g i))))
theorem XC (e:Int):trS ((Sl.nil:Sl Int),(Sl.nil:Sl (Sl Sound)),e) ((Sl.nil:Sl Int),(Sl.nil:Sl (Sl Sound)),e):=⟨rfl,rfl,fun i a=>absurd a (AC1 i),rfl⟩
theorem Av9 {w w' : Sl Sound}(h:SE w w'){e:Int}(hw:TX w e):TX w' e:=by
 rcases hw with⟨h1,a⟩ | ⟨h1,⟨i,b,a⟩,c⟩ | ⟨h1,a⟩
 ·exact .inl ⟨by rw[<- h.1];exact h1,a⟩
 ·exact .inr (.inl ⟨by rw[<- h.1];exact h1,⟨i,by rw[<- h.1];exact b,by rw[<- h.2 i b];exact a⟩,c⟩)
 ·exact .inr (.inr ⟨h.wOk h1,a⟩)
theorem okS_S {w w' : Sl Sound}(h:SE w w')(hw:∀i,i<w.n->okS (w.g i)):∀i,i<w'.n->okS (w'.g i):=fun i a=>by rw[<- h.2 i (by rw[h.1];exact a)];exact hw i (by rw[h.1];exact a)
theorem XD {N:Nat}(u:3000000<=N){l l' : Law}(hl:Hx l)(hle:LE l l'){w w' : Sl Sound}(a:SE w w')(hw:∀i,i<w.n->okS (w.g i)) :∃r r',Cf N l w=some r/\Gt N l' w' = some r' /\ trS r r' /\ trE N l w r:=by
 obtain⟨e,e1,_,v⟩:=Fi u hl;obtain⟨e0,_,e2,q⟩:=Fi u (Jq hle hl);obtain rfl:=QC (Am5 hle v) q;unfold Cf Gt DU KI;rw[e1,e2,Ay4,Ay4];rcases v with⟨rfl,hc⟩ | ⟨rfl,hc⟩
 case inr=>rw[if_pos (by decide),if_pos (by decide)];exact⟨_,_,rfl,rfl,XC 17,.inl ⟨rfl,hc⟩⟩
 rw[if_neg (by decide),if_neg (by decide)];obtain⟨e',e3,c⟩:=KY (N:=N) (by omega) hw;obtain⟨e'',e4,j⟩:=MS (N:=N) (by omega) (okS_S a hw);obtain rfl:=Qy (Av9 a c) j;rw[e3,e4];simp only[Ay4];by_cases d:e' = 0
 case neg=>rw[if_pos (by simpa using d),if_pos (by simpa using d)];exact⟨_,_,rfl,rfl,XC e', .inr (.inl ⟨hc,c,d⟩)⟩
 rw[if_neg (by simp[d]),if_neg (by simp[d])];have b:wOk w:=(U9 c).1 d;have o:=hc.f hl;obtain⟨s,_,_,hk,ho,y,z,a0⟩:=id o;have hn:=b.1;have t:=a.1;have key:∃L L',AJ N w l (l.If.n:Int) (l.Out.n:Int)=some L/\vL L/\L.length<=100/\RL L L' /\
  (if (l'.Mode==1) then (KJ N l' w').bind fun y2=>some (y2.1,y2.2.1,y2.2.2)
   else if (l'.Mode==2) then (Gs N l' w').bind fun y3=>some (y3.1,y3.2.1,y3.2.2)
   else (Fu N l' w').bind fun y4=>some (y4.1,y4.2.1,y4.2.2))=some (Ih (Sl.nil:Sl Int) (Sl.nil:Sl (Sl Sound)) L'):=by
  unfold AJ;rw[hle.mode];by_cases c1:l.Mode=1
  ·rw[if_pos (show (l.Mode==1)=true by simp[c1]),if_pos (show (l.Mode==1)=true by simp[c1])];obtain⟨L,L',g1,g2,g3,g5,g4⟩:=Am8 (N:=N) (by omega) o hle a hn b.2 (w.n+1) 0 (Sl.nil:Sl Sound) w 0 0 (by omega) (by omega) (fun _=>⟨by rw[Ap2 rfl];exact⟨a.1,fun i m=>by rw[a.2 i m];show _=w'.g (0+i);rw[AB0]⟩,rfl⟩) (by omega) (by show 0<=_;omega) b.2 (by omega) (by omega);have hh:=TZ (N:=N) (by omega) s hk (w:=w) (vOk b) 0 (by omega);refine⟨L,L', ?_,g2,by omega,g5,?_⟩
   ·show ((U4 N l w ((0:Nat):Int)).bind fun L1=>Q4 L1 (Jg N l w) (fun _=>some []) (w,0,0))=_;rw[hh,Ay4];exact g1
   ·have:KJ N l' w' = some _:=g4 N (Sl.nil:Sl Int) (Sl.nil:Sl (Sl Sound)) (by omega) (by show 0+_<=_;omega) (by show 0+_<=_;omega)
    rw[this];rfl
  rw[if_neg (show ¬(l.Mode==1)=true by simp[c1]),if_neg (show ¬(l.Mode==1)=true by simp[c1])];by_cases c2:l.Mode=2
  ·rw[if_pos (show (l.Mode==2)=true by simp[c2]),if_pos (show (l.Mode==2)=true by simp[c2])];obtain⟨L,L',g1,g2,g3,g5,g4⟩:=Xy (N:=N) (by omega) o hle (w.n+1) w w' 0 a (by omega) b.2 (by omega) (by omega);refine⟨L,L',g1 N (by omega),g2,by omega,g5,?_⟩
   have:Gs N l' w' = some _:=g4 N (Sl.nil:Sl Int) (Sl.nil:Sl (Sl Sound)) (by omega) (by show 0+_<=_;omega) (by show 0+_<=_;omega)
   rw[this];rfl
  ·have c3:l.Mode=3:=by omega
   rw[if_neg (show ¬(l.Mode==2)=true by simp[c2]),if_neg (show ¬(l.Mode==2)=true by simp[c2]),if_pos (show (l.Mode==3)=true by simp[c3])];obtain⟨L,L',g1,g2,g3,g5,g4⟩:=ZM (N:=N) (by omega) o hle (w.n+1) w w' ((w.n:Int)-(l.If.n:Int)) a (by omega) b.2 (by omega) (by omega) (by omega);refine⟨L,L', ?_,g2,by omega,g5,?_⟩
   ·rw[D3 (by omega) (by omega)];exact g1 N (by omega)
   ·have g4:=g4 N (Sl.nil:Sl Int) (Sl.nil:Sl (Sl Sound)) (by omega) (by show 0+_<=_;omega) (by show 0+_<=_;omega)
    have:Fu N l' w' = some (Ih (Sl.nil:Sl Int) (Sl.nil:Sl (Sl Sound)) L'):=by unfold Fu;rw[show wrap .i64 ((w'.n:Int)-(l'.If.n:Int))=(w.n:Int)-(l.If.n:Int) by rw[<- t, <- hle.cond.1,D3 (by omega) (by omega)]];exact g4
    rw[this];rfl
 obtain⟨L,L',g1,g2,g3,g5,g4⟩:=key;refine⟨Ih (Sl.nil:Sl Int) (Sl.nil:Sl (Sl Sound)) L,_,?_,g4,Ad8 L L' _ _ _ g5 rfl fun i m=>absurd m (AC1 i),.inr (.inr ⟨hc,b,?_⟩)⟩
 ·rw[Hr,Ay4];show ((AJ N w l (l.If.n:Int) (l.Out.n:Int)).bind _)=_;rw[g1,Ay4];exact QJ L _ _ (by show 0+_<=_;omega) (by show 0+_<=_;omega)
 ·rcases XB L (Sl.nil:Sl Int) (Sl.nil:Sl (Sl Sound)) g2 fun i m=>absurd m (AC1 i)with h|⟨h1,x,h3⟩
  ·exact .inl h
  ·exact .inr ⟨h1,by have x:_<=0+L.length:=x;omega,h3⟩
end Go.AM
