/- What a law's walk and its plain proof need, part 7: no condition of its own. -/
import Derived.Test.YtegikiijkjlikaaGreatDoorSF
import Derived.Test.YtegikiijkjlikaaGreatDoorSD
import Derived.Test.YtegikiijkjlikaaGreatDoorSE
set_option linter.defProp false
set_option linter.unusedSimpArgs false
set_option linter.unusedVariables false
set_option linter.unusedSectionVars false
namespace Go.AM
open IntKind (wrap)
def AZ8:=@BitVec.getLsbD_or
def Bd2:=@BitVec.getLsbD_not
def Bg0:=@Classical.axiomOfChoice
def Bg3:=@List.reverse_append
def Bh7:=@Bool.or_eq_false_iff
def Bj3:=@List.mem_range'_1
def Bk5:=@List.filter_cons_of_pos
def Bk6:=@List.filter_cons_of_neg
def Bl6:=@Bool.not_eq_true
def Bm4:=@BitVec.getLsbD_zero
def Bn7:=@Nat.testBit_two_pow_mul
def Bo1:=@Nat.testBit_lt_two_pow
def Bo2:=@List.filter_eq_nil_iff
def Bo3:=@List.reverse_singleton
def Bo8:=@Bool.and_eq_false_iff
def Bo9:=@List.singleton_append
def Bp2:=@BitVec.getLsbD_of_ge
def Bp8:=@Nat.div_eq_zero_iff
def Bq6:=@Nat.lt_of_le_of_lt
open Go.Proofs
set_option maxRecDepth 10000
set_option maxHeartbeats 2000000
variable {S:Bd}(hS:G6 S Tryz.prog) (hL:RY S)
include hS hL
def Gm (N:Nat)(p_c:Int):Option Bool:=
 some (((((decide (97<=p_c))&&(decide (p_c<=122)))||((decide (65<=p_c))&&(decide (p_c<=90))))||((decide (48<=p_c))&&(decide (p_c<=57))))||(p_c==45))
theorem Ug {N:Nat}{p_c:Int}{y:Bool}(h:Gm N p_c=some y) :FunO S Ku [.p (pI .u8 p_c)] [] (pB y) ([]) []:=by unfold Gm at h;refine A1 hS Tv ?_;refine kB hS (A3 hS) trivial trivial 23 (.o (.o (.o (.n (.a (decide (97<=p_c))) (.a (decide (p_c<=122)))) (.n (.a (decide (65<=p_c))) (.a (decide (p_c<=90))))) (.n (.a (decide (48<=p_c))) (.a (decide (p_c<=57))))) (.a (p_c==45))) ?_;cases h;exact kR hS
def BZ (N:Nat)(p_s:Str):Option Bool:=
 R5 N (fun self1 (x1:Int)=>
  if (decide (x1<(p_s.length:Int))) then
   if ((0:Int)<=x1/\x1<(p_s.length:Int))then
    (Gm N (Z8 p_s x1)).bind fun y3=>
    if (!y3) then
     some false
    else
     self1 (wrap .i64 (x1+1))
   else none
  else
   some ((decide (1<=(p_s.length:Int)))&&(decide ((p_s.length:Int)<=24)))
  ) 0
theorem JK {N:Nat}{p_s:Str}{y:Bool}(h:BZ N p_s=some y) :FunO S PC [.p (.str p_s)] [] (pB y) ([]) []:=by
 unfold BZ at h;refine A1 hS Zz ?_;refine G7 hS trivial h (fun x1=>⟨[(3,pN x1),(0,.p (.str p_s))],[]⟩) (ids:=[]) (fun _ _ _ _ _ self1 x1 hb1 h=>?_);refine kI hS h (fun h=>?_) (fun h=>?_)
 ·obtain⟨c8,h⟩:=D2 h;obtain⟨y3,e3,h⟩:=B6 h;refine B8 hS [] c8 (Ug hS hL e3) ?_;refine kI hS h (fun h=>?_) (fun h=>?_)
  ·cases h;exact kR hS
  ·exact hb1 _ [] _ (wrap .i64 (x1+1)) trivial h
 ·refine kB hS (A3 hS) trivial trivial 4 (.n (.a (decide (1<=(p_s.length:Int)))) (.a (decide ((p_s.length:Int)<=24)))) ?_;cases h;exact kR hS
def AT (N:Nat)(p_t:Sl Y4):Option Int:=
 if ((decide ((p_t.n:Int)<1))=false->((decide (63<(p_t.n:Int)))=false->((0:Int)<=0/\0<(p_t.n:Int))))then
  if (((decide ((p_t.n:Int)<1))||(decide (63<(p_t.n:Int))))||((p_t.g 0).Parent != (-1))) then
   some 16
  else
   R5 N (fun self3 (x3:Int)=>
    if (decide (x3<(p_t.n:Int))) then
     lt (fun (z3:Bool)=>
      if z3 then
       some 16
      else
       R5 N (fun self4 (x7:Int)=>
        if (decide (x7<x3)) then
         if (((0:Int)<=x7/\x7<(p_t.n:Int))/\((0:Int)<=x3/\x3<(p_t.n:Int)))then
          if (((p_t.g x7.toNat).Name==(p_t.g x3.toNat).Name) != false) then
           some 16
          else
           self4 (wrap .i64 (x7+1))
         else none
        else
         self3 (wrap .i64 (x3+1))
        ) 0
      ) fun k3=>
      if (decide (0<x3)) then
       if ((0:Int)<=x3/\x3<(p_t.n:Int))then
        if (decide ((p_t.g x3.toNat).Parent<0)) then
         k3 true
        else
         if ((0:Int)<=x3/\x3<(p_t.n:Int))then
          if (decide (x3<=(p_t.g x3.toNat).Parent)) then
           k3 true
          else
           if ((0:Int)<=x3/\x3<(p_t.n:Int))then
            (BZ N (p_t.g x3.toNat).Name).bind fun y11=>
            k3 (!y11)
           else none
         else none
       else none
      else
       if ((0:Int)<=x3/\x3<(p_t.n:Int))then
        (BZ N (p_t.g x3.toNat).Name).bind fun y12=>
        k3 (!y12)
       else none
    else
     some 0
    ) 0
 else none
theorem Nk {N:Nat}{p_t:Sl Y4}{y:Int}(h:AT N p_t=some y) :FunO S Ms [.p (vSl 2 O6 p_t)] [] (pN y) ([]) []:=by
 unfold AT at h;refine A1 hS VJ ?_;obtain⟨c1,h⟩:=D2 h;refine kB hS (A3 hS) trivial c1 11 (.o (.o (.a (decide ((p_t.n:Int)<1))) (.a (decide (63<(p_t.n:Int))))) (.a ((p_t.g 0).Parent != (-1)))) ?_;refine kI hS h (fun h=>?_) (fun h=>?_)
 ·cases h;exact kR hS
 ·refine G7 hS trivial h (fun x3=>⟨[(3,pN x3),(0,.p (vSl 2 O6 p_t))],[]⟩) (ids:=[]) (fun _ _ _ _ _ self3 x3 hb5 h=>?_);refine kI hS h (fun h=>?_) (fun h=>?_)
  ·refine FM hS trivial (A3 hS) h 0 (fun z3=>⟨[(53,pB z3),(3,pN x3),(0,.p (vSl 2 O6 p_t))],[]⟩) (fun M3 k3 hb6 h=>?_) (fun z3 h=>?_)
   ·refine kG hS h (fun h=>?_) (fun h=>?_)
    ·obtain⟨c71,h⟩:=D2 h;refine Dg hS c71 (b:=decide ((p_t.g x3.toNat).Parent<0)) (fun c72=>?_) (fun c72=>?_)
     ·replace h:=itT c72 h;exact hb6 _ [] _ true trivial h
     ·replace h:=itF c72 h;obtain⟨c73,h⟩:=D2 h;refine Dg hS c73 (b:=decide (x3<=(p_t.g x3.toNat).Parent)) (fun c74=>?_) (fun c74=>?_)
      ·replace h:=itT c74 h;exact hb6 _ [] _ true trivial h
      ·replace h:=itF c74 h;obtain⟨c75,h⟩:=D2 h;obtain⟨y11,e11,h⟩:=B6 h;refine B8 hS [] c75 (JK hS hL e11) ?_;exact hb6 _ [] _ (!y11) trivial h
    ·obtain⟨c76,h⟩:=D2 h;obtain⟨y12,e12,h⟩:=B6 h;refine B8 hS [] c76 (JK hS hL e12) ?_;exact hb6 _ [] _ (!y12) trivial h
   ·refine kI hS h (fun h=>?_) (fun h=>?_)
    ·cases h;exact kR hS
    ·refine G7 hS trivial h (fun x7=>⟨[(4,pN x7),(3,pN x3),(0,.p (vSl 2 O6 p_t))],[]⟩) (ids:=[]) (fun _ _ _ _ _ self4 x7 hb7 h=>?_);refine kI hS h (fun h=>?_) (fun h=>?_)
     ·refine D7 hS trivial [2,4,7,9] ?_;obtain⟨c85,h⟩:=D2 h;refine H5 c85 ?_;refine kI hS h (fun h=>?_) (fun h=>?_)
      ·cases h;exact kR hS
      ·exact hb7 _ [] _ (wrap .i64 (x7+1)) trivial h
     ·exact hb5 _ [] _ (wrap .i64 (x3+1)) trivial h
  ·cases h;exact kR hS
def Uh (rec:(Sl Y4)->Int->Option (Sl Int))(N:Nat)(p_t:Sl Y4)(p_v:Int):Option (Sl Int):=
 if (p_v==0) then
  some (Sl.of [0]:Sl Int)
 else
  if ((0:Int)<=p_v/\p_v<(p_t.n:Int))then
   (rec p_t (p_t.g p_v.toNat).Parent).bind fun y1=>
   if ((y1.n+(Sl.of [p_v]:Sl Int).n)*8<=140737488355328/\y1.n+(Sl.of [p_v]:Sl Int).n<=140737488355328)then
    some (y1.push p_v)
   else none
  else none
def Aa1:Nat->(Sl Y4)->Int->Option (Sl Int)
 |0=>fun _ _=>none
 |N+1=>Uh (Aa1 N) N
def X3 (rec:B3->Int->Option (Sl Int))(N:Nat)(p_h:B3)(p_v:Int):Option (Sl Int):=
 if (decide (p_v<0)) then
  some (Sl.nil:Sl Int)
 else
  if ((0:Int)<=p_v/\p_v<(p_h.Tree.n:Int))then
   (rec p_h (p_h.Tree.g p_v.toNat).Parent).bind fun y1=>
   if (((0:Int)<=p_v/\p_v<(p_h.On.n:Int))/\((y1.n+(p_h.On.g p_v.toNat).n)*8<=140737488355328/\y1.n+(p_h.On.g p_v.toNat).n<=140737488355328))then
    some (y1.app (p_h.On.g p_v.toNat))
   else none
  else none
def Bc:Nat->B3->Int->Option (Sl Int)
 |0=>fun _ _=>none
 |N+1=>X3 (Bc N) N
theorem WF {N:Nat}{rec:B3->Int->Option (Sl Int)}(hrec:∀{p_h:B3}{p_v:Int}{y:Sl Int},rec p_h p_v=some y->FunO S GD [.p (.agg (B2 p_h)),pN p_v] [] (.vec 0) ([.vec B9 1 y.n (fun i=>cI .i64 (y.g i)) true]) []){p_h:B3}{p_v:Int}{y:Sl Int}(h:X3 rec N p_h p_v=some y) :FunO S GD [.p (.agg (B2 p_h)),pN p_v] [] (.vec 0) ([.vec B9 1 y.n (fun i=>cI .i64 (y.g i)) true]) []:=by
 unfold X3 at h;refine A1 hS Zw ?_;refine J3 hS trivial 4 3000 (B2 p_h) ?_;refine kI hS h (fun h=>?_) (fun h=>?_)
 ·obtain rfl:=B7 h;exact A6 hS trivial ⟨[(4,.vec 5700)],[(5700,.vec B9 1 (Sl.nil:Sl Int).n (fun i=>cI .i64 ((Sl.nil:Sl Int).g i)) true)]⟩ [5700] (ids:=[]) ⟨rfl,rfl,rfl⟩
 ·refine D7 hS trivial [0,2,4,6,9,11,12] ?_;obtain⟨c2,h⟩:=D2 h;obtain⟨y1,e1,h⟩:=B6 h;refine GX [] (And.intro (by decide:(3:Nat)<=3) c2) (hrec e1) ?_;obtain⟨c3,h⟩:=D2 h;refine H5 c3 ?_;obtain rfl:=B7 h;exact A6 hS trivial ⟨[(4,.vec 21000)],[(21000,.vec B9 1 (y1.app (p_h.On.g p_v.toNat)).n (fun i=>cI .i64 ((y1.app (p_h.On.g p_v.toNat)).g i)) true)]⟩ [21000] (ids:=[(21000,21000)]) ⟨rfl,rfl,rfl⟩ (hle:=klR [(0,.fn (y1.n+(p_h.On.g p_v.toNat).n) (y1.app (p_h.On.g p_v.toNat)).n (R4 y1.n (fun i=>cI .i64 (y1.g i)) (fun i=>cI .i64 ((p_h.On.g p_v.toNat).g i))) (fun i=>cI .i64 ((y1.app (p_h.On.g p_v.toNat)).g i)))] (al1 ⟨rfl,Vr (c:=cI .i64) (v:=y1) (w:=p_h.On.g p_v.toNat) same rfl same rfl⟩ al0))
theorem PZ {N:Nat}{p_h:B3}{p_v:Int}{y:Sl Int}(h:Bc N p_h p_v=some y) :FunO S GD [.p (.agg (B2 p_h)),pN p_v] [] (.vec 0) ([.vec B9 1 y.n (fun i=>cI .i64 (y.g i)) true]) []:=by
 induction N generalizing p_h p_v y with
 |zero=>cases (show (none:Option (Sl Int))=some y from h)
 |succ N ih=>exact WF hS hL (fun e=>ih e) h
def AU (N:Nat)(p_h:B3):Option Int:=
 (AT N p_h.Tree).bind fun y1=>
 if (y1 != 0) then
  some 16
 else
  if (decide (64<(p_h.Laws.n:Int))) then
   some 12
  else
   R5 N (fun self1 (x1:Int)=>
    if (decide (x1<(p_h.Laws.n:Int))) then
     if ((0:Int)<=x1/\x1<(p_h.Laws.n:Int))then
      (W5 N (p_h.Laws.g x1.toNat)).bind fun y4=>
      if (y4 != 0) then
       some 17
      else
       self1 (wrap .i64 (x1+1))
     else none
    else
     R5 N (fun self4 (x3:Int)=>
      if (decide (x3<(p_h.Laws.n:Int))) then
       R5 N (fun self5 (x5:Int)=>
        if (decide (x5<x3)) then
         if (((0:Int)<=x3/\x3<(p_h.Laws.n:Int))/\((0:Int)<=x5/\x5<(p_h.Laws.n:Int)))then
          if (((p_h.Laws.g x3.toNat).Name==(p_h.Laws.g x5.toNat).Name) != false) then
           some 6
          else
           self5 (wrap .i64 (x5+1))
         else none
        else
         self4 (wrap .i64 (x3+1))
        ) 0
      else
       if ((p_h.On.n:Int) != (p_h.Tree.n:Int)) then
        some 2
       else
        R5 N (fun self6 (x6:Int)=>
         if (decide (x6<(p_h.On.n:Int))) then
          (Bc N p_h x6).bind fun y7=>
          if (decide (64<(y7.n:Int))) then
           some 2
          else
           self6 (wrap .i64 (x6+1))
         else
          R5 N (fun self9 (x8:Int)=>
           if (decide (x8<(p_h.On.n:Int))) then
            R5 N (fun self10 (x10:Int)=>
             if ((0:Int)<=x8/\x8<(p_h.On.n:Int))then
              if (decide (x10<((p_h.On.g x8.toNat).n:Int))) then
               if (((0:Int)<=x8/\x8<(p_h.On.n:Int))/\((0:Int)<=x10/\x10<((p_h.On.g x8.toNat).n:Int)))then
                if (decide (((p_h.On.g x8.toNat).g x10.toNat)<0)) then
                 some 3
                else
                 if (((0:Int)<=x8/\x8<(p_h.On.n:Int))/\((0:Int)<=x10/\x10<((p_h.On.g x8.toNat).n:Int)))then
                  if (decide ((p_h.Laws.n:Int)<=((p_h.On.g x8.toNat).g x10.toNat))) then
                   some 3
                  else
                   self10 (wrap .i64 (x10+1))
                 else none
               else none
              else
               self9 (wrap .i64 (x8+1))
             else none
             ) 0
           else
            some 0
           ) 0
         ) 0
      ) 0
    ) 0
theorem Nl {N:Nat}{p_h:B3}{y:Int}(h:AU N p_h=some y) :FunO S Ml [.p (.agg (B2 p_h))] [] (pN y) ([]) []:=by
 unfold AU at h;refine A1 hS VB ?_;refine J3 hS trivial 2 2000 (B2 p_h) ?_;refine kC hS h (Nk hS hL) (fun y1 h=>?_);refine kI hS h (fun h=>?_) (fun h=>?_)
 ·cases h;exact kR hS
 ·refine kI hS h (fun h=>?_) (fun h=>?_)
  ·cases h;exact kR hS
  ·refine G7 hS trivial h (fun x1=>⟨[(3,pN x1),(1,.p (.ptr (B2 p_h)))],[]⟩) (ids:=[]) (fun _ _ _ _ _ self1 x1 hb1 h=>?_);refine kI hS h (fun h=>?_) (fun h=>?_)
   ·obtain⟨c10,h⟩:=D2 h;obtain⟨y4,e4,h⟩:=B6 h;refine B8 hS [] (And.intro c10 (by decide:(18:Nat)<=18)) (HN hS hL e4) ?_;refine kI hS h (fun h=>?_) (fun h=>?_)
    ·cases h;exact kR hS
    ·exact hb1 _ [] _ (wrap .i64 (x1+1)) trivial h
   ·refine G7 hS trivial h (fun x3=>⟨[(4,pN x3),(1,.p (.ptr (B2 p_h)))],[]⟩) (ids:=[]) (fun _ _ _ _ _ self4 x3 hb4 h=>?_);refine kI hS h (fun h=>?_) (fun h=>?_)
    ·refine G7 hS trivial h (fun x5=>⟨[(5,pN x5),(4,pN x3),(1,.p (.ptr (B2 p_h)))],[]⟩) (ids:=[]) (fun _ _ _ _ _ self5 x5 hb5 h=>?_);refine kI hS h (fun h=>?_) (fun h=>?_)
     ·refine D7 hS trivial [1,3,5,7,9,11] ?_;obtain⟨c40,h⟩:=D2 h;refine H5 c40 ?_;refine kI hS h (fun h=>?_) (fun h=>?_)
      ·cases h;exact kR hS
      ·exact hb5 _ [] _ (wrap .i64 (x5+1)) trivial h
     ·exact hb4 _ [] _ (wrap .i64 (x3+1)) trivial h
    ·refine kI hS h (fun h=>?_) (fun h=>?_)
     ·cases h;exact kR hS
     ·refine G7 hS trivial h (fun x6=>⟨[(6,pN x6),(1,.p (.ptr (B2 p_h)))],[]⟩) (ids:=[]) (fun _ _ _ _ _ self6 x6 hb6 h=>?_);refine kI hS h (fun h=>?_) (fun h=>?_)
      ·obtain⟨y7,e7,h⟩:=B6 h;refine B8 hS [] (by decide:(3:Nat)<=3) (PZ hS hL e7) ?_;refine kI hS h (fun h=>?_) (fun h=>?_)
       ·cases h;exact kR hS
       ·exact hb6 _ [] _ (wrap .i64 (x6+1)) trivial h
      ·refine G7 hS trivial h (fun x8=>⟨[(7,pN x8),(1,.p (.ptr (B2 p_h)))],[]⟩) (ids:=[]) (fun _ _ _ _ _ self9 x8 hb9 h=>?_);refine kI hS h (fun h=>?_) (fun h=>?_)
       ·refine G7 hS trivial h (fun x10=>⟨[(8,pN x10),(7,pN x8),(1,.p (.ptr (B2 p_h)))],[]⟩) (ids:=[]) (fun _ _ _ _ _ self10 x10 hb10 h=>?_);obtain⟨c100,h⟩:=D2 h;refine D3 hS c100 (b:=decide (x10<((p_h.On.g x8.toNat).n:Int))) (fun c101=>?_) (fun c101=>?_)
        ·replace h:=itT c101 h;refine D7 hS trivial [1,3,4,6,7,11,13,14,16,17,19] ?_;obtain⟨c102,h⟩:=D2 h;refine LZ c102 (b:=decide (((p_h.On.g x8.toNat).g x10.toNat)<0)) (fun c103=>?_) (fun c103=>?_)
         ·replace h:=itT c103 h;refine H5 trivial ?_;cases h;exact kR hS
         ·replace h:=itF c103 h;obtain⟨c104,h⟩:=D2 h;refine H5 c104 ?_;refine kI hS h (fun h=>?_) (fun h=>?_)
          ·cases h;exact kR hS
          ·exact hb10 _ [] _ (wrap .i64 (x10+1)) trivial h
        ·replace h:=itF c101 h;exact hb9 _ [] _ (wrap .i64 (x8+1)) trivial h
       ·cases h;exact kR hS
def GH (N:Nat)(p_h:B3)(p_v:Int):Option Bool:=
 some ((decide (0<=p_v))&&(decide (p_v<(p_h.Tree.n:Int))))
theorem Aa2 {N:Nat}{p_h:B3}{p_v:Int}{y:Bool}(h:GH N p_h p_v=some y) :FunO S PB [.p (.agg (B2 p_h)),pN p_v] [] (pB y) ([]) []:=by unfold GH at h;refine A1 hS Zy ?_;refine kB hS (A3 hS) trivial trivial 6 (.n (.a (decide (0<=p_v))) (.a (decide (p_v<(p_h.Tree.n:Int))))) ?_;cases h;exact kR hS
def EB (N:Nat)(p_h:B3)(p_v:Int):Option ((Sl Int)×Int):=
 (AU N p_h).bind fun y1=>
 if (y1 != 0) then
  some ((Sl.nil:Sl Int),y1)
 else
  (GH N p_h p_v).bind fun y2=>
  if (!y2) then
   some ((Sl.nil:Sl Int),3)
  else
   (Bc N p_h p_v).bind fun y3=>
   some (y3,0)
theorem Aa3 {N:Nat}{p_h:B3}{p_v:Int}{y:(Sl Int)×Int}(h:EB N p_h p_v=some y) :FunO S PA [.p (.agg (B2 p_h)),pN p_v] [] (.tup [.vec 0,pN y.2]) ([.vec B9 1 y.1.n (fun i=>cI .i64 (y.1.g i)) true]) []:=by
 unfold EB at h;refine A1 hS Zx ?_;refine kC hS h (Nl hS hL) (fun y1 h=>?_);refine kI hS h (fun h=>?_) (fun h=>?_)
 ·obtain rfl:=B7 h;exact A6 hS trivial ⟨[(5,pN y1),(4,.vec 5700)],[(5700,.vec B9 1 (Sl.nil:Sl Int).n (fun i=>cI .i64 ((Sl.nil:Sl Int).g i)) true)]⟩ [5700] (ids:=[]) ⟨rfl,rfl,rfl⟩
 ·refine kC hS h (Aa2 hS hL) (fun y2 h=>?_);refine kI hS h (fun h=>?_) (fun h=>?_)
  ·obtain rfl:=B7 h;exact A6 hS trivial ⟨[(5,pN 3),(4,.vec 5700)],[(5700,.vec B9 1 (Sl.nil:Sl Int).n (fun i=>cI .i64 ((Sl.nil:Sl Int).g i)) true)]⟩ [5700] (ids:=[]) ⟨rfl,rfl,rfl⟩
  ·refine kC hS h (PZ hS hL) (fun y3 h=>?_);obtain rfl:=B7 h;exact A6 hS trivial ⟨[(5,pN 0),(4,.vec 19000)],[(19000,.vec B9 1 y3.n (fun i=>cI .i64 (y3.g i)) true)]⟩ [19000] (ids:=[(19000,19000)]) ⟨rfl,rfl,rfl⟩
def CX (N:Nat)(p_h:B3)(p_v:Int):Option ((Sl Law)×Int):=
 (EB N p_h p_v).bind fun y1=>
 S4 N (fun self1 (x1:Sl Law) (x2:Int)=>
  if (decide (x2<(y1.1.n:Int))) then
   if ((((0:Int)<=x2/\x2<(y1.1.n:Int))/\x2.toNat<y1.1.n)/\((0:Int)<=(y1.1.g x2.toNat)/\(y1.1.g x2.toNat)<(p_h.Laws.n:Int)))then
    if ((x1.n+(Sl.of [p_h.Laws.g (y1.1.g x2.toNat).toNat]:Sl Law).n)*200<=140737488355328/\x1.n+(Sl.of [p_h.Laws.g (y1.1.g x2.toNat).toNat]:Sl Law).n<=140737488355328)then
     self1 (x1.push (p_h.Laws.g (y1.1.g x2.toNat).toNat)) (wrap .i64 (x2+1))
    else none
   else none
  else
   some (x1,y1.2)
  ) (Sl.nil:Sl Law) 0
theorem Aa4 {N:Nat}{p_h:B3}{p_v:Int}{y:(Sl Law)×Int}(h:CX N p_h p_v=some y) :FunO S Pz [.p (.agg (B2 p_h)),pN p_v] [] (.tup [.vec 0,pN y.2]) ([.vec I7 18 y.1.n (fun i=>A5 (y.1.g i)) true]) []:=by
 unfold CX at h;refine A1 hS Zv ?_;refine J3 hS trivial 4 3000 (B2 p_h) ?_;obtain⟨y1,e1,h⟩:=B6 h;refine B8 hS [] (by decide:(3:Nat)<=3) (Aa3 hS hL e1) ?_;refine F5 hS trivial h (fun x1 x2=>⟨[(9,pN x2),(8,.vec 9500),(7,pN y1.2),(6,.vec 14000),(2,.p (.ptr (B2 p_h)))],[(14000,.vec B9 1 y1.1.n (fun i=>cI .i64 (y1.1.g i)) true),(9500,.vec I7 18 x1.n (fun i=>A5 (x1.g i)) false)]⟩) (ids:=[(14000,14000)]) (fun _ _ _ _ _ self1 x1 x2 hb1 h=>?_);refine kI hS h (fun h=>?_) (fun h=>?_)
 ·refine D7 hS trivial [2,7,8] ?_;obtain⟨c8,h⟩:=D2 h;refine EN (And.intro (And.intro (And.intro c8.1.1 c8.1.2) c8.2) (by decide:(18:Nat)<=18)) (x:=.sl true 18 1 (D4 [.str [],pI .i64 0,pI .u32 0,pI .u32 0,.v (.bool false),pI .i64 0,pI .i64 0,J2,pI .i64 0,pI .u32 0,pI .u32 0,.v (.bool false),pI .i64 0,pI .i64 0,J2,J2,J2,pI .i64 0] [(0,A5 (p_h.Laws.g (y1.1.g x2.toNat).toNat))])) ?_;obtain⟨c9,h⟩:=D2 h;refine H5 c9 ?_;exact hb1 _ [(9500,33000),(14000,14000)] _ (x1.push (p_h.Laws.g (y1.1.g x2.toNat).toNat)) (wrap .i64 (x2+1)) trivial h (hle:=klR [(4,.fn (x1.n+1) (x1.push (p_h.Laws.g (y1.1.g x2.toNat).toNat)).n (R4 x1.n (fun i=>A5 (x1.g i)) (D4 [.str [],pI .i64 0,pI .u32 0,pI .u32 0,.v (.bool false),pI .i64 0,pI .i64 0,J2,pI .i64 0,pI .u32 0,pI .u32 0,.v (.bool false),pI .i64 0,pI .i64 0,J2,J2,J2,pI .i64 0] [(0,A5 (p_h.Laws.g (y1.1.g x2.toNat).toNat))])) (fun i=>A5 ((x1.push (p_h.Laws.g (y1.1.g x2.toNat).toNat)).g i)))] (al1 ⟨rfl,Er (c:=A5) (v:=x1) (x:=p_h.Laws.g (y1.1.g x2.toNat).toNat) (z:=[(.str []),pI .i64 0,pI .u32 0,pI .u32 0,.v (.bool false),pI .i64 0,pI .i64 0,J2,pI .i64 0,pI .u32 0,pI .u32 0,.v (.bool false),pI .i64 0,pI .i64 0,J2,J2,J2,pI .i64 0]) same rfl rfl⟩ al0))
 ·obtain rfl:=B7 h;exact A6 hS trivial ⟨[(5,pN y1.2),(4,.vec 9500)],[(9500,.vec I7 18 x1.n (fun i=>A5 (x1.g i)) true)]⟩ [9500] (ids:=[(9500,9500)]) ⟨rfl,rfl,rfl⟩
def Ff (N:Nat)(p_c:Int):Option Bool:=
 some (((((decide (97<=p_c))&&(decide (p_c<=122)))||((decide (65<=p_c))&&(decide (p_c<=90))))||((decide (48<=p_c))&&(decide (p_c<=57))))||(p_c==45))
theorem RD {N:Nat}{p_c:Int}{y:Bool}(h:Ff N p_c=some y) :FunO S IF [.p (pI .u8 p_c)] [] (pB y) ([]) []:=by unfold Ff at h;refine A1 hS Ri ?_;refine kB hS (A3 hS) trivial trivial 23 (.o (.o (.o (.n (.a (decide (97<=p_c))) (.a (decide (p_c<=122)))) (.n (.a (decide (65<=p_c))) (.a (decide (p_c<=90))))) (.n (.a (decide (48<=p_c))) (.a (decide (p_c<=57))))) (.a (p_c==45))) ?_;cases h;exact kR hS
def Cw (N:Nat)(p_s:Str):Option Bool:=
 R5 N (fun self1 (x1:Int)=>
  if (decide (x1<(p_s.length:Int))) then
   if ((0:Int)<=x1/\x1<(p_s.length:Int))then
    (Ff N (Z8 p_s x1)).bind fun y3=>
    if (!y3) then
     some false
    else
     self1 (wrap .i64 (x1+1))
   else none
  else
   some ((decide (0<(p_s.length:Int)))&&(decide ((p_s.length:Int)<=24)))
  ) 0
theorem Ui {N:Nat}{p_s:Str}{y:Bool}(h:Cw N p_s=some y) :FunO S Ks [.p (.str p_s)] [] (pB y) ([]) []:=by
 unfold Cw at h;refine A1 hS Tt ?_;refine G7 hS trivial h (fun x1=>⟨[(6,pN x1),(5,pN (p_s.length:Int)),(0,.p (.str p_s))],[]⟩) (ids:=[]) (fun _ _ _ _ _ self1 x1 hb1 h=>?_);refine kI hS h (fun h=>?_) (fun h=>?_)
 ·obtain⟨c8,h⟩:=D2 h;obtain⟨y3,e3,h⟩:=B6 h;refine B8 hS [] c8 (RD hS hL e3) ?_;refine kI hS h (fun h=>?_) (fun h=>?_)
  ·cases h;exact kR hS
  ·exact hb1 _ [] _ (wrap .i64 (x1+1)) trivial h
 ·refine kB hS (A3 hS) trivial trivial 4 (.n (.a (decide (0<(p_s.length:Int)))) (.a (decide ((p_s.length:Int)<=24)))) ?_;cases h;exact kR hS
def S8 (N:Nat)(p_t:Sl Y4):Option Int:=
 if (((p_t.n:Int)==0)||(decide (63<(p_t.n:Int)))) then
  some 16
 else
  S4 N (fun self1 (x2:List (Str×Bool)) (x3:Int)=>
   if (decide (x3<(p_t.n:Int))) then
    if ((0:Int)<=x3/\x3<(p_t.n:Int))then
     lt (fun (z3:Bool)=>
      if z3 then
       some 16
      else
       self1 (QO eqS (p_t.g x3.toNat).Name true x2) (wrap .i64 (x3+1))
      ) fun k3=>
      if (decide (x3<=(p_t.g x3.toNat).Parent)) then
       k3 true
      else
       if (decide ((p_t.g x3.toNat).Parent<(if 0<(wrap .i64 (x3-1))then 0 else (wrap .i64 (x3-1))))) then
        k3 true
       else
        (Cw N (p_t.g x3.toNat).Name).bind fun y6=>
        if (!y6) then
         k3 true
        else
         AP5 (De eqS (p_t.g x3.toNat).Name x2) (
          k3 false
          ) fun v6=>
          k3 v6
    else none
   else
    some 0
   ) [] 0
theorem Gn {N:Nat}{p_t:Sl Y4}{y:Int}(h:S8 N p_t=some y) :FunO S Kq [.p (vSl 2 O6 p_t)] [] (pN y) ([]) []:=by
 unfold S8 at h;refine A1 hS Tr ?_;refine kB hS (A3 hS) trivial trivial 4 (.o (.a ((p_t.n:Int)==0)) (.a (decide (63<(p_t.n:Int))))) ?_;refine kI hS h (fun h=>?_) (fun h=>?_)
 ·cases h;exact kR hS
 ·refine F5 hS trivial h (fun x2 x3=>⟨[(17,pN x3),(16,pN (p_t.n:Int)),(15,.p (vSl 2 O6 p_t)),(3,.mref 15000)],[(15000,.map (Pq PV.str PV.bb x2))]⟩) (ids:=[(15000,15000)]) (fun _ _ _ _ _ self1 x2 x3 hb3 h=>?_);refine kI hS h (fun h=>?_) (fun h=>?_)
  ·obtain⟨c25,h⟩:=D2 h;refine FM hS (And.intro c25 (by decide:(2:Nat)<=2)) (A3 hS) h 0 (fun z3=>⟨[(45,pB z3),(17,pN x3),(16,pN (p_t.n:Int)),(15,.p (vSl 2 O6 p_t)),(5,.reg 6000 0),(3,.mref 15000)],[(15000,.map (Pq PV.str PV.bb x2)),(6000,.cells [pN (p_t.g x3.toNat).Parent,.p (.str (p_t.g x3.toNat).Name)])]⟩) (fun M3 k3 hb4 h=>?_) (fun z3 h=>?_)
   ·refine kG hS h (fun h=>?_) (fun h=>?_)
    ·exact hb4 _ [(6000,6000),(15000,15000)] _ true trivial h
    ·refine kG hS h (fun h=>?_) (fun h=>?_)
     ·exact hb4 _ [(6000,6000),(15000,15000)] _ true trivial h
     ·refine kC hS h (Ui hS hL) (fun y6 h=>?_);refine kG hS h (fun h=>?_) (fun h=>?_)
      ·exact hb4 _ [(6000,6000),(15000,15000)] _ true trivial h
      ·rcases o6:De eqS (p_t.g x3.toNat).Name x2 with _|v6
       ·replace h:=optN o6 h;refine Lj hS trivial (kt:=EY) (e:=AD8) (key:=PV.str (p_t.g x3.toNat).Name) (es:=Pq PV.str PV.bb x2) (x:=.v (.bool false)) (b:=false) (fd:=none) ((FK (kP:=PV.str) (vP:=PV.bb) (eq:=eqS) (fun _ _=>by kernel_rfl) (p_t.g x3.toNat).Name x2).trans (by rw[o6];rfl)) trivial ?_;exact hb4 _ [(6000,6000),(15000,15000)] _ false trivial h
       ·replace h:=optS o6 h;refine Lj hS trivial (kt:=EY) (e:=AD8) (key:=PV.str (p_t.g x3.toNat).Name) (es:=Pq PV.str PV.bb x2) (x:=PV.bb v6) (b:=true) (fd:=some (PV.bb v6)) ((FK (kP:=PV.str) (vP:=PV.bb) (eq:=eqS) (fun _ _=>by kernel_rfl) (p_t.g x3.toNat).Name x2).trans (by rw[o6];rfl)) trivial ?_;exact hb4 _ [(6000,6000),(15000,15000)] _ v6 trivial h
   ·refine kI hS h (fun h=>?_) (fun h=>?_)
    ·cases h;exact kR hS
    ·refine QT hS trivial (kt:=EY) (key:=PV.str (p_t.g x3.toNat).Name) (y:=PV.bb true) (es:=Pq PV.str PV.bb x2) (Li (kP:=PV.str) (vP:=PV.bb) (eq:=eqS) (fun _ _=>by kernel_rfl) (p_t.g x3.toNat).Name true x2) trivial ?_;exact hb3 _ [(15000,15000)] _ (QO eqS (p_t.g x3.toNat).Name true x2) (wrap .i64 (x3+1)) trivial h
  ·cases h;exact kR hS
def X4 (N:Nat)(p_h:B3):Option Int:=
 if ((0:Int)<=(p_h.On.n:Int)/\(p_h.On.n:Int)<=(p_h.On.n:Int)/\(p_h.On.n:Int)*8<=140737488355328/\(p_h.On.n:Int)<=140737488355328)then
  AI6 N (fun self3 (x4:Sl Int) (x5:Bool) (x6:Int)=>
   if (decide (x6<(p_h.On.n:Int))) then
    if ((((0:Int)<=x6/\x6<(p_h.On.n:Int))/\((0:Int)<=x6/\x6<(x4.n:Int)))/\x6.toNat<x4.n)then
     if ((0:Int)<=x6/\x6<(p_h.Tree.n:Int))then
      lt (fun (z3:Sl Int)=>
       if (((0:Int)<=x6/\x6<(z3.n:Int))/\x6.toNat<z3.n)then
        if (decide (64<(z3.g x6.toNat))) then
         some 2
        else
         S4 N (fun self4 (x11:Bool) (x12:Int)=>
          if (decide (x12<((p_h.On.g x6.toNat).n:Int))) then
           if ((0:Int)<=x12/\x12<((p_h.On.g x6.toNat).n:Int))then
            self4 ((x11||(decide (((p_h.On.g x6.toNat).g x12.toNat)<0)))||(decide ((p_h.Laws.n:Int)<=((p_h.On.g x6.toNat).g x12.toNat)))) (wrap .i64 (x12+1))
           else none
          else
           self3 z3 x11 (wrap .i64 (x6+1))
          ) x5 0
       else none
       ) fun k3=>
       if (decide (0<=(p_h.Tree.g x6.toNat).Parent)) then
        if (((((((0:Int)<=x6/\x6<((x4.upd x6.toNat ((p_h.On.g x6.toNat).n:Int)).n:Int))/\x6.toNat<(x4.upd x6.toNat ((p_h.On.g x6.toNat).n:Int)).n)/\((0:Int)<=(p_h.Tree.g x6.toNat).Parent/\(p_h.Tree.g x6.toNat).Parent<((x4.upd x6.toNat ((p_h.On.g x6.toNat).n:Int)).n:Int)))/\(p_h.Tree.g x6.toNat).Parent.toNat<(x4.upd x6.toNat ((p_h.On.g x6.toNat).n:Int)).n)/\((0:Int)<=x6/\x6<((x4.upd x6.toNat ((p_h.On.g x6.toNat).n:Int)).n:Int)))/\x6.toNat<(x4.upd x6.toNat ((p_h.On.g x6.toNat).n:Int)).n)then
         k3 ((x4.upd x6.toNat ((p_h.On.g x6.toNat).n:Int)).upd x6.toNat (wrap .i64 (((x4.upd x6.toNat ((p_h.On.g x6.toNat).n:Int)).g x6.toNat)+((x4.upd x6.toNat ((p_h.On.g x6.toNat).n:Int)).g (p_h.Tree.g x6.toNat).Parent.toNat))))
        else none
       else
        k3 (x4.upd x6.toNat ((p_h.On.g x6.toNat).n:Int))
     else none
    else none
   else
    if x5 then
     some 3
    else
     some 0
   ) (Sl.rep (p_h.On.n:Int).toNat 0:Sl Int) false 0
 else none
theorem Nm {N:Nat}{p_h:B3}{y:Int}(h:X4 N p_h=some y) :FunO S FU [.p (.agg (B2 p_h))] [] (pN y) ([]) []:=by
 unfold X4 at h;refine A1 hS Mr ?_;refine J3 hS trivial 2 2000 (B2 p_h) ?_;obtain⟨c1,h⟩:=D2 h;refine SW hS c1 h (fun x4 x5 x6=>⟨[(17,pN x6),(16,pN (p_h.On.n:Int)),(15,.p (vSl 1 (cL 1 (cI .i64)) p_h.On)),(4,pB x5),(3,.vec 14000),(1,.p (.ptr (B2 p_h)))],[(14000,.vec B9 1 x4.n (fun i=>cI .i64 (x4.g i)) false)]⟩) (ids:=[(14000,14000)]) (fun _ _ _ _ _ self3 x4 x5 x6 hb5 h=>?_);refine kI hS h (fun h=>?_) (fun h=>?_)
 ·obtain⟨c35,h⟩:=D2 h;refine J0 hS (And.intro (And.intro c35.1.1 c35.1.2) (And.intro (rfl:(1:Nat)=1) (And.intro c35.2 (by decide:(1:Nat)<=1)))) 27 ⟨[(17,pN x6),(16,pN (p_h.On.n:Int)),(15,.p (vSl 1 (cL 1 (cI .i64)) p_h.On)),(6,.p (vSl 1 (cI .i64) (p_h.On.g x6.toNat))),(5,pN x6),(4,pB x5),(3,.vec 14000),(1,.p (.ptr (B2 p_h)))],[(14000,.vec B9 1 (x4.upd x6.toNat ((p_h.On.g x6.toNat).n:Int)).n (fun i=>cI .i64 ((x4.upd x6.toNat ((p_h.On.g x6.toNat).n:Int)).g i)) false)]⟩ (ids:=[(14000,14000)]) ?_ (hle:=klR [(7,.fn x4.n (x4.upd x6.toNat ((p_h.On.g x6.toNat).n:Int)).n (fun l=>if l=x6.toNat then splice ((fun i=>cI .i64 (x4.g i)) l) 0 [pI .i64 ((p_h.On.g x6.toNat).n:Int)]else (fun i=>cI .i64 (x4.g i)) l) (fun i=>cI .i64 ((x4.upd x6.toNat ((p_h.On.g x6.toNat).n:Int)).g i)))] (al1 ⟨rfl,Av0 (c:=cI .i64) (v:=x4) (x:=((p_h.On.g x6.toNat).n:Int)) same (fun _=>by first|rfl|(dsimp only;split<;>rfl))⟩ al0));obtain⟨c36,h⟩:=D2 h;refine FM hS c36 (A3 hS) h 0 (fun z3=>⟨[(17,pN x6),(16,pN (p_h.On.n:Int)),(15,.p (vSl 1 (cL 1 (cI .i64)) p_h.On)),(6,.p (vSl 1 (cI .i64) (p_h.On.g x6.toNat))),(5,pN x6),(4,pB x5),(3,.vec 14000),(1,.p (.ptr (B2 p_h)))],[(14000,.vec B9 1 z3.n (fun i=>cI .i64 (z3.g i)) false)]⟩) (fun M3 k3 hb6 h=>?_) (fun z3 h=>?_)
  ·refine kI hS h (fun h=>?_) (fun h=>?_)
   ·refine LY hS trivial ?_;obtain⟨c41,h⟩:=D2 h;refine H5 (And.intro (And.intro (And.intro (And.intro (And.intro c41.1.1.1.1.1 c41.1.1.1.1.2) c41.1.1.1.2) c41.1.1.2) c41.1.2) (And.intro (rfl:(1:Nat)=1) (And.intro c41.2 (by decide:(1:Nat)<=1)))) ?_;exact hb6 _ [(14000,14000)] _ ((x4.upd x6.toNat ((p_h.On.g x6.toNat).n:Int)).upd x6.toNat (wrap .i64 (((x4.upd x6.toNat ((p_h.On.g x6.toNat).n:Int)).g x6.toNat)+((x4.upd x6.toNat ((p_h.On.g x6.toNat).n:Int)).g (p_h.Tree.g x6.toNat).Parent.toNat)))) trivial h (hle:=klR [(7,.fn (x4.upd x6.toNat ((p_h.On.g x6.toNat).n:Int)).n ((x4.upd x6.toNat ((p_h.On.g x6.toNat).n:Int)).upd x6.toNat (wrap .i64 (((x4.upd x6.toNat ((p_h.On.g x6.toNat).n:Int)).g x6.toNat)+((x4.upd x6.toNat ((p_h.On.g x6.toNat).n:Int)).g (p_h.Tree.g x6.toNat).Parent.toNat)))).n (fun l=>if l=x6.toNat then splice ((fun i=>cI .i64 ((x4.upd x6.toNat ((p_h.On.g x6.toNat).n:Int)).g i)) l) 0 [pI .i64 (wrap .i64 (((x4.upd x6.toNat ((p_h.On.g x6.toNat).n:Int)).g x6.toNat)+((x4.upd x6.toNat ((p_h.On.g x6.toNat).n:Int)).g (p_h.Tree.g x6.toNat).Parent.toNat)))]else (fun i=>cI .i64 ((x4.upd x6.toNat ((p_h.On.g x6.toNat).n:Int)).g i)) l) (fun i=>cI .i64 (((x4.upd x6.toNat ((p_h.On.g x6.toNat).n:Int)).upd x6.toNat (wrap .i64 (((x4.upd x6.toNat ((p_h.On.g x6.toNat).n:Int)).g x6.toNat)+((x4.upd x6.toNat ((p_h.On.g x6.toNat).n:Int)).g (p_h.Tree.g x6.toNat).Parent.toNat)))).g i)))] (al1 ⟨rfl,Av0 (c:=cI .i64) (v:=x4.upd x6.toNat ((p_h.On.g x6.toNat).n:Int)) (x:=wrap .i64 (((x4.upd x6.toNat ((p_h.On.g x6.toNat).n:Int)).g x6.toNat)+((x4.upd x6.toNat ((p_h.On.g x6.toNat).n:Int)).g (p_h.Tree.g x6.toNat).Parent.toNat))) same (fun _=>by first|rfl|(dsimp only;split<;>rfl))⟩ al0))
   ·exact hb6 _ [(14000,14000)] _ (x4.upd x6.toNat ((p_h.On.g x6.toNat).n:Int)) trivial h
  ·obtain⟨c42,h⟩:=D2 h;refine D3 hS c42 (b:=decide (64<(z3.g x6.toNat))) (fun c43=>?_) (fun c43=>?_)
   ·replace h:=itT c43 h;cases h;exact kR hS
   ·replace h:=itF c43 h;refine F5 hS trivial h (fun x11 x12=>⟨[(52,pN x12),(51,pN ((p_h.On.g x6.toNat).n:Int)),(50,.p (vSl 1 (cI .i64) (p_h.On.g x6.toNat))),(17,pN x6),(16,pN (p_h.On.n:Int)),(15,.p (vSl 1 (cL 1 (cI .i64)) p_h.On)),(4,pB x11),(3,.vec 14000),(1,.p (.ptr (B2 p_h)))],[(14000,.vec B9 1 z3.n (fun i=>cI .i64 (z3.g i)) false)]⟩) (ids:=[(14000,14000)]) (fun _ _ _ _ _ self4 x11 x12 hb7 h=>?_);refine kI hS h (fun h=>?_) (fun h=>?_)
    ·obtain⟨c49,h⟩:=D2 h;refine kB hS (A3 hS) c49 trivial 10 (.o (.o (.a x11) (.a (decide (((p_h.On.g x6.toNat).g x12.toNat)<0)))) (.a (decide ((p_h.Laws.n:Int)<=((p_h.On.g x6.toNat).g x12.toNat))))) ?_;exact hb7 _ [(14000,14000)] _ ((x11||(decide (((p_h.On.g x6.toNat).g x12.toNat)<0)))||(decide ((p_h.Laws.n:Int)<=((p_h.On.g x6.toNat).g x12.toNat)))) (wrap .i64 (x12+1)) trivial h
    ·exact hb5 _ [(14000,14000)] _ z3 x11 (wrap .i64 (x6+1)) trivial h
 ·refine kI hS h (fun h=>?_) (fun h=>?_)
  ·cases h;exact kR hS
  ·cases h;exact kR hS
def P2 (N:Nat)(p_h:B3):Option Int:=
 (S8 N p_h.Tree).bind fun y1=>
 if (y1 != 0) then
  some 16
 else
  if (decide (64<(p_h.Laws.n:Int))) then
   some 12
  else
   S4 N (fun self1 (x1:List (Str×Int)) (x2:Int)=>
    if (decide (x2<(p_h.Laws.n:Int))) then
     if ((0:Int)<=x2/\x2<(p_h.Laws.n:Int))then
      (W9 N (p_h.Laws.g x2.toNat)).bind fun y4=>
      if (y4 != 0) then
       some 17
      else
       AP5 (De eqS (p_h.Laws.g x2.toNat).Name x1) (
        self1 (QO eqS (p_h.Laws.g x2.toNat).Name (wrap .i64 (0+1)) x1) (wrap .i64 (x2+1))
        ) fun v3=>
        self1 (QO eqS (p_h.Laws.g x2.toNat).Name (wrap .i64 (v3+1)) x1) (wrap .i64 (x2+1))
     else none
    else
     if (decide (((Pq PV.str (pI .i64) x1).length:Int)<(p_h.Laws.n:Int))) then
      some 6
     else
      if ((p_h.On.n:Int) != (p_h.Tree.n:Int)) then
       some 2
      else
       (X4 N p_h).bind fun y5=>
       some y5
    ) [] 0
theorem Gp {N:Nat}{p_h:B3}{y:Int}(h:P2 N p_h=some y) :FunO S FS [.p (.agg (B2 p_h))] [] (pN y) ([]) []:=by
 unfold P2 at h;refine A1 hS Mk ?_;refine kC hS h (Gn hS hL) (fun y1 h=>?_);refine kI hS h (fun h=>?_) (fun h=>?_)
 ·cases h;exact kR hS
 ·refine kI hS h (fun h=>?_) (fun h=>?_)
  ·cases h;exact kR hS
  ·refine F5 hS trivial h (fun x1 x2=>⟨[(18,pN x2),(17,pN (p_h.Laws.n:Int)),(16,.p (vSl 18 A5 p_h.Laws)),(3,.mref 15000),(1,.reg 2000 0)],[(15000,.map (Pq PV.str (pI .i64) x1)),(2000,.cells ((B2 p_h).map .p))]⟩) (ids:=[(2000,2000),(15000,15000)]) (fun _ _ _ _ _ self1 x1 x2 hb1 h=>?_);refine kI hS h (fun h=>?_) (fun h=>?_)
   ·obtain⟨c10,h⟩:=D2 h;obtain⟨y4,e4,h⟩:=B6 h;refine B8 hS [] (And.intro c10 (by decide:(18:Nat)<=18)) (HO hS hL e4) ?_;refine kI hS h (fun h=>?_) (fun h=>?_)
    ·cases h;exact kR hS
    ·rcases o3:De eqS (p_h.Laws.g x2.toNat).Name x1 with _|v3
     ·replace h:=optN o3 h;refine Lj hS trivial (kt:=EY) (e:=B9) (key:=PV.str (p_h.Laws.g x2.toNat).Name) (es:=Pq PV.str (pI .i64) x1) (x:=pI .i64 0) (b:=false) (fd:=none) ((FK (kP:=PV.str) (vP:=pI .i64) (eq:=eqS) (fun _ _=>by kernel_rfl) (p_h.Laws.g x2.toNat).Name x1).trans (by rw[o3];rfl)) trivial ?_;refine QT hS trivial (kt:=EY) (key:=PV.str (p_h.Laws.g x2.toNat).Name) (y:=pI .i64 (wrap .i64 (0+1))) (es:=Pq PV.str (pI .i64) x1) (Li (kP:=PV.str) (vP:=pI .i64) (eq:=eqS) (fun _ _=>by kernel_rfl) (p_h.Laws.g x2.toNat).Name (wrap .i64 (0+1)) x1) trivial ?_;exact hb1 _ [(2000,2000),(15000,15000)] _ (QO eqS (p_h.Laws.g x2.toNat).Name (wrap .i64 (0+1)) x1) (wrap .i64 (x2+1)) trivial h
     ·replace h:=optS o3 h;refine Lj hS trivial (kt:=EY) (e:=B9) (key:=PV.str (p_h.Laws.g x2.toNat).Name) (es:=Pq PV.str (pI .i64) x1) (x:=pI .i64 v3) (b:=true) (fd:=some (pI .i64 v3)) ((FK (kP:=PV.str) (vP:=pI .i64) (eq:=eqS) (fun _ _=>by kernel_rfl) (p_h.Laws.g x2.toNat).Name x1).trans (by rw[o3];rfl)) trivial ?_;refine QT hS trivial (kt:=EY) (key:=PV.str (p_h.Laws.g x2.toNat).Name) (y:=pI .i64 (wrap .i64 (v3+1))) (es:=Pq PV.str (pI .i64) x1) (Li (kP:=PV.str) (vP:=pI .i64) (eq:=eqS) (fun _ _=>by kernel_rfl) (p_h.Laws.g x2.toNat).Name (wrap .i64 (v3+1)) x1) trivial ?_;exact hb1 _ [(2000,2000),(15000,15000)] _ (QO eqS (p_h.Laws.g x2.toNat).Name (wrap .i64 (v3+1)) x1) (wrap .i64 (x2+1)) trivial h
   ·refine kI hS h (fun h=>?_) (fun h=>?_)
    ·cases h;exact kR hS
    ·refine kI hS h (fun h=>?_) (fun h=>?_)
     ·cases h;exact kR hS
     ·refine kC hS h (Nm hS hL) (fun y5 h=>?_);cases h;exact kR hS
def Ci (N:Nat)(p_h:B3)(p_v:Int):Option Bool:=
 some ((decide (0<=p_v))&&(decide (p_v<(p_h.Tree.n:Int))))
theorem OG {N:Nat}{p_h:B3}{p_v:Int}{y:Bool}(h:Ci N p_h p_v=some y) :FunO S Hm [.p (.agg (B2 p_h)),pN p_v] [] (pB y) ([]) []:=by unfold Ci at h;refine A1 hS Og ?_;refine kB hS (A3 hS) trivial trivial 6 (.n (.a (decide (0<=p_v))) (.a (decide (p_v<(p_h.Tree.n:Int))))) ?_;cases h;exact kR hS
def S3 (N:Nat)(q0:Int)(q1:Sl Y4):Option (List (Int)):=
 S4 N (fun self1 (x1:Int) (x2:Sl Int)=>
  if (decide (0<=x1)) then
   if (((x2.n+(Sl.of [x1]:Sl Int).n)*8<=140737488355328/\x2.n+(Sl.of [x1]:Sl Int).n<=140737488355328)/\((0:Int)<=x1/\x1<(q1.n:Int)))then
    self1 (q1.g x1.toNat).Parent (x2.push x1)
   else none
  else
   R5 N (fun self2 (x3:Int)=>
    if (decide (0<=x3)) then
     if (((0:Int)<=x3/\x3<(x2.n:Int))/\x3.toNat<x2.n)then
      Be (x2.g x3.toNat) (
       self2 (wrap .i64 (x3-1))
       )
     else none
    else
     some []
    ) (wrap .i64 ((x2.n:Int)-1))
  ) q0 (Sl.nil:Sl Int)
theorem Nn {N:Nat}{q0:Int}{q1:Sl Y4}{L:List (Int)}(h:S3 N q0 q1=some L) :Dx S Bq [] [.reg 0 0,.reg 1 0] [.cells [pN q0],.cells [.p (vSl 2 O6 q1)]] (L.map (fun (x:Int)=>[pI .i64 x])):=by
 unfold S3 at h;refine EP hS MA ?_;refine QU hS trivial h (fun x1 x2 L1=>⟨[(4,.vec 5500),(2,.reg 1 0),(1,.reg 0 0),(0,.yf 2)],[(5500,.vec B9 1 x2.n (fun i=>cI .i64 (x2.g i)) false),(2,.yld (L1.map (fun (x:Int)=>[pI .i64 x])) true),(1,.cells [.p (vSl 2 O6 q1)]),(0,.cells [pN x1])]⟩) (ids:=[(0,0),(1,1),(2,2)]) (fun _ _ _ _ _ self1 x1 x2 L1 hb1 h=>?_);refine kI hS h (fun h=>?_) (fun h=>?_)
 ·obtain⟨c4,h⟩:=D2 h;exact hb1 _ [(0,0),(1,1),(2,2),(5500,17000)] _ (q1.g x1.toNat).Parent (x2.push x1) L1 (And.intro (And.intro (rfl:true=true) c4.1) c4.2) h (hle:=klR [(0,.fn (x2.n+1) (x2.push x1).n (R4 x2.n (fun i=>cI .i64 (x2.g i)) (D4 [pI .i64 0] [(0,cI .i64 x1)])) (fun i=>cI .i64 ((x2.push x1).g i)))] (al1 ⟨rfl,Er (c:=cI .i64) (v:=x2) (x:=x1) (z:=[(pI .i64 0)]) same rfl rfl⟩ al0))
 ·refine EO hS trivial h (fun x3 L2=>⟨[(5,pN x3),(4,.vec 5500),(0,.yf 2)],[(5500,.vec B9 1 x2.n (fun i=>cI .i64 (x2.g i)) false),(2,.yld (L2.map (fun (x:Int)=>[pI .i64 x])) true),(1,.cells [.p (vSl 2 O6 q1)]),(0,.cells [pN x1])]⟩) (ids:=[(0,0),(1,1),(2,2),(5500,5500)]) (fun _ _ _ _ _ self2 x3 L2 hb2 h=>?_);refine kI hS h (fun h=>?_) (fun h=>?_)
  ·obtain⟨c14,h⟩:=D2 h;obtain⟨L5,rfl,hcL5⟩:=Ma h;replace h:=hcL5;refine Dh hS c14 (ys:=(fun (x:Int)=>[pI .i64 x]) (x2.g x3.toNat)) (rest:=L5.map (fun (x:Int)=>[pI .i64 x])) ?_ ?_
   ·refine D3 hS trivial (b:=false) (fun c15=>?_) (fun c15=>?_)
    ·exact Bool.noConfusion ((rfl:false=false).symm.trans c15)
    ·exact hb2 _ [(0,0),(1,1),(2,2),(5500,5500)] _ (wrap .i64 (x3-1)) L5 trivial h
   ·refine D3 hS trivial (b:=true) (fun c16=>?_) (fun c16=>?_)
    ·exact A6 hS trivial (a:=.tup []) (objs:=[(.cells [pN x1]),.cells [.p (vSl 2 O6 q1)],.yld [] false]) ⟨[],[(2,.yld [] false),(1,.cells [.p (vSl 2 O6 q1)]),(0,.cells [pN x1])]⟩ [0,1,2] (ids:=[(0,0),(1,1),(2,2)]) ⟨false,rfl,rfl,_,rfl⟩
    ·exact Bool.noConfusion ((rfl:true=true).symm.trans c16)
  ·obtain rfl:=B7 h;exact A6 hS trivial (a:=.tup []) (objs:=[(.cells [pN x1]),.cells [.p (vSl 2 O6 q1)],.yld [] true]) ⟨[],[(2,.yld [] true),(1,.cells [.p (vSl 2 O6 q1)]),(0,.cells [pN x1])]⟩ [0,1,2] (ids:=[(0,0),(1,1),(2,2)]) ⟨true,rfl,rfl,_,rfl⟩
def CN (N:Nat)(p_t:Sl Y4)(p_v:Int):Option (Int×(Sl Y4)):=
 some (p_v,p_t)
theorem RE {N:Nat}{p_t:Sl Y4}{p_v:Int}{y:Int×(Sl Y4)}(h:CN N p_t p_v=some y) :FunO S IA [.p (vSl 2 O6 p_t),pN p_v] [] (.clo Bq [] [.reg 0 0,.reg 1 0]) ([.cells [pN y.1],.cells [.p (vSl 2 O6 y.2)]]) []:=by unfold CN at h;refine A1 hS Rd ?_;obtain rfl:=B7 h;exact A6 hS trivial ⟨[(4,.clo Bq [] [.reg 4000 0,.reg 3000 0])],[(4000,.cells [pN p_v]),(3000,.cells [.p (vSl 2 O6 p_t)])]⟩ [4000,3000] (ids:=[(3000,3000),(4000,4000)]) ⟨rfl,rfl,rfl⟩
def AA (N:Nat)(p_h:B3)(p_v:Int):Option ((Sl Int)×Int):=
 (P2 N p_h).bind fun y1=>
 if (y1 != 0) then
  some ((Sl.nil:Sl Int),y1)
 else
  (Ci N p_h p_v).bind fun y2=>
  if (!y2) then
   some ((Sl.nil:Sl Int),3)
  else
   (CN N p_h.Tree p_v).bind fun y3=>
   (S3 N y3.1 y3.2).bind fun L1=>
   P4 L1 (fun self1 (x1:Int) (z1:Sl Int)=>
    if (((0:Int)<=x1/\x1<(p_h.On.n:Int))/\((z1.n+(p_h.On.g x1.toNat).n)*8<=140737488355328/\z1.n+(p_h.On.g x1.toNat).n<=140737488355328))then
     self1 (z1.app (p_h.On.g x1.toNat))
    else none
    ) (fun (z1:Sl Int)=>
     some (z1,0)
    ) (Sl.nil:Sl Int)
theorem OH {N:Nat}{p_h:B3}{p_v:Int}{y:(Sl Int)×Int}(h:AA N p_h p_v=some y) :FunO S Hk [.p (.agg (B2 p_h)),pN p_v] [] (.tup [.vec 0,pN y.2]) ([.vec B9 1 y.1.n (fun i=>cI .i64 (y.1.g i)) true]) []:=by
 unfold AA at h;refine A1 hS Od ?_;refine J3 hS trivial 4 3000 (B2 p_h) ?_;obtain⟨y1,e1,h⟩:=B6 h;refine B8 hS [] (by decide:(3:Nat)<=3) (Gp hS hL e1) ?_;refine kI hS h (fun h=>?_) (fun h=>?_)
 ·obtain rfl:=B7 h;exact A6 hS trivial ⟨[(5,pN y1),(4,.vec 5700)],[(5700,.vec B9 1 (Sl.nil:Sl Int).n (fun i=>cI .i64 ((Sl.nil:Sl Int).g i)) true)]⟩ [5700] (ids:=[]) ⟨rfl,rfl,rfl⟩
 ·obtain⟨y2,e2,h⟩:=B6 h;refine B8 hS [] (by decide:(3:Nat)<=3) (OG hS hL e2) ?_;refine kI hS h (fun h=>?_) (fun h=>?_)
  ·obtain rfl:=B7 h;exact A6 hS trivial ⟨[(5,pN 3),(4,.vec 5700)],[(5700,.vec B9 1 (Sl.nil:Sl Int).n (fun i=>cI .i64 ((Sl.nil:Sl Int).g i)) true)]⟩ [5700] (ids:=[]) ⟨rfl,rfl,rfl⟩
  ·refine kC hS h (RE hS hL) (fun y3 h=>?_);obtain⟨L1,e4,h⟩:=B6 h;refine FO hS trivial [22000,22001] [7,2] 901 (fun z1=>⟨[(7,.reg 8000 0),(2,.p (.ptr (B2 p_h)))],[(8500,.vec B9 1 z1.n (fun i=>cI .i64 (z1.g i)) false),(8000,.cells [.vec 8500])]⟩) (idl:=[(8000,8000)]) h (Nn hS hL e4) (fun _=>by kernel_rfl) (fun _=>by kernel_rfl) (fun _=>by kernel_rfl) (fun _=>by kernel_rfl) (fun x1 _ self1 z1 hb1 h=>?_) (fun z1 h=>?_)
   ·refine HL hS trivial ?_;refine D7 hS trivial [2,4,5] ?_;obtain⟨c5,h⟩:=D2 h;refine H5 c5 ?_;exact hb1 _ [(901,901),(8000,8000),(8500,30000)] _ (z1.app (p_h.On.g x1.toNat)) trivial h (hle:=klR [(0,.fn (z1.n+(p_h.On.g x1.toNat).n) (z1.app (p_h.On.g x1.toNat)).n (R4 z1.n (fun i=>cI .i64 (z1.g i)) (fun i=>cI .i64 ((p_h.On.g x1.toNat).g i))) (fun i=>cI .i64 ((z1.app (p_h.On.g x1.toNat)).g i)))] (al1 ⟨rfl,Vr (c:=cI .i64) (v:=z1) (w:=p_h.On.g x1.toNat) same rfl same rfl⟩ al0))
   ·obtain rfl:=B7 h;exact A6 hS trivial ⟨[(5,pN 0),(4,.vec 8500)],[(8500,.vec B9 1 z1.n (fun i=>cI .i64 (z1.g i)) true)]⟩ [8500] (ids:=[(8500,8500)]) ⟨rfl,rfl,rfl⟩
def P3 (rec:Pat->Option Pat)(N:Nat)(p_p:Pat):Option Pat:=
 S4 N (fun self1 (x1:Sl Pat) (x2:Int)=>
  if (decide (x2<(p_p.L.n:Int))) then
   if ((0:Int)<=x2/\x2<(p_p.L.n:Int))then
    (rec (p_p.L.g x2.toNat)).bind fun y3=>
    if ((x1.n+(Sl.of [y3]:Sl Pat).n)*64<=140737488355328/\x1.n+(Sl.of [y3]:Sl Pat).n<=140737488355328)then
     self1 (x1.push y3) (wrap .i64 (x2+1))
    else none
   else none
  else
   some (Pat.mk p_p.Kind p_p.Is p_p.Not p_p.Min p_p.Max x1.n x1.g)
  ) (Sl.nil:Sl Pat) 0
def O3:Nat->Pat->Option Pat
 |0=>fun _=>none
 |N+1=>P3 (O3 N) N
theorem IX {N:Nat}{rec:Pat->Option Pat}(hrec:∀{p_p:Pat}{y:Pat},rec p_p=some y->FunO S Y5 [.p (.agg (B1 p_p))] [] (.p (.agg (B1 y))) ([]) []){p_p:Pat}{y:Pat}(h:P3 rec N p_p=some y) :FunO S Y5 [.p (.agg (B1 p_p))] [] (.p (.agg (B1 y))) ([]) []:=by
 unfold P3 at h;refine A1 hS JD ?_;refine J0 hS trivial 8 ⟨[(7,.p (vSl 7 B1 p_p.L)),(3,.p J2),(2,.reg 3000 0),(1,.reg 2000 0)],[(3000,.cells [pN 0,pU 0,pU 0,.p (.v (.bool false)),pN 0,pN 0,.p J2]),(2000,.cells ((B1 p_p).map .p))]⟩ (ids:=[(2000,2000),(3000,3000)]) ?_ (hle:=klR [(0,.fn p_p.L.n p_p.L.n (Bf p_p) (fun i=>B1 (p_p.L.g i)))] (al1 ⟨rfl,K5 p_p⟩ al0));refine F5 hS trivial h (fun x1 x2=>⟨[(9,pN x2),(8,pN (p_p.L.n:Int)),(7,.p (vSl 7 B1 p_p.L)),(3,.vec 4500),(2,.reg 3000 0),(1,.reg 2000 0)],[(4500,.vec Ev 7 x1.n (fun i=>B1 (x1.g i)) false),(3000,.cells [pN 0,pU 0,pU 0,.p (.v (.bool false)),pN 0,pN 0,.p J2]),(2000,.cells ((B1 p_p).map .p))]⟩) (ids:=[(2000,2000),(3000,3000)]) (fun _ _ _ _ _ self1 x1 x2 hb1 h=>?_);refine kI hS h (fun h=>?_) (fun h=>?_)
 ·obtain⟨c6,h⟩:=D2 h;obtain⟨y3,e3,h⟩:=B6 h;refine B8 hS [] (And.intro c6 (by decide:(7:Nat)<=7)) (hrec e3) ?_;obtain⟨c7,h⟩:=D2 h;exact hb1 _ [(2000,2000),(3000,3000),(4500,18000)] _ (x1.push y3) (wrap .i64 (x2+1)) (And.intro (rfl:true=true) c7) h (hle:=klR [(3,.fn (x1.n+1) (x1.push y3).n (R4 x1.n (fun i=>B1 (x1.g i)) (D4 [pI .i64 0,pI .u32 0,pI .u32 0,.v (.bool false),pI .i64 0,pI .i64 0,J2] [(0,B1 y3)])) (fun i=>B1 ((x1.push y3).g i)))] (al1 ⟨rfl,Er (c:=B1) (v:=x1) (x:=y3) (z:=[(pI .i64 0),pI .u32 0,pI .u32 0,.v (.bool false),pI .i64 0,pI .i64 0,J2]) same rfl rfl⟩ al0))
 ·obtain rfl:=B7 h;exact A6 hS trivial ⟨[(2,.reg 3000 0)],[(3000,.cells [pN p_p.Kind,pU p_p.Is.Plus,pU p_p.Is.Minus,pB p_p.Not,pN p_p.Min,pN p_p.Max,.p (.sl false 7 x1.n (Bf (Pat.mk p_p.Kind p_p.Is p_p.Not p_p.Min p_p.Max x1.n x1.g)))])]⟩ [] (ids:=[(3000,3000)]) ⟨rfl,rfl,rfl⟩
theorem EC {N:Nat}{p_p:Pat}{y:Pat}(h:O3 N p_p=some y) :FunO S Y5 [.p (.agg (B1 p_p))] [] (.p (.agg (B1 y))) ([]) []:=by
 induction N generalizing p_p y with
 |zero=>cases (show (none:Option Pat)=some y from h)
 |succ N ih=>exact IX hS hL (fun e=>ih e) h
def T8 (N:Nat)(p_l:Law):Option Law:=
 (O3 N p_l.Left).bind fun y1=>
 (O3 N p_l.Right).bind fun y2=>
 (A7 N p_l.If).bind fun y3=>
 (F6 N p_l.Out).bind fun y4=>
 some (⟨p_l.Name,y1,y2,y3,y4,p_l.Mode⟩:Law)
theorem KW {N:Nat}{p_l:Law}{y:Law}(h:T8 N p_l=some y) :FunO S Fs [.p (.agg (A5 p_l))] [] (.p (.agg (A5 y))) ([]) []:=by unfold T8 at h;refine A1 hS KR ?_;refine D7 hS trivial [2,5] ?_;obtain⟨y1,e1,h⟩:=B6 h;refine U6 trivial (EC hS hL e1) ?_;obtain⟨y2,e2,h⟩:=B6 h;refine U6 trivial (EC hS hL e2) ?_;refine H5 trivial ?_;refine D7 hS trivial [2,5] ?_;obtain⟨y3,e3,h⟩:=B6 h;refine U6 trivial (Y8 hS hL e3) ?_;obtain⟨y4,e4,h⟩:=B6 h;refine U6 trivial (Bh hS hL e4) ?_;refine H5 trivial ?_;cases h;exact kR hS
def Q8 (N:Nat)(p_h:B3)(p_l:Sl Int):Option (Sl Law):=
 S4 N (fun self1 (x1:Sl Law) (x2:Int)=>
  if (decide (x2<(p_l.n:Int))) then
   if (((0:Int)<=x2/\x2<(p_l.n:Int))/\((0:Int)<=(p_l.g x2.toNat)/\(p_l.g x2.toNat)<(p_h.Laws.n:Int)))then
    (T8 N (p_h.Laws.g (p_l.g x2.toNat).toNat)).bind fun y3=>
    if ((x1.n+(Sl.of [y3]:Sl Law).n)*200<=140737488355328/\x1.n+(Sl.of [y3]:Sl Law).n<=140737488355328)then
     self1 (x1.push y3) (wrap .i64 (x2+1))
    else none
   else none
  else
   some x1
  ) (Sl.nil:Sl Law) 0
theorem OI {N:Nat}{p_h:B3}{p_l:Sl Int}{y:Sl Law}(h:Q8 N p_h p_l=some y) :FunO S Hl [.p (.agg (B2 p_h)),.p (vSl 1 (cI .i64) p_l)] [] (.p (vSl 18 A5 y)) ([]) []:=by
 unfold Q8 at h;refine A1 hS Oe ?_;refine F5 hS trivial h (fun x1 x2=>⟨[(10,pN x2),(9,pN (p_l.n:Int)),(8,.p (vSl 1 (cI .i64) p_l)),(5,.vec 6500),(2,.reg 3000 0)],[(6500,.vec I7 18 x1.n (fun i=>A5 (x1.g i)) false),(3000,.cells ((B2 p_h).map .p))]⟩) (ids:=[(3000,3000)]) (fun _ _ _ _ _ self1 x1 x2 hb1 h=>?_);refine kI hS h (fun h=>?_) (fun h=>?_)
 ·obtain⟨c6,h⟩:=D2 h;obtain⟨y3,e3,h⟩:=B6 h;refine B8 hS [] (And.intro (And.intro c6.1 c6.2) (by decide:(18:Nat)<=18)) (KW hS hL e3) ?_;obtain⟨c7,h⟩:=D2 h;exact hb1 _ [(3000,3000),(6500,23000)] _ (x1.push y3) (wrap .i64 (x2+1)) (And.intro (rfl:true=true) c7) h (hle:=klR [(3,.fn (x1.n+1) (x1.push y3).n (R4 x1.n (fun i=>A5 (x1.g i)) (D4 [.str [],pI .i64 0,pI .u32 0,pI .u32 0,.v (.bool false),pI .i64 0,pI .i64 0,J2,pI .i64 0,pI .u32 0,pI .u32 0,.v (.bool false),pI .i64 0,pI .i64 0,J2,J2,J2,pI .i64 0] [(0,A5 y3)])) (fun i=>A5 ((x1.push y3).g i)))] (al1 ⟨rfl,Er (c:=A5) (v:=x1) (x:=y3) (z:=[(.str []),pI .i64 0,pI .u32 0,pI .u32 0,.v (.bool false),pI .i64 0,pI .i64 0,J2,pI .i64 0,pI .u32 0,pI .u32 0,.v (.bool false),pI .i64 0,pI .i64 0,J2,J2,J2,pI .i64 0]) same rfl rfl⟩ al0))
 ·obtain rfl:=B7 h;exact A6 hS trivial ⟨[(4,.p (vSl 18 A5 x1))],[]⟩ [] (ids:=[]) ⟨rfl,rfl,rfl⟩
def Q9 (N:Nat)(p_h:B3)(p_v:Int):Option ((Sl Law)×Int):=
 (AA N p_h p_v).bind fun y1=>
 (Q8 N p_h y1.1).bind fun y2=>
 some (y2,y1.2)
theorem OJ {N:Nat}{p_h:B3}{p_v:Int}{y:(Sl Law)×Int}(h:Q9 N p_h p_v=some y) :FunO S Hg [.p (.agg (B2 p_h)),pN p_v] [] (.tup [.p (vSl 18 A5 y.1),pN y.2]) ([]) []:=by unfold Q9 at h;refine A1 hS NZ ?_;refine kC hS h (OH hS hL) (fun y1 h=>?_);refine kC hS h (OI hS hL) (fun y2 h=>?_);cases h;exact kR hS
def Gq (N:Nat)(p_h:B3):Option Bool:=
 lt (fun (z1:Bool)=>
  if z1 then
   some false
  else
   R5 N (fun self1 (x2:Int)=>
    if (decide (x2<(p_h.On.n:Int))) then
     if ((0:Int)<=x2/\x2<(p_h.On.n:Int))then
      if (decide (5<((p_h.On.g x2.toNat).n:Int))) then
       some false
      else
       self1 (wrap .i64 (x2+1))
     else none
    else
     some true
    ) 0
  ) fun k1=>
  if (decide (8<(p_h.Tree.n:Int))) then
   k1 true
  else
   if (decide (6<(p_h.Laws.n:Int))) then
    k1 true
   else
    if (decide (8<(p_h.On.n:Int))) then
     k1 true
    else
     (CT N p_h.Laws).bind fun y2=>
     k1 (decide (4<y2))
theorem Al1 {N:Nat}{p_h:B3}{y:Bool}(h:Gq N p_h=some y) :FunO S Tj [.p (.agg (B2 p_h))] [] (pB y) ([]) []:=by
 unfold Gq at h;refine A1 hS Aj3 ?_;refine FM hS trivial (A3 hS) h 0 (fun z1=>⟨[(25,pB z1),(1,.reg 2000 0)],[(2000,.cells ((B2 p_h).map .p))]⟩) (fun M1 k1 hb1 h=>?_) (fun z1 h=>?_)
 ·refine kG hS h (fun h=>?_) (fun h=>?_)
  ·exact hb1 _ [(2000,2000)] _ true trivial h
  ·refine kG hS h (fun h=>?_) (fun h=>?_)
   ·exact hb1 _ [(2000,2000)] _ true trivial h
   ·refine kG hS h (fun h=>?_) (fun h=>?_)
    ·exact hb1 _ [(2000,2000)] _ true trivial h
    ·refine kC hS h (ZU hS hL) (fun y2 h=>?_);exact hb1 _ [(2000,2000)] _ (decide (4<y2)) trivial h
 ·refine kI hS h (fun h=>?_) (fun h=>?_)
  ·cases h;exact kR hS
  ·refine G7 hS trivial h (fun x2=>⟨[(3,pN x2),(1,.reg 2000 0)],[(2000,.cells ((B2 p_h).map .p))]⟩) (ids:=[(2000,2000)]) (fun _ _ _ _ _ self1 x2 hb2 h=>?_);refine kI hS h (fun h=>?_) (fun h=>?_)
   ·obtain⟨c18,h⟩:=D2 h;refine D3 hS c18 (b:=decide (5<((p_h.On.g x2.toNat).n:Int))) (fun c19=>?_) (fun c19=>?_)
    ·replace h:=itT c19 h;cases h;exact kR hS
    ·replace h:=itF c19 h;exact hb2 _ [(2000,2000)] _ (wrap .i64 (x2+1)) trivial h
   ·cases h;exact kR hS
end Go.AM
namespace Go.AM
open IntKind (wrap)
open Go.Proofs
set_option maxRecDepth 10000
set_option maxHeartbeats 2000000
variable {S:Bd}(hS:G6 S Tryz.prog) (hL:RY S)
abbrev Aa5 {T:Type}(e:TypeId)(k:Nat)(c:T->List PV)(x:Sl T):Obj:=.vec e k x.n (fun q=>c (x.g q)) false
theorem obPut {T:Type}{e:TypeId}{k n i:Nat}{c:T->List PV}{X:Sl (Sl T)}{z:Sl T}:∀q,q<n->(fun q=>if q=i then Aa5 e k c z else if q=i then Obj.dead else Aa5 e k c (X.g q)) q=(fun q=>Aa5 e k c ((X.upd i z).g q)) q:=fun q _=>by by_cases h:q=i<;>simp[h]
include hS hL
def X5 (N:Nat)(p_t:Sl Y4):Option (Sl (Sl Int)):=
 if ((0:Int)<=(p_t.n:Int)/\(p_t.n:Int)<=(p_t.n:Int)/\(p_t.n:Int)*24<=140737488355328/\(p_t.n:Int)<=140737488355328)then
  S4 N (fun self (x:Int) (X:Sl (Sl Int))=>
   if (decide (x<(p_t.n:Int))) then
    if ((0:Int)<=x/\x<(p_t.n:Int))then
     if (p_t.g x.toNat).Parent.toNat<X.n then
      lt (fun (z:Sl Int)=>self (wrap .i64 (x+1)) (X.upd (p_t.g x.toNat).Parent.toNat z)) fun k=>
       if (decide (0<x)) then
        if (((0:Int)<=(p_t.g x.toNat).Parent/\(p_t.g x.toNat).Parent<(X.n:Int))/\(((X.g (p_t.g x.toNat).Parent.toNat).n+1)*8<=140737488355328/\(X.g (p_t.g x.toNat).Parent.toNat).n+1<=140737488355328))then
         k ((X.g (p_t.g x.toNat).Parent.toNat).push x)
        else none
       else k (X.g (p_t.g x.toNat).Parent.toNat)
     else none
    else none
   else some X) 0 ⟨p_t.n,fun _=>Sl.nil⟩
 else none
theorem No {N:Nat}{p_t:Sl Y4}{y:Sl (Sl Int)}(h:X5 N p_t=some y) :FunO S FV [.p (vSl 2 O6 p_t)] [] (.p (vSl 1 (cL 1 (cI .i64)) y)) [] []:=by
 unfold X5 at h;refine A1 hS MD ?_;obtain⟨c1,h⟩:=D2 h;refine XW hS c1 9 (.fam 9000 9901 fun i=>Aa5 B9 1 (cI .i64) ((⟨p_t.n,fun _=>Sl.nil⟩:Sl (Sl Int)).g i)) (⟨by decide,fun i _=>rfl⟩:1000<=9901/\∀i,i<p_t.n->Ae3 [J2] (Aa5 B9 1 (cI .i64) ((⟨p_t.n,fun _=>Sl.nil⟩:Sl (Sl Int)).g i))) ?_;refine F5 hS trivial h (fun x X=>⟨[(11,pN x),(10,pN (p_t.n:Int)),(9,.p (vSl 2 O6 p_t)),(3,.vec 9000)],[(9901,.rows X.n fun i=>Aa5 B9 1 (cI .i64) (X.g i)),(9000,.fam XZ X.n 9901 none)]⟩) (ids:=[(9901,9901),(9000,9000)]) (fun _ _ _ _ _ self x X hb1 h=>?_);refine kI hS h (fun h=>?_) (fun h=>?_)
 ·obtain⟨c2,h⟩:=D2 h;obtain⟨c3,h⟩:=D2 h;refine XW hS (And.intro c2 (by decide:(2:Nat)<=2)) 17 (.take 9000 (p_t.g x.toNat).Parent.toNat 9801) (⟨⟨by decide,rfl⟩,c3⟩:(1000<=9801/\X.n=X.n)/\(p_t.g x.toNat).Parent.toNat<X.n) ?_;refine FM hS trivial (A3 hS) h 0 (fun z=>⟨[(11,pN x),(10,pN (p_t.n:Int)),(9,.p (vSl 2 O6 p_t)),(3,.vec 9000)],
   [(9901,(.rows X.n fun l=>if l=(p_t.g x.toNat).Parent.toNat then .dead else Aa5 B9 1 (cI .i64) (X.g l))),(9801,Aa5 B9 1 (cI .i64) z),(9000,.fam XZ X.n 9901 (some ((p_t.g x.toNat).Parent.toNat,.vec 9801)))]⟩) (fun M k hb2 h=>?_) (fun z h=>?_)
  ·refine kI hS h (fun h=>?_) (fun h=>?_)
   ·obtain⟨c4,h⟩:=D2 h;refine U7 hS trivial [(0,.n),(1,.n),(2,.l [6000]),(3,.n),(4,.n),(5,.l [6000]),(6,.l [9000]),(7,.l [9000]),(8,.n),(10,.a [29000,9801]),(11,.l [9000]),(12,.a [9000])] ?_;refine EN (And.intro c4.1 (And.intro c3 (rfl:(p_t.g x.toNat).Parent.toNat=(p_t.g x.toNat).Parent.toNat))) (x:=.sl true 1 1 (D4 [pI .i64 0] [(0,cI .i64 x)])) ?_;refine H5 (And.intro (And.intro c4.2 c4.1) (And.intro c3 (rfl:(p_t.g x.toNat).Parent.toNat=(p_t.g x.toNat).Parent.toNat))) ?_;exact hb2 _ [(9901,9901),(9801,29000),(9000,9000)] _ ((X.g (p_t.g x.toNat).Parent.toNat).push x) trivial h (hle:=klR [(5,.fn ((X.g (p_t.g x.toNat).Parent.toNat).n+1) ((X.g (p_t.g x.toNat).Parent.toNat).push x).n (R4 (X.g (p_t.g x.toNat).Parent.toNat).n (fun i=>cI .i64 ((X.g (p_t.g x.toNat).Parent.toNat).g i)) (D4 [pI .i64 0] [(0,cI .i64 x)])) (fun i=>cI .i64 (((X.g (p_t.g x.toNat).Parent.toNat).push x).g i)))] (al1 ⟨rfl,Er (c:=cI .i64) (v:=X.g (p_t.g x.toNat).Parent.toNat) (x:=x) (z:=[(pI .i64 0)]) same rfl rfl⟩ al0))
   ·exact hb2 _ [(9901,9901),(9801,9801),(9000,9000)] _ (X.g (p_t.g x.toNat).Parent.toNat) trivial h
  ·refine XW hS trivial 30 (.put 9000 9902) (⟨⟨by decide,rfl⟩,c3⟩:(1000<=9902/\X.n=X.n)/\(p_t.g x.toNat).Parent.toNat<X.n) ?_;exact hb1 _ [(9901,9902),(9000,9000)] _ (wrap .i64 (x+1)) (X.upd (p_t.g x.toNat).Parent.toNat z) trivial h (hle:=klR [(4,.ob X.n (fun q=>if q=(p_t.g x.toNat).Parent.toNat then Aa5 B9 1 (cI .i64) z else if q=(p_t.g x.toNat).Parent.toNat then .dead else Aa5 B9 1 (cI .i64) (X.g q)) fun i=>Aa5 B9 1 (cI .i64) ((X.upd (p_t.g x.toNat).Parent.toNat z).g i))] (al1 obPut al0))
 ·refine XW hS trivial 31 (.pub 9000) (⟨rfl,fun i _=>rfl⟩:X.n=X.n/\∀i,i<X.n->(Ae4 (Aa5 B9 1 (cI .i64) (X.g i))).isSome=true) ?_;obtain rfl:=B7 h;exact A6 hS trivial ⟨[(2,.p (vSl 1 (cL 1 (cI .i64)) X))],[]⟩ [] (ids:=[]) ⟨rfl,rfl,rfl⟩ (hle:=klR [(0,.fn X.n X.n (fun i=>[(Ae4 (Aa5 B9 1 (cI .i64) (X.g i))).getD default]) (fun i=>cL 1 (cI .i64) (X.g i)))] (al1 ⟨rfl,fun _ _=>rfl⟩ al0))
end Go.AM
namespace Go.AM
open IntKind (wrap)
open Go.Proofs
set_option maxRecDepth 10000
set_option maxHeartbeats 2000000
variable {S:Bd}(hS:G6 S Tryz.prog) (hL:RY S)
include hS hL
def BB (N:Nat)(p_t:Sl Y4):Option (Sl Int):=
 (X5 N p_t).bind fun y1=>
 S4 N (fun self1 (x1:Sl Int) (x2:Int)=>
  if (decide (x2<(y1.n:Int))) then
   if ((0:Int)<=x2/\x2<(y1.n:Int))then
    if (((y1.g x2.toNat).n:Int)==0) then
     if ((x1.n+(Sl.of [x2]:Sl Int).n)*8<=140737488355328/\x1.n+(Sl.of [x2]:Sl Int).n<=140737488355328)then
      self1 (x1.push x2) (wrap .i64 (x2+1))
     else none
    else
     self1 x1 (wrap .i64 (x2+1))
   else none
  else
   some x1
  ) (Sl.nil:Sl Int) 0
theorem RF {N:Nat}{p_t:Sl Y4}{y:Sl Int}(h:BB N p_t=some y) :FunO S IB [.p (vSl 2 O6 p_t)] [] (.vec 0) ([.vec B9 1 y.n (fun i=>cI .i64 (y.g i)) true]) []:=by
 unfold BB at h;refine A1 hS Re ?_;refine kC hS h (No hS hL) (fun y1 h=>?_);refine F5 hS trivial h (fun x1 x2=>⟨[(9,pN x2),(8,pN (y1.n:Int)),(7,.p (vSl 1 (cL 1 (cI .i64)) y1)),(3,.vec 4500)],[(4500,.vec B9 1 x1.n (fun i=>cI .i64 (x1.g i)) false)]⟩) (ids:=[]) (fun _ _ _ _ _ self1 x1 x2 hb1 h=>?_);refine kI hS h (fun h=>?_) (fun h=>?_)
 ·obtain⟨c8,h⟩:=D2 h;refine D3 hS c8 (b:=((y1.g x2.toNat).n:Int)==0) (fun c9=>?_) (fun c9=>?_)
  ·replace h:=itT c9 h;obtain⟨c10,h⟩:=D2 h;exact hb1 _ [(4500,21000)] _ (x1.push x2) (wrap .i64 (x2+1)) (And.intro (rfl:true=true) c10) h (hle:=klR [(3,.fn (x1.n+1) (x1.push x2).n (R4 x1.n (fun i=>cI .i64 (x1.g i)) (D4 [pI .i64 0] [(0,cI .i64 x2)])) (fun i=>cI .i64 ((x1.push x2).g i)))] (al1 ⟨rfl,Er (c:=cI .i64) (v:=x1) (x:=x2) (z:=[(pI .i64 0)]) same rfl rfl⟩ al0))
  ·replace h:=itF c9 h;exact hb1 _ [(4500,4500)] _ x1 (wrap .i64 (x2+1)) trivial h
 ·obtain rfl:=B7 h;exact A6 hS trivial ⟨[(2,.vec 4500)],[(4500,.vec B9 1 x1.n (fun i=>cI .i64 (x1.g i)) true)]⟩ [4500] (ids:=[(4500,4500)]) ⟨rfl,rfl,rfl⟩
def T2 (N:Nat)(p_t:Sl Y4):Option ((Sl Int)×Int):=
 (S8 N p_t).bind fun y1=>
 if (y1 != 0) then
  some ((Sl.nil:Sl Int),y1)
 else
  (BB N p_t).bind fun y2=>
  some (y2,0)
theorem IY {N:Nat}{p_t:Sl Y4}{y:(Sl Int)×Int}(h:T2 N p_t=some y) :FunO S Iz [.p (vSl 2 O6 p_t)] [] (.tup [.vec 0,pN y.2]) ([.vec B9 1 y.1.n (fun i=>cI .i64 (y.1.g i)) true]) []:=by
 unfold T2 at h;refine A1 hS Rc ?_;refine kC hS h (Gn hS hL) (fun y1 h=>?_);refine kI hS h (fun h=>?_) (fun h=>?_)
 ·obtain rfl:=B7 h;exact A6 hS trivial ⟨[(3,pN y1),(2,.vec 3700)],[(3700,.vec B9 1 (Sl.nil:Sl Int).n (fun i=>cI .i64 ((Sl.nil:Sl Int).g i)) true)]⟩ [3700] (ids:=[]) ⟨rfl,rfl,rfl⟩
 ·refine kC hS h (RF hS hL) (fun y2 h=>?_);obtain rfl:=B7 h;exact A6 hS trivial ⟨[(3,pN 0),(2,.vec 12000)],[(12000,.vec B9 1 y2.n (fun i=>cI .i64 (y2.g i)) true)]⟩ [12000] (ids:=[(12000,12000)]) ⟨rfl,rfl,rfl⟩
def AB (N:Nat)(p_t:Sl Y4)(p_v:Int):Option (Sl Int):=
 S4 N (fun self1 (x1:Sl Int) (x2:Int)=>
  if (decide (x2<(p_t.n:Int))) then
   if ((0:Int)<=x2/\x2<(p_t.n:Int))then
    if ((p_t.g x2.toNat).Parent==p_v) then
     if ((x1.n+(Sl.of [x2]:Sl Int).n)*8<=140737488355328/\x1.n+(Sl.of [x2]:Sl Int).n<=140737488355328)then
      self1 (x1.push x2) (wrap .i64 (x2+1))
     else none
    else
     self1 x1 (wrap .i64 (x2+1))
   else none
  else
   some x1
  ) (Sl.nil:Sl Int) 0
theorem OK {N:Nat}{p_t:Sl Y4}{p_v:Int}{y:Sl Int}(h:AB N p_t p_v=some y) :FunO S Hq [.p (vSl 2 O6 p_t),pN p_v] [] (.vec 0) ([.vec B9 1 y.n (fun i=>cI .i64 (y.g i)) true]) []:=by
 unfold AB at h;refine A1 hS Oj ?_;refine F5 hS trivial h (fun x1 x2=>⟨[(6,pN x2),(5,.vec 6500),(1,pN p_v),(0,.p (vSl 2 O6 p_t))],[(6500,.vec B9 1 x1.n (fun i=>cI .i64 (x1.g i)) false)]⟩) (ids:=[]) (fun _ _ _ _ _ self1 x1 x2 hb1 h=>?_);refine kI hS h (fun h=>?_) (fun h=>?_)
 ·obtain⟨c8,h⟩:=D2 h;refine D3 hS c8 (b:=(p_t.g x2.toNat).Parent==p_v) (fun c9=>?_) (fun c9=>?_)
  ·replace h:=itT c9 h;obtain⟨c10,h⟩:=D2 h;exact hb1 _ [(6500,24000)] _ (x1.push x2) (wrap .i64 (x2+1)) (And.intro (rfl:true=true) c10) h (hle:=klR [(3,.fn (x1.n+1) (x1.push x2).n (R4 x1.n (fun i=>cI .i64 (x1.g i)) (D4 [pI .i64 0] [(0,cI .i64 x2)])) (fun i=>cI .i64 ((x1.push x2).g i)))] (al1 ⟨rfl,Er (c:=cI .i64) (v:=x1) (x:=x2) (z:=[(pI .i64 0)]) same rfl rfl⟩ al0))
  ·replace h:=itF c9 h;exact hb1 _ [(6500,6500)] _ x1 (wrap .i64 (x2+1)) trivial h
 ·obtain rfl:=B7 h;exact A6 hS trivial ⟨[(4,.vec 6500)],[(6500,.vec B9 1 x1.n (fun i=>cI .i64 (x1.g i)) true)]⟩ [6500] (ids:=[(6500,6500)]) ⟨rfl,rfl,rfl⟩
def X6 (N:Nat)(p_t:Sl Y4):Option ((Sl Int)×Int):=
 (AT N p_t).bind fun y1=>
 if (y1 != 0) then
  some ((Sl.nil:Sl Int),y1)
 else
  S4 N (fun self1 (x1:Sl Int) (x2:Int)=>
   if (decide (x2<(p_t.n:Int))) then
    (AB N p_t x2).bind fun y4=>
    if ((y4.n:Int)==0) then
     if ((x1.n+(Sl.of [x2]:Sl Int).n)*8<=140737488355328/\x1.n+(Sl.of [x2]:Sl Int).n<=140737488355328)then
      self1 (x1.push x2) (wrap .i64 (x2+1))
     else none
    else
     self1 x1 (wrap .i64 (x2+1))
   else
    some (x1,0)
   ) (Sl.nil:Sl Int) 0
theorem KD {N:Nat}{p_t:Sl Y4}{y:(Sl Int)×Int}(h:X6 N p_t=some y) :FunO S Km [.p (vSl 2 O6 p_t)] [] (.tup [.vec 0,pN y.2]) ([.vec B9 1 y.1.n (fun i=>cI .i64 (y.1.g i)) true]) []:=by
 unfold X6 at h;refine A1 hS Tn ?_;refine kC hS h (Nk hS hL) (fun y1 h=>?_);refine kI hS h (fun h=>?_) (fun h=>?_)
 ·obtain rfl:=B7 h;exact A6 hS trivial ⟨[(3,pN y1),(2,.vec 3700)],[(3700,.vec B9 1 (Sl.nil:Sl Int).n (fun i=>cI .i64 ((Sl.nil:Sl Int).g i)) true)]⟩ [3700] (ids:=[]) ⟨rfl,rfl,rfl⟩
 ·refine F5 hS trivial h (fun x1 x2=>⟨[(6,pN x2),(5,.vec 6500),(0,.p (vSl 2 O6 p_t))],[(6500,.vec B9 1 x1.n (fun i=>cI .i64 (x1.g i)) false)]⟩) (ids:=[]) (fun _ _ _ _ _ self1 x1 x2 hb1 h=>?_);refine kI hS h (fun h=>?_) (fun h=>?_)
  ·refine kC hS h (OK hS hL) (fun y4 h=>?_);refine kI hS h (fun h=>?_) (fun h=>?_)
   ·obtain⟨c8,h⟩:=D2 h;exact hb1 _ [(6500,27000)] _ (x1.push x2) (wrap .i64 (x2+1)) (And.intro (rfl:true=true) c8) h (hle:=klR [(2,.fn (x1.n+1) (x1.push x2).n (R4 x1.n (fun i=>cI .i64 (x1.g i)) (D4 [pI .i64 0] [(0,cI .i64 x2)])) (fun i=>cI .i64 ((x1.push x2).g i)))] (al1 ⟨rfl,Er (c:=cI .i64) (v:=x1) (x:=x2) (z:=[(pI .i64 0)]) same rfl rfl⟩ al0))
   ·exact hb1 _ [(6500,6500)] _ x1 (wrap .i64 (x2+1)) trivial h
  ·obtain rfl:=B7 h;exact A6 hS trivial ⟨[(3,pN 0),(2,.vec 6500)],[(6500,.vec B9 1 x1.n (fun i=>cI .i64 (x1.g i)) true)]⟩ [6500] (ids:=[(6500,6500)]) ⟨rfl,rfl,rfl⟩
end Go.AM
namespace Go.AM
open IntKind (wrap)
open Go.Proofs
set_option maxRecDepth 10000
set_option maxHeartbeats 2000000
variable {S:Bd}(hS:G6 S Tryz.prog) (hL:RY S)
include hS hL
def C9 (N:Nat)(p_s:Sl BP)(p_f:BP->Option Bool):Option Int:=
 R5 N (fun self1 (x1:Int)=>
  if (decide (x1<(p_s.n:Int))) then
   if ((0:Int)<=x1/\x1<(p_s.n:Int))then
    (p_f (p_s.g x1.toNat)).bind fun y3=>
    if y3 then
     some x1
    else
     self1 (wrap .i64 (x1+1))
   else none
  else
   some (-1)
  ) 0
theorem X7 {N:Nat}{p_s:Sl BP}{p_f:BP->Option Bool}{kp_f:Nat}(hp_f:∀{a0:BP}{b:Bool},p_f a0=some b->FunO S kp_f [.p (.agg (I4 a0))] [] (pB b) [] []){y:Int}(h:C9 N p_s p_f=some y) :FunO S J8 [.p (vSl 2 I4 p_s),.clo kp_f [] []] [] (pN y) ([]) []:=by
 unfold C9 at h;refine A1 hS V9 ?_;refine G7 hS trivial h (fun x1=>⟨[(8,pN x1),(7,pN (p_s.n:Int)),(1,.clo kp_f [] []),(0,.p (vSl 2 I4 p_s))],[]⟩) (ids:=[]) (fun _ _ _ _ _ self1 x1 hb1 h=>?_);refine kI hS h (fun h=>?_) (fun h=>?_)
 ·obtain⟨c8,h⟩:=D2 h;obtain⟨y3,e3,h⟩:=B6 h;refine B8 hS [] (And.intro c8 (by decide:(2:Nat)<=2)) (hp_f e3) ?_;refine kI hS h (fun h=>?_) (fun h=>?_)
  ·cases h;exact kR hS
  ·exact hb1 _ [] _ (wrap .i64 (x1+1)) trivial h
 ·cases h;exact kR hS
def D5 (N:Nat)(p_s:Sl BP)(p_f:BP->Option Bool):Option Bool:=
 (C9 N p_s p_f).bind fun y1=>
 some (decide (0<=y1))
theorem T9 {N:Nat}{p_s:Sl BP}{p_f:BP->Option Bool}{kp_f:Nat}(hp_f:∀{a0:BP}{b:Bool},p_f a0=some b->FunO S kp_f [.p (.agg (I4 a0))] [] (pB b) [] []){y:Bool}(h:D5 N p_s p_f=some y) :FunO S I0 [.p (vSl 2 I4 p_s),.clo kp_f [] []] [] (pB y) ([]) []:=by unfold D5 at h;refine A1 hS T5 ?_;refine kC hS h (X7 hS hL (fun e=>hp_f e)) (fun y1 h=>?_);cases h;exact kR hS
def AL (N:Nat)(p_f:BP):Option Bool:=
 some ((!p_f.Has)&&(decide (0<(p_f.W.n:Int))))
theorem KX {N:Nat}{p_f:BP}{y:Bool}(h:AL N p_f=some y) :FunO S Ft [.p (.agg (I4 p_f))] [] (pB y) ([]) []:=by unfold AL at h;refine A1 hS KS ?_;refine kB hS (A3 hS) trivial trivial 5 (.n (.a (!p_f.Has)) (.a (decide (0<(p_f.W.n:Int))))) ?_;cases h;exact kR hS
def U3 (N:Nat)(p_l:Sl BP):Option Bool:=
 (D5 N p_l (fun (u1:BP)=>AL N u1)).bind fun y1=>
 some (!y1)
theorem Hz {N:Nat}{p_l:Sl BP}{y:Bool}(h:U3 N p_l=some y) :FunO S Hn [.p (vSl 2 I4 p_l)] [] (pB y) ([]) []:=by unfold U3 at h;refine A1 hS Oh ?_;refine kC hS h (T9 hS hL (fun e=>KX hS hL e)) (fun y1 h=>?_);cases h;exact kR hS
def O2 (N:Nat)(p_l:Sl BP):Option Int:=
 R5 N (fun self1 (x1:Int)=>
  if (decide (x1<(p_l.n:Int))) then
   if ((0:Int)<=x1/\x1<(p_l.n:Int))then
    (N9 N (p_l.g x1.toNat).W).bind fun y3=>
    if (y3 != 0) then
     some y3
    else
     self1 (wrap .i64 (x1+1))
   else none
  else
   some 0
  ) 0
theorem HA {N:Nat}{p_l:Sl BP}{y:Int}(h:O2 N p_l=some y) :FunO S Ho [.p (vSl 2 I4 p_l)] [] (pN y) ([]) []:=by
 unfold O2 at h;refine A1 hS Oi ?_;refine G7 hS trivial h (fun x1=>⟨[(8,pN x1),(7,pN (p_l.n:Int)),(6,.p (vSl 2 I4 p_l))],[]⟩) (ids:=[]) (fun _ _ _ _ _ self1 x1 hb1 h=>?_);refine kI hS h (fun h=>?_) (fun h=>?_)
 ·obtain⟨c8,h⟩:=D2 h;obtain⟨y3,e3,h⟩:=B6 h;refine B8 hS [] (And.intro c8 (by decide:(2:Nat)<=2)) (DL hS hL e3) ?_;refine kI hS h (fun h=>?_) (fun h=>?_)
  ·cases h;exact kR hS
  ·exact hb1 _ [] _ (wrap .i64 (x1+1)) trivial h
 ·cases h;exact kR hS
def AC (N:Nat)(p_s:Str):Option Bool:=
 (S8 N (Sl.of [(⟨-1,p_s⟩:Y4)]:Sl Y4)).bind fun y1=>
 some (y1==0)
theorem OL {N:Nat}{p_s:Str}{y:Bool}(h:AC N p_s=some y) :FunO S Hr [.p (.str p_s)] [] (pB y) ([]) []:=by unfold AC at h;refine A1 hS Ok ?_;refine Am hS (rfl:true=true) ⟨[(5,.vec 6000)],[(6000,.vec PQ 2 (Sl.of [(⟨-1,p_s⟩:Y4)]:Sl Y4).n (fun i=>O6 ((Sl.of [(⟨-1,p_s⟩:Y4)]:Sl Y4).g i)) false)]⟩ (ids:=[(6000,6000)]) ?_ (hle:=klR [(0,.fn 1 (Sl.of [(⟨-1,p_s⟩:Y4)]:Sl Y4).n (D4 [pI .i64 0,.str []] [(0,O6 (⟨-1,p_s⟩:Y4))]) (fun i=>O6 ((Sl.of [(⟨-1,p_s⟩:Y4)]:Sl Y4).g i)))] (al1 ⟨rfl,(fun i hi=>match i,hi with|0,_=>rfl|_+1,hi=>absurd hi (by omega))⟩ al0));refine kC hS h (Gn hS hL) (fun y1 h=>?_);cases h;exact kR hS
def M8 (N:Nat)(p_l:Sl Aa)(p_leaves:Int):Option Int:=
 R5 N (fun self1 (x2:Int)=>
  if (decide (x2<(p_l.n:Int))) then
   if ((0:Int)<=x2/\x2<(p_l.n:Int))then
    lt (fun (z3:Bool)=>
     if z3 then
      some 2
     else
      self1 (wrap .i64 (x2+1))
     ) fun k3=>
     if (((p_l.g x2.toNat).Forms.n:Int) != p_leaves) then
      k3 true
     else
      (U3 N (p_l.g x2.toNat).Forms).bind fun y6=>
      k3 (!y6)
   else none
  else
   R5 N (fun self2 (x5:Int)=>
    if (decide (x5<(p_l.n:Int))) then
     if ((0:Int)<=x5/\x5<(p_l.n:Int))then
      (AC N (p_l.g x5.toNat).Gloss).bind fun y9=>
      if (!y9) then
       some 15
      else
       self2 (wrap .i64 (x5+1))
     else none
    else
     some 0
    ) 0
  ) 0
theorem KY {N:Nat}{p_l:Sl Aa}{p_leaves:Int}{y:Int}(h:M8 N p_l p_leaves=some y) :FunO S Fp [.p (vSl 2 I8 p_l),pN p_leaves] [] (pN y) ([]) []:=by
 unfold M8 at h;refine A1 hS KO ?_;refine G7 hS trivial h (fun x2=>⟨[(11,pN x2),(10,pN (p_l.n:Int)),(9,.p (vSl 2 I8 p_l)),(1,pN p_leaves),(0,.p (vSl 2 I8 p_l))],[]⟩) (ids:=[]) (fun _ _ _ _ _ self1 x2 hb3 h=>?_);refine kI hS h (fun h=>?_) (fun h=>?_)
 ·obtain⟨c14,h⟩:=D2 h;refine FM hS (And.intro c14 (by decide:(2:Nat)<=2)) (A3 hS) h 0 (fun z3=>⟨[(25,pB z3),(11,pN x2),(10,pN (p_l.n:Int)),(9,.p (vSl 2 I8 p_l)),(1,pN p_leaves),(0,.p (vSl 2 I8 p_l))],[]⟩) (fun M3 k3 hb4 h=>?_) (fun z3 h=>?_)
  ·refine kG hS h (fun h=>?_) (fun h=>?_)
   ·exact hb4 _ [] _ true trivial h
   ·refine kC hS h (Hz hS hL) (fun y6 h=>?_);exact hb4 _ [] _ (!y6) trivial h
  ·refine kI hS h (fun h=>?_) (fun h=>?_)
   ·cases h;exact kR hS
   ·exact hb3 _ [] _ (wrap .i64 (x2+1)) trivial h
 ·refine G7 hS trivial h (fun x5=>⟨[(29,pN x5),(28,pN (p_l.n:Int)),(27,.p (vSl 2 I8 p_l))],[]⟩) (ids:=[]) (fun _ _ _ _ _ self2 x5 hb5 h=>?_);refine kI hS h (fun h=>?_) (fun h=>?_)
  ·obtain⟨c26,h⟩:=D2 h;obtain⟨y9,e9,h⟩:=B6 h;refine B8 hS [] (And.intro c26 (by decide:(2:Nat)<=2)) (OL hS hL e9) ?_;refine kI hS h (fun h=>?_) (fun h=>?_)
   ·cases h;exact kR hS
   ·exact hb5 _ [] _ (wrap .i64 (x5+1)) trivial h
  ·cases h;exact kR hS
def AD (N:Nat)(p_h:B3)(p_protos:Sl BP)(p_l:Sl Aa):Option Int:=
 (P2 N p_h).bind fun y1=>
 if (y1 != 0) then
  some y1
 else
  (T2 N p_h.Tree).bind fun y2=>
  if (decide (256<(p_l.n:Int))) then
   some 12
  else
   lt (fun (z1:Bool)=>
    if z1 then
     some 2
    else
     (M8 N p_l (y2.1.n:Int)).bind fun y5=>
     if (y5 != 0) then
      some y5
     else
      (O2 N p_protos).bind fun y6=>
      if (y6 != 0) then
       some y6
      else
       R5 N (fun self1 (x2:Int)=>
        if (decide (x2<(p_l.n:Int))) then
         if ((0:Int)<=x2/\x2<(p_l.n:Int))then
          (O2 N (p_l.g x2.toNat).Forms).bind fun y9=>
          if (y9 != 0) then
           some y9
          else
           self1 (wrap .i64 (x2+1))
         else none
        else
         some 0
        ) 0
    ) fun k1=>
    if ((p_protos.n:Int) != (p_l.n:Int)) then
     k1 true
    else
     (U3 N p_protos).bind fun y4=>
     k1 (!y4)
theorem OM {N:Nat}{p_h:B3}{p_protos:Sl BP}{p_l:Sl Aa}{y:Int}(h:AD N p_h p_protos p_l=some y) :FunO S Hh [.p (.agg (B2 p_h)),.p (vSl 2 I4 p_protos),.p (vSl 2 I8 p_l)] [] (pN y) ([]) []:=by
 unfold AD at h;refine A1 hS Oa ?_;refine kC hS h (Gp hS hL) (fun y1 h=>?_);refine kI hS h (fun h=>?_) (fun h=>?_)
 ·cases h;exact kR hS
 ·refine kC hS h (IY hS hL) (fun y2 h=>?_);refine kI hS h (fun h=>?_) (fun h=>?_)
  ·cases h;exact kR hS
  ·refine FM hS trivial (A3 hS) h 0 (fun z1=>⟨[(30,pB z1),(8,.vec 24000),(2,.p (vSl 2 I8 p_l)),(1,.p (vSl 2 I4 p_protos))],[(24000,.vec B9 1 y2.1.n (fun i=>cI .i64 (y2.1.g i)) true)]⟩) (fun M1 k1 hb1 h=>?_) (fun z1 h=>?_)
   ·refine kG hS h (fun h=>?_) (fun h=>?_)
    ·exact hb1 _ [(24000,24000)] _ true trivial h
    ·refine kC hS h (Hz hS hL) (fun y4 h=>?_);exact hb1 _ [(24000,24000)] _ (!y4) trivial h
   ·refine kI hS h (fun h=>?_) (fun h=>?_)
    ·cases h;exact kR hS
    ·refine kC hS h (KY hS hL) (fun y5 h=>?_);refine kI hS h (fun h=>?_) (fun h=>?_)
     ·cases h;exact kR hS
     ·refine kC hS h (HA hS hL) (fun y6 h=>?_);refine kI hS h (fun h=>?_) (fun h=>?_)
      ·cases h;exact kR hS
      ·refine G7 hS trivial h (fun x2=>⟨[(55,pN x2),(54,pN (p_l.n:Int)),(53,.p (vSl 2 I8 p_l))],[]⟩) (ids:=[]) (fun _ _ _ _ _ self1 x2 hb2 h=>?_);refine kI hS h (fun h=>?_) (fun h=>?_)
       ·obtain⟨c16,h⟩:=D2 h;obtain⟨y9,e9,h⟩:=B6 h;refine B8 hS [] (And.intro c16 (by decide:(2:Nat)<=2)) (HA hS hL e9) ?_;refine kI hS h (fun h=>?_) (fun h=>?_)
        ·cases h;exact kR hS
        ·exact hb2 _ [] _ (wrap .i64 (x2+1)) trivial h
       ·cases h;exact kR hS
def AW (N:Nat)(p_l:Sl BP):Option Bool:=
 R5 N (fun self1 (x1:Int)=>
  if (decide (x1<(p_l.n:Int))) then
   if ((0:Int)<=x1/\x1<(p_l.n:Int))then
    if ((!(p_l.g x1.toNat).Has)=true->((0:Int)<=x1/\x1<(p_l.n:Int)))then
     if ((!(p_l.g x1.toNat).Has)&&(decide (0<((p_l.g x1.toNat).W.n:Int)))) then
      some false
     else
      self1 (wrap .i64 (x1+1))
    else none
   else none
  else
   some true
  ) 0
theorem Np {N:Nat}{p_l:Sl BP}{y:Bool}(h:AW N p_l=some y) :FunO S Mu [.p (vSl 2 I4 p_l)] [] (pB y) ([]) []:=by
 unfold AW at h;refine A1 hS VL ?_;refine G7 hS trivial h (fun x1=>⟨[(3,pN x1),(0,.p (vSl 2 I4 p_l))],[]⟩) (ids:=[]) (fun _ _ _ _ _ self1 x1 hb1 h=>?_);refine kI hS h (fun h=>?_) (fun h=>?_)
 ·obtain⟨c10,h⟩:=D2 h;obtain⟨c11,h⟩:=D2 h;refine kB hS (A3 hS) c10 c11 8 (.n (.a (!(p_l.g x1.toNat).Has)) (.a (decide (0<((p_l.g x1.toNat).W.n:Int))))) ?_;refine kI hS h (fun h=>?_) (fun h=>?_)
  ·cases h;exact kR hS
  ·exact hb1 _ [] _ (wrap .i64 (x1+1)) trivial h
 ·cases h;exact kR hS
def X8 (N:Nat)(p_l:Sl BP):Option Int:=
 R5 N (fun self1 (x1:Int)=>
  if (decide (x1<(p_l.n:Int))) then
   if ((0:Int)<=x1/\x1<(p_l.n:Int))then
    (W1 N (p_l.g x1.toNat).W).bind fun y3=>
    if (y3 != 0) then
     some y3
    else
     self1 (wrap .i64 (x1+1))
   else none
  else
   some 0
  ) 0
theorem Nq {N:Nat}{p_l:Sl BP}{y:Int}(h:X8 N p_l=some y) :FunO S Mv [.p (vSl 2 I4 p_l)] [] (pN y) ([]) []:=by
 unfold X8 at h;refine A1 hS VM ?_;refine G7 hS trivial h (fun x1=>⟨[(3,pN x1),(0,.p (vSl 2 I4 p_l))],[]⟩) (ids:=[]) (fun _ _ _ _ _ self1 x1 hb1 h=>?_);refine kI hS h (fun h=>?_) (fun h=>?_)
 ·obtain⟨c8,h⟩:=D2 h;obtain⟨y3,e3,h⟩:=B6 h;refine B8 hS [] c8 (EZ hS hL e3) ?_;refine kI hS h (fun h=>?_) (fun h=>?_)
  ·cases h;exact kR hS
  ·exact hb1 _ [] _ (wrap .i64 (x1+1)) trivial h
 ·cases h;exact kR hS
def Dv (N:Nat)(p_h:B3)(p_protos:Sl BP)(p_l:Sl Aa):Option Int:=
 (AU N p_h).bind fun y1=>
 if (y1 != 0) then
  some y1
 else
  if (decide (256<(p_l.n:Int))) then
   some 12
  else
   (X6 N p_h.Tree).bind fun y2=>
   lt (fun (z1:Bool)=>
    if z1 then
     some 2
    else
     R5 N (fun self1 (x3:Int)=>
      if (decide (x3<(p_l.n:Int))) then
       if ((0:Int)<=x3/\x3<(p_l.n:Int))then
        lt (fun (z4:Bool)=>
         if z4 then
          some 2
         else
          self1 (wrap .i64 (x3+1))
         ) fun k4=>
         if (((p_l.g x3.toNat).Forms.n:Int) != (y2.1.n:Int)) then
          k4 true
         else
          if ((0:Int)<=x3/\x3<(p_l.n:Int))then
           (AW N (p_l.g x3.toNat).Forms).bind fun y10=>
           k4 (!y10)
          else none
       else none
      else
       R5 N (fun self2 (x6:Int)=>
        if (decide (x6<(p_l.n:Int))) then
         if ((0:Int)<=x6/\x6<(p_l.n:Int))then
          (BZ N (p_l.g x6.toNat).Gloss).bind fun y13=>
          if (!y13) then
           some 15
          else
           self2 (wrap .i64 (x6+1))
         else none
        else
         (X8 N p_protos).bind fun y14=>
         S4 N (fun self3 (x7:Int) (x8:Int)=>
          if ((decide (x8<(p_l.n:Int)))&&(x7==0)) then
           if ((0:Int)<=x8/\x8<(p_l.n:Int))then
            (X8 N (p_l.g x8.toNat).Forms).bind fun y17=>
            self3 y17 (wrap .i64 (x8+1))
           else none
          else
           some x7
          ) y14 0
        ) 0
      ) 0
    ) fun k1=>
    if ((p_protos.n:Int) != (p_l.n:Int)) then
     k1 true
    else
     (AW N p_protos).bind fun y4=>
     k1 (!y4)
theorem WG {N:Nat}{p_h:B3}{p_protos:Sl BP}{p_l:Sl Aa}{y:Int}(h:Dv N p_h p_protos p_l=some y) :FunO S Mm [.p (.agg (B2 p_h)),.p (vSl 2 I4 p_protos),.p (vSl 2 I8 p_l)] [] (pN y) ([]) []:=by
 unfold Dv at h;refine A1 hS VC ?_;refine kC hS h (Nl hS hL) (fun y1 h=>?_);refine kI hS h (fun h=>?_) (fun h=>?_)
 ·cases h;exact kR hS
 ·refine kI hS h (fun h=>?_) (fun h=>?_)
  ·cases h;exact kR hS
  ·refine kC hS h (KD hS hL) (fun y2 h=>?_);refine FM hS trivial (A3 hS) h 0 (fun z1=>⟨[(36,pB z1),(8,.vec 25000),(2,.p (vSl 2 I8 p_l)),(1,.p (vSl 2 I4 p_protos))],[(25000,.vec B9 1 y2.1.n (fun i=>cI .i64 (y2.1.g i)) true)]⟩) (fun M1 k1 hb1 h=>?_) (fun z1 h=>?_)
   ·refine kG hS h (fun h=>?_) (fun h=>?_)
    ·exact hb1 _ [(25000,25000)] _ true trivial h
    ·refine kC hS h (Np hS hL) (fun y4 h=>?_);exact hb1 _ [(25000,25000)] _ (!y4) trivial h
   ·refine kI hS h (fun h=>?_) (fun h=>?_)
    ·cases h;exact kR hS
    ·refine G7 hS trivial h (fun x3=>⟨[(10,pN x3),(8,.vec 25000),(2,.p (vSl 2 I8 p_l)),(1,.p (vSl 2 I4 p_protos))],[(25000,.vec B9 1 y2.1.n (fun i=>cI .i64 (y2.1.g i)) true)]⟩) (ids:=[(25000,25000)]) (fun _ _ _ _ _ self1 x3 hb4 h=>?_);refine kI hS h (fun h=>?_) (fun h=>?_)
     ·obtain⟨c24,h⟩:=D2 h;refine FM hS c24 (A3 hS) h 0 (fun z4=>⟨[(60,pB z4),(10,pN x3),(8,.vec 25000),(2,.p (vSl 2 I8 p_l)),(1,.p (vSl 2 I4 p_protos))],[(25000,.vec B9 1 y2.1.n (fun i=>cI .i64 (y2.1.g i)) true)]⟩) (fun M4 k4 hb5 h=>?_) (fun z4 h=>?_)
      ·refine kG hS h (fun h=>?_) (fun h=>?_)
       ·exact hb5 _ [(25000,25000)] _ true trivial h
       ·obtain⟨c29,h⟩:=D2 h;obtain⟨y10,e10,h⟩:=B6 h;refine B8 hS [] c29 (Np hS hL e10) ?_;exact hb5 _ [(25000,25000)] _ (!y10) trivial h
      ·refine kI hS h (fun h=>?_) (fun h=>?_)
       ·cases h;exact kR hS
       ·exact hb4 _ [(25000,25000)] _ (wrap .i64 (x3+1)) trivial h
     ·refine G7 hS trivial h (fun x6=>⟨[(11,pN x6),(2,.p (vSl 2 I8 p_l)),(1,.p (vSl 2 I4 p_protos))],[]⟩) (ids:=[]) (fun _ _ _ _ _ self2 x6 hb6 h=>?_);refine kI hS h (fun h=>?_) (fun h=>?_)
      ·obtain⟨c38,h⟩:=D2 h;obtain⟨y13,e13,h⟩:=B6 h;refine B8 hS [] c38 (JK hS hL e13) ?_;refine kI hS h (fun h=>?_) (fun h=>?_)
       ·cases h;exact kR hS
       ·exact hb6 _ [] _ (wrap .i64 (x6+1)) trivial h
      ·refine kC hS h (Nq hS hL) (fun y14 h=>?_);refine F5 hS trivial h (fun x7 x8=>⟨[(12,pN x8),(7,pN x7),(2,.p (vSl 2 I8 p_l))],[]⟩) (ids:=[]) (fun _ _ _ _ _ self3 x7 x8 hb7 h=>?_);refine kB hS (A3 hS) trivial trivial 3 (.n (.a (decide (x8<(p_l.n:Int)))) (.a (x7==0))) ?_;refine kI hS h (fun h=>?_) (fun h=>?_)
       ·obtain⟨c45,h⟩:=D2 h;obtain⟨y17,e17,h⟩:=B6 h;refine B8 hS [] c45 (Nq hS hL e17) ?_;exact hb7 _ [] _ y17 (wrap .i64 (x8+1)) trivial h
       ·cases h;exact kR hS
def X9 (N:Nat)(p_h:B3)(p_protos:Sl BP)(p_l:Sl Aa):Option ((Sl F9)×Int):=
 (AD N p_h p_protos p_l).bind fun y1=>
 if (y1 != 0) then
  some ((Sl.nil:Sl F9),y1)
 else
  (T2 N p_h.Tree).bind fun y2=>
  S4 N (fun self9 (x6:Sl F9) (x7:Int)=>
   if (decide (x7<(p_l.n:Int))) then
    if ((0:Int)<=x7/\x7<(p_l.n:Int))then
     S4 N (fun self12 (x14:Sl F9) (x15:Int)=>
      if (decide (x15<((p_l.g x7.toNat).Forms.n:Int))) then
       if ((0:Int)<=x15/\x15<((p_l.g x7.toNat).Forms.n:Int))then
        if ((!((p_l.g x7.toNat).Forms.g x15.toNat).Has)=false->((0:Int)<=x7/\x7<(p_protos.n:Int)))then
         if ((!((p_l.g x7.toNat).Forms.g x15.toNat).Has)||(!(p_protos.g x7.toNat).Has)) then
          self12 x14 (wrap .i64 (x15+1))
         else
          if (((0:Int)<=x15/\x15<(y2.1.n:Int))/\x15.toNat<y2.1.n)then
           (Q9 N p_h (y2.1.g x15.toNat)).bind fun y19=>
           if ((0:Int)<=x7/\x7<(p_protos.n:Int))then
            (Cg N y19.1 (p_protos.g x7.toNat).W ((p_l.g x7.toNat).Forms.g x15.toNat).W).bind fun y20=>
            (Q0 N y20.1 y20.2.1 y20.2.2).bind fun L9=>
            P4 L9 (fun self13 (x17:Int) (_:Unit)=>
             if ((x14.n+(Sl.of [(⟨x7,x15⟩:F9)]:Sl F9).n)*16<=140737488355328/\x14.n+(Sl.of [(⟨x7,x15⟩:F9)]:Sl F9).n<=140737488355328)then
              self12 (x14.push (⟨x7,x15⟩:F9)) (wrap .i64 (x15+1))
             else none
             ) (fun (_:Unit)=>
              self12 x14 (wrap .i64 (x15+1))
             ) ()
           else none
          else none
        else none
       else none
      else
       self9 x14 (wrap .i64 (x7+1))
      ) x6 0
    else none
   else
    some (x6,0)
   ) (Sl.nil:Sl F9) 0
theorem Nr {N:Nat}{p_h:B3}{p_protos:Sl BP}{p_l:Sl Aa}{y:(Sl F9)×Int}(h:X9 N p_h p_protos p_l=some y) :FunO S FQ [.p (.agg (B2 p_h)),.p (vSl 2 I4 p_protos),.p (vSl 2 I8 p_l)] [] (.tup [.vec 0,pN y.2]) ([.vec AP 2 y.1.n (fun i=>I3 (y.1.g i)) true]) []:=by
 unfold X9 at h;refine A1 hS Mh ?_;refine J3 hS trivial 6 4000 (B2 p_h) ?_;obtain⟨y1,e1,h⟩:=B6 h;refine B8 hS [] (by decide:(3:Nat)<=3) (OM hS hL e1) ?_;refine kI hS h (fun h=>?_) (fun h=>?_)
 ·obtain rfl:=B7 h;exact A6 hS trivial ⟨[(7,pN y1),(6,.vec 7700)],[(7700,.vec AP 2 (Sl.nil:Sl F9).n (fun i=>I3 ((Sl.nil:Sl F9).g i)) true)]⟩ [7700] (ids:=[]) ⟨rfl,rfl,rfl⟩
 ·refine kC hS h (IY hS hL) (fun y2 h=>?_);refine F5 hS trivial h (fun x6 x7=>⟨[(33,pN x7),(32,pN (p_l.n:Int)),(31,.p (vSl 2 I8 p_l)),(11,.reg 12000 0),(9,.vec 29000),(3,.p (.ptr (B2 p_h))),(1,.p (vSl 2 I4 p_protos))],[(29000,.vec B9 1 y2.1.n (fun i=>cI .i64 (y2.1.g i)) true),(12501,.vec AP 2 x6.n (fun i=>I3 (x6.g i)) false),(12000,.cells [.vec 12501])]⟩) (ids:=[(12000,12000),(29000,29000)]) (fun _ _ _ _ _ self9 x6 x7 hb9 h=>?_);refine kI hS h (fun h=>?_) (fun h=>?_)
  ·obtain⟨c49,h⟩:=D2 h;refine J3 hS (And.intro c49 (by decide:(2:Nat)<=2)) 38 13000 [pI .i64 x7] ?_;refine J3 hS trivial 38 14000 [.str (p_l.g x7.toNat).Gloss,vSl 2 I4 (p_l.g x7.toNat).Forms] ?_;refine F5 hS trivial h (fun x14 x15=>⟨[(41,pN x15),(40,pN ((p_l.g x7.toNat).Forms.n:Int)),(39,.p (vSl 2 I4 (p_l.g x7.toNat).Forms)),(33,pN x7),(32,pN (p_l.n:Int)),(31,.p (vSl 2 I8 p_l)),(12,.p (.ptr [pI .i64 x7])),(11,.reg 12000 0),(9,.vec 29000),(3,.p (.ptr (B2 p_h))),(1,.p (vSl 2 I4 p_protos))],[(29000,.vec B9 1 y2.1.n (fun i=>cI .i64 (y2.1.g i)) true),(12500,.vec AP 2 x14.n (fun i=>I3 (x14.g i)) false),(12000,.cells [.vec 12500])]⟩) (ids:=[(12000,12000),(12500,12501),(29000,29000)]) (fun _ _ _ _ _ self12 x14 x15 hb12 h=>?_);refine kI hS h (fun h=>?_) (fun h=>?_)
   ·obtain⟨c65,h⟩:=D2 h;refine J3 hS (And.intro c65 (by decide:(2:Nat)<=2)) 46 15000 [pI .i64 x15] ?_;refine J3 hS trivial 46 16000 [.bb ((p_l.g x7.toNat).Forms.g x15.toNat).Has,vSl 2 A0 ((p_l.g x7.toNat).Forms.g x15.toNat).W] ?_;obtain⟨c66,h⟩:=D2 h;refine kB hS (A3 hS) trivial c66 7 (.o (.a (!((p_l.g x7.toNat).Forms.g x15.toNat).Has)) (.a (!(p_protos.g x7.toNat).Has))) ?_;refine kI hS h (fun h=>?_) (fun h=>?_)
    ·exact hb12 _ [(12000,12000),(12500,12500),(29000,29000)] _ x14 (wrap .i64 (x15+1)) trivial h
    ·refine D7 hS trivial [0,2,5] ?_;obtain⟨c68,h⟩:=D2 h;obtain⟨y19,e27,h⟩:=B6 h;refine U6 (And.intro (And.intro (by decide:(3:Nat)<=3) c68.1) c68.2) (OJ hS hL e27) ?_;refine H5 trivial ?_;refine D7 hS trivial [2,3,5,7] ?_;obtain⟨c69,h⟩:=D2 h;obtain⟨y20,e28,h⟩:=B6 h;refine GX [] c69 (Hx hS hL e28) ?_;refine H5 trivial ?_;obtain⟨L9,e29,h⟩:=B6 h;refine FO hS trivial [75000,75001,75002] [41,40,39,33,32,31,14,12,11,9,3,1] 917 (fun _=>⟨[(41,pN x15),(40,pN ((p_l.g x7.toNat).Forms.n:Int)),(39,.p (vSl 2 I4 (p_l.g x7.toNat).Forms)),(33,pN x7),(32,pN (p_l.n:Int)),(31,.p (vSl 2 I8 p_l)),(14,.p (.ptr [pI .i64 x15])),(12,.p (.ptr [pI .i64 x7])),(11,.reg 12000 0),(9,.vec 29000),(3,.p (.ptr (B2 p_h))),(1,.p (vSl 2 I4 p_protos))],[(29000,.vec B9 1 y2.1.n (fun i=>cI .i64 (y2.1.g i)) true),(12500,.vec AP 2 x14.n (fun i=>I3 (x14.g i)) false),(12000,.cells [.vec 12500])]⟩) (idl:=[(12000,12000),(12500,12500),(29000,29000)]) h (Fw hS hL e29) (fun _=>by kernel_rfl) (fun _=>by kernel_rfl) (fun _=>by kernel_rfl) (fun _=>by kernel_rfl) (fun x17 _ self13 _ hb13 h=>?_) (fun _ h=>?_)
     ·refine HL hS trivial ?_;obtain⟨c70,h⟩:=D2 h;refine Lk hS (And.intro (rfl:true=true) c70) ⟨[(41,pN x15),(40,pN ((p_l.g x7.toNat).Forms.n:Int)),(39,.p (vSl 2 I4 (p_l.g x7.toNat).Forms)),(33,pN x7),(32,pN (p_l.n:Int)),(31,.p (vSl 2 I8 p_l)),(14,.p (.ptr [pI .i64 x15])),(12,.p (.ptr [pI .i64 x7])),(11,.reg 12000 0),(9,.vec 29000),(3,.p (.ptr (B2 p_h))),(1,.p (vSl 2 I4 p_protos))],[(82000,.vec AP 2 (x14.push (⟨x7,x15⟩:F9)).n (fun i=>I3 ((x14.push (⟨x7,x15⟩:F9)).g i)) false),(29000,.vec B9 1 y2.1.n (fun i=>cI .i64 (y2.1.g i)) true),(12000,.cells [.vec 82000])]⟩ (ids:=[(917,917),(12000,12000),(29000,29000),(82000,82000)]) ?_ (hle:=klR [(0,.fn (x14.n+1) (x14.push (⟨x7,x15⟩:F9)).n (R4 x14.n (fun i=>I3 (x14.g i)) (D4 [pI .i64 0,pI .i64 0] [(0,I3 (⟨x7,x15⟩:F9))])) (fun i=>I3 ((x14.push (⟨x7,x15⟩:F9)).g i)))] (al1 ⟨rfl,Er (c:=I3) (v:=x14) (x:=(⟨x7,x15⟩:F9)) (z:=[(pI .i64 0),pI .i64 0]) same rfl rfl⟩ al0));exact hb12 _ [(12000,12000),(12500,82000),(29000,29000)] _ (x14.push (⟨x7,x15⟩:F9)) (wrap .i64 (x15+1)) trivial h
     ·exact hb12 _ [(12000,12000),(12500,12500),(29000,29000)] _ x14 (wrap .i64 (x15+1)) trivial h
   ·exact hb9 _ [(12000,12000),(12501,12500),(29000,29000)] _ x14 (wrap .i64 (x7+1)) trivial h
  ·obtain rfl:=B7 h;exact A6 hS trivial ⟨[(7,pN 0),(6,.vec 12501)],[(12501,.vec AP 2 x6.n (fun i=>I3 (x6.g i)) true)]⟩ [12501] (ids:=[(12501,12501)]) ⟨rfl,rfl,rfl⟩
def BC (N:Nat)(p_h:B3)(p_protos:Sl BP)(p_l:Sl Aa):Option ((Sl F9)×Int):=
 (Dv N p_h p_protos p_l).bind fun y1=>
 if (y1 != 0) then
  some ((Sl.nil:Sl F9),y1)
 else
  (X6 N p_h.Tree).bind fun y2=>
  S4 N (fun self3 (x3:Sl F9) (x4:Int)=>
   if (decide (x4<(p_l.n:Int))) then
    S4 N (fun self4 (x7:Sl F9) (x8:Int)=>
     if (decide (x8<(y2.1.n:Int))) then
      if (((0:Int)<=x4/\x4<(p_l.n:Int))/\((0:Int)<=x8/\x8<((p_l.g x4.toNat).Forms.n:Int)))then
       if (((0:Int)<=x8/\x8<(y2.1.n:Int))/\x8.toNat<y2.1.n)then
        (CX N p_h (y2.1.g x8.toNat)).bind fun y19=>
        if ((0:Int)<=x4/\x4<(p_protos.n:Int))then
         if (p_protos.g x4.toNat).Has then
          if ((p_l.g x4.toNat).Forms.g x8.toNat).Has then
           if ((0:Int)<=x4/\x4<(p_protos.n:Int))then
            (Cv N y19.1 (p_protos.g x4.toNat).W ((p_l.g x4.toNat).Forms.g x8.toNat).W).bind fun y20=>
            if (decide (0<(y20.n:Int))) then
             if ((x7.n+(Sl.of [(⟨x4,x8⟩:F9)]:Sl F9).n)*16<=140737488355328/\x7.n+(Sl.of [(⟨x4,x8⟩:F9)]:Sl F9).n<=140737488355328)then
              self4 (x7.push (⟨x4,x8⟩:F9)) (wrap .i64 (x8+1))
             else none
            else
             self4 x7 (wrap .i64 (x8+1))
           else none
          else
           self4 x7 (wrap .i64 (x8+1))
         else
          self4 x7 (wrap .i64 (x8+1))
        else none
       else none
      else none
     else
      self3 x7 (wrap .i64 (x4+1))
     ) x3 0
   else
    some (x3,0)
   ) (Sl.nil:Sl F9) 0
theorem RG {N:Nat}{p_h:B3}{p_protos:Sl BP}{p_l:Sl Aa}{y:(Sl F9)×Int}(h:BC N p_h p_protos p_l=some y) :FunO S Iv [.p (.agg (B2 p_h)),.p (vSl 2 I4 p_protos),.p (vSl 2 I8 p_l)] [] (.tup [.vec 0,pN y.2]) ([.vec AP 2 y.1.n (fun i=>I3 (y.1.g i)) true]) []:=by
 unfold BC at h;refine A1 hS QY ?_;refine J3 hS trivial 6 4000 (B2 p_h) ?_;obtain⟨y1,e1,h⟩:=B6 h;refine B8 hS [] (by decide:(3:Nat)<=3) (WG hS hL e1) ?_;refine kI hS h (fun h=>?_) (fun h=>?_)
 ·obtain rfl:=B7 h;exact A6 hS trivial ⟨[(7,pN y1),(6,.vec 7700)],[(7700,.vec AP 2 (Sl.nil:Sl F9).n (fun i=>I3 ((Sl.nil:Sl F9).g i)) true)]⟩ [7700] (ids:=[]) ⟨rfl,rfl,rfl⟩
 ·refine kC hS h (KD hS hL) (fun y2 h=>?_);refine F5 hS trivial h (fun x3 x4=>⟨[(12,pN x4),(11,.vec 12501),(9,.vec 28000),(3,.p (.ptr (B2 p_h))),(2,.p (vSl 2 I8 p_l)),(1,.p (vSl 2 I4 p_protos))],[(28000,.vec B9 1 y2.1.n (fun i=>cI .i64 (y2.1.g i)) true),(12501,.vec AP 2 x3.n (fun i=>I3 (x3.g i)) false)]⟩) (ids:=[(28000,28000)]) (fun _ _ _ _ _ self3 x3 x4 hb3 h=>?_);refine kI hS h (fun h=>?_) (fun h=>?_)
  ·refine F5 hS trivial h (fun x7 x8=>⟨[(13,pN x8),(12,pN x4),(11,.vec 12502),(9,.vec 28000),(3,.p (.ptr (B2 p_h))),(2,.p (vSl 2 I8 p_l)),(1,.p (vSl 2 I4 p_protos))],[(28000,.vec B9 1 y2.1.n (fun i=>cI .i64 (y2.1.g i)) true),(12502,.vec AP 2 x7.n (fun i=>I3 (x7.g i)) false)]⟩) (ids:=[(12502,12501),(28000,28000)]) (fun _ _ _ _ _ self4 x7 x8 hb4 h=>?_);refine kI hS h (fun h=>?_) (fun h=>?_)
   ·obtain⟨c72,h⟩:=D2 h;refine D7 hS (And.intro (And.intro c72.1 c72.2) (by decide:(2:Nat)<=2)) [0] ?_;obtain⟨c73,h⟩:=D2 h;obtain⟨y19,e19,h⟩:=B6 h;refine GX [] (And.intro (And.intro (by decide:(3:Nat)<=3) c73.1) c73.2) (Aa4 hS hL e19) ?_;refine H5 trivial ?_;refine Aw2 hS trivial 15000 [.bb ((p_l.g x4.toNat).Forms.g x8.toNat).Has,vSl 2 A0 ((p_l.g x4.toNat).Forms.g x8.toNat).W] ?_;refine D7 hS trivial [2,4,7,13,15,17] ?_;obtain⟨c74,h⟩:=D2 h;refine LZ c74 (b:=(p_protos.g x4.toNat).Has) (fun c75=>?_) (fun c75=>?_)
    ·replace h:=itT c75 h;refine LZ trivial (b:=((p_l.g x4.toNat).Forms.g x8.toNat).Has) (fun c76=>?_) (fun c76=>?_)
     ·replace h:=itT c76 h;obtain⟨c77,h⟩:=D2 h;obtain⟨y20,e20,h⟩:=B6 h;refine GX [] c77 (Uf hS hL e20) ?_;refine H5 trivial ?_;refine kI hS h (fun h=>?_) (fun h=>?_)
      ·obtain⟨c79,h⟩:=D2 h;exact hb4 _ [(12502,87000),(28000,28000)] _ (x7.push (⟨x4,x8⟩:F9)) (wrap .i64 (x8+1)) (And.intro (rfl:true=true) c79) h (hle:=klR [(6,.fn (x7.n+1) (x7.push (⟨x4,x8⟩:F9)).n (R4 x7.n (fun i=>I3 (x7.g i)) (D4 [pI .i64 0,pI .i64 0] [(0,I3 (⟨x4,x8⟩:F9))])) (fun i=>I3 ((x7.push (⟨x4,x8⟩:F9)).g i)))] (al1 ⟨rfl,Er (c:=I3) (v:=x7) (x:=(⟨x4,x8⟩:F9)) (z:=[(pI .i64 0),pI .i64 0]) same rfl rfl⟩ al0))
      ·exact hb4 _ [(12502,12502),(28000,28000)] _ x7 (wrap .i64 (x8+1)) trivial h
     ·replace h:=itF c76 h;refine H5 trivial ?_;exact hb4 _ [(12502,12502),(28000,28000)] _ x7 (wrap .i64 (x8+1)) trivial h
    ·replace h:=itF c75 h;refine H5 trivial ?_;exact hb4 _ [(12502,12502),(28000,28000)] _ x7 (wrap .i64 (x8+1)) trivial h
   ·exact hb3 _ [(12501,12502),(28000,28000)] _ x7 (wrap .i64 (x4+1)) trivial h
  ·obtain rfl:=B7 h;exact A6 hS trivial ⟨[(7,pN 0),(6,.vec 12501)],[(12501,.vec AP 2 x3.n (fun i=>I3 (x3.g i)) true)]⟩ [12501] (ids:=[(12501,12501)]) ⟨rfl,rfl,rfl⟩
def U8 (N:Nat)(p_h:B3)(p_protos:Sl BP)(p_l:Sl Aa):Option Bool:=
 (Gq N p_h).bind fun y1=>
 if (((!y1)||(decide (8<(p_l.n:Int))))||(decide (8<(p_protos.n:Int)))) then
  (BY N ).bind fun y2=>
  some y2
 else
  (X9 N p_h p_protos p_l).bind fun y3=>
  (BC N p_h p_protos p_l).bind fun y4=>
  if (((y3.1.n:Int) != (y4.1.n:Int))||(y3.2 != y4.2)) then
   some false
  else
   R5 N (fun self1 (x1:Int)=>
    if (decide (x1<(y3.1.n:Int))) then
     if (((((0:Int)<=x1/\x1<(y3.1.n:Int))/\x1.toNat<y3.1.n)/\((0:Int)<=x1/\x1<(y4.1.n:Int)))/\x1.toNat<y4.1.n)then
      if ((((y3.1.g x1.toNat).a0==(y4.1.g x1.toNat).a0)&&((y3.1.g x1.toNat).a1==(y4.1.g x1.toNat).a1)) != true) then
       some false
      else
       self1 (wrap .i64 (x1+1))
     else none
    else
     (BY N ).bind fun y5=>
     some y5
    ) 0
theorem HY {N:Nat}{p_h:B3}{p_protos:Sl BP}{p_l:Sl Aa}{y:Bool}(h:U8 N p_h p_protos p_l=some y) :FunO S Bk [.p (.agg (B2 p_h)),.p (vSl 2 I4 p_protos),.p (vSl 2 I8 p_l)] [] (pB y) ([]) []:=by
 unfold U8 at h;refine A1 hS DA ?_;refine J3 hS trivial 6 4000 (B2 p_h) ?_;obtain⟨y1,e1,h⟩:=B6 h;refine B8 hS [] (by decide:(3:Nat)<=3) (Al1 hS hL e1) ?_;refine kB hS (A3 hS) trivial trivial 9 (.o (.o (.a (!y1)) (.a (decide (8<(p_l.n:Int))))) (.a (decide (8<(p_protos.n:Int))))) ?_;refine kI hS h (fun h=>?_) (fun h=>?_)
 ·refine kC hS h (Ni hS hL) (fun y2 h=>?_);cases h;exact kR hS
 ·obtain⟨y3,e3,h⟩:=B6 h;refine B8 hS [] (by decide:(3:Nat)<=3) (Nr hS hL e3) ?_;obtain⟨y4,e4,h⟩:=B6 h;refine B8 hS [] (by decide:(3:Nat)<=3) (RG hS hL e4) ?_;refine kB hS (A3 hS) trivial trivial 4 (.o (.a ((y3.1.n:Int) != (y4.1.n:Int))) (.a (y3.2 != y4.2))) ?_;refine kI hS h (fun h=>?_) (fun h=>?_)
  ·cases h;exact kR hS
  ·refine G7 hS trivial h (fun x1=>⟨[(11,pN x1),(9,.vec 38000),(7,.vec 31000)],[(38000,.vec AP 2 y4.1.n (fun i=>I3 (y4.1.g i)) true),(31000,.vec AP 2 y3.1.n (fun i=>I3 (y3.1.g i)) true)]⟩) (ids:=[(31000,31000),(38000,38000)]) (fun _ _ _ _ _ self1 x1 hb1 h=>?_);refine kI hS h (fun h=>?_) (fun h=>?_)
   ·refine LY hS trivial ?_;obtain⟨c10,h⟩:=D2 h;refine H5 (And.intro (And.intro (And.intro (And.intro (And.intro (And.intro c10.1.1.1 (by decide:(2:Nat)<=2)) c10.1.1.2) c10.1.2) (by decide:(2:Nat)<=2)) c10.2) (by decide +kernel:(!Program.eqGuardType Tryz.prog (Program.depth Tryz.prog) AP)=true)) ?_;refine kI hS h (fun h=>?_) (fun h=>?_)
    ·cases h;exact kR hS
    ·exact hb1 _ [(31000,31000),(38000,38000)] _ (wrap .i64 (x1+1)) trivial h
   ·refine kC hS h (Ni hS hL) (fun y5 h=>?_);cases h;exact kR hS
end Go.AM
namespace Go.AM
open IntKind (wrap)
open Go.Proofs
theorem Ax8 {A R:Type}{body:(A->Option R)->A->Option R}(I:Nat->A->Prop)(n:Nat)(J6:R->Prop)
 (hstep:∀self i a,i<=n->I i a->(i<n->∀a',I (i+1) a' -> ∃r,self a' = some r/\J6 r)->∃r,body self a=some r/\J6 r) :
 ∀(N i:Nat) (a:A),i<=n->I i a->n-i<N->∃r,R5 N body a=some r/\J6 r
 |0,_,_,_,_,h=>by omega
 |N+1,i,a,hi,hI,h=>by rw[V8];exact hstep _ i a hi hI fun hlt a' hI'=>Ax8 I n J6 hstep N (i+1) a' hlt hI' (by omega)
theorem BD {A R:Type}{body:(A->Option R)->A->Option R}(I:Nat->A->Prop)(n:Nat)(J6:R->Prop){N:Nat}(hN:n<N){a:A}(h0:I 0 a)
 (hstep:∀self i a,i<=n->I i a->(i<n->∀a',I (i+1) a' -> ∃r,self a' = some r/\J6 r)->∃r,body self a=some r/\J6 r):∃r,R5 N body a=some r/\J6 r:=
 Ax8 I n J6 hstep N 0 a (Bi2 _) h0 hN
theorem P6 {A B R:Type}{body:(A->B->Option R)->A->B->Option R}(I:Nat->A->B->Prop)(n:Nat)(J6:R->Prop){N:Nat}(hN:n<N){a:A}{b:B}(h0:I 0 a b)
 (hstep:∀self i a b,i<=n->I i a b->(i<n->∀a' b',I (i+1) a' b' -> ∃r,self a' b' = some r/\J6 r)->∃r,body self a b=some r/\J6 r):∃r,S4 N body a b=some r/\J6 r:=
 Ax8 (fun i x=>I i x.1 x.2) n J6 (fun self i x hi hI h=>hstep (fun a b=>self (a,b)) i x.1 x.2 hi hI fun hl a' b' hI'=>h hl (a',b') hI') N 0 (a,b) (Bi2 _) h0 hN
theorem Al2 {A B C R:Type}{body:(A->B->C->Option R)->A->B->C->Option R}(I:Nat->A->B->C->Prop)(n:Nat)(J6:R->Prop){N:Nat}(hN:n<N){a:A}{b:B}{c:C}(h0:I 0 a b c)
 (hstep:∀self i a b c,i<=n->I i a b c->(i<n->∀a' b' c',I (i+1) a' b' c' -> ∃r,self a' b' c' = some r/\J6 r)->∃r,body self a b c=some r/\J6 r):∃r,AI6 N body a b c=some r/\J6 r:=
 Ax8 (fun i x=>I i x.1 x.2.1 x.2.2) n J6 (fun self i x hi hI h=>hstep (fun a b c=>self (a,b,c)) i x.1 x.2.1 x.2.2 hi hI fun hl a' b' c' hI'=>h hl (a',b',c') hI') N 0 (a,b,c) (Bi2 _) h0 hN
theorem B4 {X R:Type}{Q:R->Prop}{o:Option X}{f:X->Option R}{x:X}(h:o=some x)(h2:∃r,f x=some r/\Q r):∃r,o.bind f=some r/\Q r:=by subst h;exact h2
theorem ltX {R A:Type}{Q:R->Prop}{k:A->Option R}{f:(A->Option R)->Option R}(h:∃r,f k=some r/\Q r):∃r,lt k f=some r/\Q r:=h
theorem ifT {R:Type}{Q:R->Prop}{p:Prop}[Decidable p]{a b:Option R}(h:p)(h2:∃r,a=some r/\Q r):∃r,(if p then a else b)=some r/\Q r:=by rw[if_pos h];exact h2
theorem ifF {R:Type}{Q:R->Prop}{p:Prop}[Decidable p]{a b:Option R}(h:¬p)(h2:∃r,b=some r/\Q r):∃r,(if p then a else b)=some r/\Q r:=by rw[if_neg h];exact h2
theorem F0 {n:Int}(h : -9223372036854775808<=n)(h' : n<=9223372036854775807):IntKind.i64.wrap n=n:=by
 by_cases h0:0<=n
 ·have h1:n % (2 ^ 64:Int)=n:=Bj2 h0 (by omega);unfold wrap;simp only[IntKind.bits,IntKind.signed,h1];rw[if_neg];simp;omega
 ·have h1:n % (2 ^ 64:Int)=n+2 ^ 64:=by rw[<- Int.add_emod_right];exact Bj2 (by omega) (by omega)
  unfold wrap;simp only[IntKind.bits,IntKind.signed,h1];rw[if_pos]
  ·omega
  ·simp;omega
theorem C0 {i:Nat}(h:i<1000000000000000000):IntKind.i64.wrap ((i:Int)+1)=((i+1:Nat):Int):=by rw[F0 (by omega) (by omega)];rfl
theorem wrapP {i:Nat}(h0:1<=i)(h:i<1000000000000000000):IntKind.i64.wrap ((i:Int)-1)=((i-1:Nat):Int):=by rw[F0 (by omega) (by omega)];omega
theorem Dy {i j:Nat}(h:i+j<1000000000000000000):IntKind.i64.wrap ((i:Int)+(j:Int))=((i+j:Nat):Int):=by rw[F0 (by omega) (by omega)];rfl
theorem Yd {N n:Nat}(hn:n<=32)(hN:1000<=N):∃s,CR N (n:Int)=some s/\s.n=n+1/\TabR n (fun a b=>a=b) s.g:=by
 unfold CR;rw[C0 (by omega)];refine ifT (by omega) ?_;refine P6 (fun i x1 x2=>x2=(i:Int)/\x1.n=n+1/\∀a,a<i->x1.g a=U (1#64 <<< a)) (n+1) _ (by omega) ⟨rfl,by show ((n+1:Nat):Int).toNat=n+1;omega,fun a ha=>absurd ha (by omega)⟩ ?_;rintro self i x1 x2 hi ⟨rfl,h1,h2⟩ hs;by_cases hl:i<=n
 ·refine ifT (by simp;omega) (ifT ⟨⟨by omega,by omega,by omega⟩,by omega⟩ (hs (by omega) _ _ ⟨C0 (by omega),h1,fun a ha=>?_⟩));show (if a=(i:Int).toNat then shI .shl .u64 1 (i:Int)else x1.g a)=_;by_cases e:a=i
  ·subst e;rw[if_pos (by omega),TN _ (by omega)]
  ·rw[if_neg (by omega)];exact h2 a (by omega)
 ·refine ifF (by simp;omega) ⟨x1,rfl,h1,fun a ha=>⟨1#64 <<< a,h2 a (by omega),fun b hb=>?_⟩⟩;rw[Gc (by omega) hb,decide_eq_true_eq];omega
theorem Ax9 {n:Nat}{f:Nat->Int}(h:∀a,a<=n->f a=0):TabR n (fun _ _=>False) f:=fun a ha=>⟨0#64,h a ha,fun b hb=>by simp⟩
theorem Ye {N n:Nat}{R S:Nat->Nat->Prop}{x y:Sl Int}(hn:n<=32)(hN:1000<=N)(hx:x.n=n+1)(hy:y.n=n+1)(hR:TabR n R x.g)(hS:TabR n S y.g) :∃s,CS N x y=some s/\s.n=n+1/\TabR n (fun a b=>R a b \/ S a b) s.g:=by
 unfold CS;refine ifT (by omega) ?_;refine P6 (fun i x1 x2=>x2=(i:Int)/\x1.n=n+1/\∀a,a<i->x1.g a=E4 .or .u64 (x.g a) (y.g a)) (n+1) _ (by omega) ⟨rfl,by show (x.n:Int).toNat=n+1;omega,fun a ha=>absurd ha (by omega)⟩ ?_;rintro self i x1 x2 hi ⟨rfl,h1,h2⟩ hs;by_cases hl:i<=n
 ·refine ifT (by simp;omega) (ifT (by omega) (hs (by omega) _ _ ⟨C0 (by omega),h1,fun a ha=>?_⟩));show (if a=(i:Int).toNat then _ else x1.g a)=_;by_cases e:a=i
  ·subst e;rw[if_pos (by omega),AY3]
  ·rw[if_neg (by omega)];exact h2 a (by omega)
 ·refine ifF (by simp;omega) ⟨x1,rfl,h1,fun a ha=>?_⟩;obtain⟨u,e1,g1⟩:=hR a ha;obtain⟨v,e2,g2⟩:=hS a ha;refine⟨u ||| v,by rw[h2 a (by omega),e1,e2,AX8],fun b hb=>?_⟩;rw[AZ8,Ba5,g1 b hb,g2 b hb];constructor
  ·rintro (⟨h1,h2⟩ | ⟨h1,h2⟩)
   ·exact⟨h1,.inl h2⟩
   ·exact⟨h1,.inr h2⟩
  ·rintro⟨h1,h2|h2⟩
   ·exact .inl ⟨h1,h2⟩
   ·exact .inr ⟨h1,h2⟩
theorem Al3 {N n:Nat}{x y:Sl Int}(hn:n<=32)(hN:1000<=N)(hx:x.n=n+1)(hy:y.n=n+1) :∃b,Dq N x y=some b/\(b=true ↔ ∀a,a<=n->x.g a=y.g a):=by
 unfold Dq;refine BD (fun i x1=>x1=(i:Int)/\∀a,a<i->x.g a=y.g a) (n+1) _ (by omega) ⟨rfl,fun a ha=>absurd ha (by omega)⟩ ?_;rintro self i x1 hi ⟨rfl,h2⟩ hs;by_cases hl:i<=n
 ·refine ifT (by simp;omega) (ifT (by omega) ?_);rw[AY3];by_cases e:x.g i=y.g i
  ·refine ifF (by simp[e]) (hs (by omega) _ ⟨C0 (by omega),fun a ha=>?_⟩);by_cases h:a=i
   ·subst h;exact e
   ·exact h2 a (by omega)
  ·refine ifT (by simp[e]) ⟨false,rfl,by simp;exact⟨i,hl,e⟩⟩
 ·exact ifF (by simp;omega) ⟨true,rfl,by simp;exact fun a ha=>h2 a (by omega)⟩
theorem Qa {N n:Nat}{R S:Nat->Nat->Prop}{x y:Sl Int}(hn:n<=32)(hN:1000<=N)(hx:x.n=n+1)(hy:y.n=n+1)(hR:TabR n R x.g)(hS:TabR n S y.g) :∃s,W2 N x y=some s/\s.n=n+1/\TabR n (fun a b=>∃c,c<=n/\R a c/\S c b) s.g:=by
 unfold W2;refine ifT (by omega) ?_
 let Row (z:BitVec 64) (a j:Nat):Prop:=∀b,b<64->(z.getLsbD b=true↔b<=n/\∃c,c<j/\c<=n/\R a c/\S c b)
 refine P6 (fun i x1 x2=>x2=(i:Int)/\x1.n=n+1/\(∀a,a<i->∃z,x1.g a=U z/\Row z a (n+1))/\∀a,i<=a->x1.g a=0) (n+1) _ (by omega) ⟨rfl,by show (x.n:Int).toNat=n+1;omega,fun a ha=>absurd ha (by omega),fun a _=>rfl⟩ ?_;rintro self i x1 x2 hi ⟨rfl,h1,h2,h3⟩ hs;by_cases hl:i<=n
 ·refine ifT (by simp;omega) ?_;refine P6 (fun j x7 x8=>x8=(j:Int)/\x7.n=n+1/\(∀a,a<i->∃z,x7.g a=U z/\Row z a (n+1))/\(∃z,x7.g i=U z/\Row z i j)/\∀a,i<a->x7.g a=0) (n+1) _ (by omega)
   ⟨rfl,h1,h2,⟨0#64,h3 i (AZ0 _),fun b hb=>by simp⟩,fun a ha=>h3 a (by omega)⟩ ?_
  rintro self2 j x7 x8 hj ⟨rfl,g1,g2,⟨z,g3,g4⟩,g5⟩ hs2;by_cases hl2:j<=n
  ·refine ifT (by simp;omega) (ifT (by omega) ?_);rw[AY3,AY3];have hbit:=hR.bit hl (b:=j) (by omega);by_cases hc:R i j
   ·refine ifT (hbit.2 ⟨hl2,hc⟩) (ifT (by omega) (hs2 (by omega) _ _ ⟨C0 (by omega),g1,fun a ha=>?_,?_,fun a ha=>?_⟩))
    ·obtain⟨z',e,hz⟩:=g2 a ha;exact⟨z',by show (if a=i then _ else x7.g a)=_;rw[if_neg (by omega)];exact e,hz⟩
    ·obtain⟨v,e,hv⟩:=hS j hl2;refine⟨z ||| v,by show (if i=i then _ else _)=_;rw[if_pos rfl,g3,e,AX8],fun b hb=>?_⟩;rw[AZ8,Ba5,g4 b hb,hv b hb];constructor
     ·rintro (⟨k1,c,k2,k3⟩ | ⟨k1,k2⟩)
      ·exact⟨k1,c,by omega,k3⟩
      ·exact⟨k1,j,by omega,hl2,hc,k2⟩
     ·rintro⟨k1,c,k2,k3,k4,k5⟩;by_cases e:c=j
      ·subst e;exact .inr ⟨k1,k5⟩
      ·exact .inl ⟨k1,c,by omega,k3,k4,k5⟩
    ·show (if a=i then _ else x7.g a)=_;rw[if_neg (by omega)];exact g5 a ha
   ·refine ifF (fun h=>hc (hbit.1 h).2) (hs2 (by omega) _ _ ⟨C0 (by omega),g1,g2,⟨z,g3,fun b hb=>?_⟩,g5⟩);rw[g4 b hb];constructor
    ·rintro⟨k1,c,k2,k3⟩;exact⟨k1,c,by omega,k3⟩
    ·rintro⟨k1,c,k2,k3,k4,k5⟩;by_cases e:c=j
     ·subst e;exact absurd k4 hc
     ·exact⟨k1,c,by omega,k3,k4,k5⟩
  ·refine ifF (by simp;omega) (hs (by omega) _ _ ⟨C0 (by omega),g1,fun a ha=>?_,fun a ha=>g5 a (by omega)⟩);by_cases e:a=i
   ·subst e;obtain rfl:j=n+1:=by omega
    exact⟨z,g3,g4⟩
   ·exact g2 a (by omega)
 ·refine ifF (by simp;omega) ⟨x1,rfl,h1,fun a ha=>?_⟩;obtain⟨z,e,hz⟩:=h2 a (by omega);refine⟨z,e,fun b hb=>(hz b hb).trans ⟨fun⟨k1,c,_,k3⟩=>⟨k1,c,k3⟩,fun⟨k1,c,k3⟩=>⟨k1,c,by omega,k3⟩⟩⟩
end Go.AM
namespace Go.AM
open Go.Proofs
def okP:Nat->Pat->Prop
 |0,_=>False
 |d+1,p=>p.L.n<=40/\(p.Kind=5->p.L.n=1/\0<=p.Min/\p.Min<=32/\(p.Max = -1 \/ (p.Min<=p.Max/\p.Max<=32)))/\∀i,i<p.L.n->okP d (p.L.g i)
theorem KZ (w:Sl Sound)(p:Pat)(a b:Nat):PR w p a b↔(if p.Kind=0 then a=b
 else if p.Kind=1 then a<w.n/\b=a+1/\(Wk (w.g a) p.Is != p.Not)=true
 else if p.Kind=2 then a=0/\b=0
 else if p.Kind=6 then a=w.n/\b=w.n
 else if p.Kind=3 then ZO w.n (fun i=>PR w (p.L.g i)) p.L.n a b
 else if p.Kind=4 then ∃i,i<p.L.n/\PR w (p.L.g i) a b
 else if p.Kind=5 then ∃k:Nat,p.Min<=k/\(p.Max = -1 \/ (k:Int)<=p.Max)/\Hv w.n (PR w (p.L.g 0)) k a b
 else False):=by
 cases p with
 |nil=>simp[PR,Pat.Kind]
 |mk kind is no mn mx m g=>exact Bi7
def R0 (w:Sl Sound)(p:Pat)(a b:Nat):Prop:=if p.Kind=0 then a=b
 else if p.Kind=1 then a<w.n/\b=a+1/\(Wk (w.g a) p.Is != p.Not)=true
 else if p.Kind=2 then a=0/\b=0
 else if p.Kind=6 then a=w.n/\b=w.n
 else False
theorem AD9 {n:Nat}{R:Nat->Nat->Prop}(hR:Fwd n R){mn k:Nat}(hk:mn<k)(h:∀a b,a<=n->b<=n->Hv n R k a b->∃j,mn<=j/\j<k/\Hv n R j a b){a:Nat}(ha:a<=n) :∀m b,mn<=m->Hv n R m a b->∃j,mn<=j/\j<k/\Hv n R j a b
 |0,b,hm,hp=>⟨0,hm,by omega,hp⟩
 |m+1,b,hm,hp=>by
  by_cases hmk:m+1<k
  ·exact⟨m+1,hm,hmk,hp⟩
  ·obtain⟨c,hc,h1,h2⟩:=hp;have hb:=(hR c b hc h2).2;obtain⟨j,g1,g2,g3⟩:=AD9 hR hk h ha m c (by omega) h1;by_cases e:j+1<k
   ·exact⟨j+1,by omega,e,c,hc,g3,h2⟩
   ·obtain rfl:k=j+1:=by omega
    exact h a b ha hb ⟨c,hc,g3,h2⟩
theorem Ns {N:Nat}(hN:1000<=N){w:Sl Sound}(hw:w.n<=32):∀(d:Nat) (p:Pat),okP d p->∀M,N+d<=M->∃t,BU M p w=some t/\t.n=w.n+1/\TabR w.n (PR w p) t.g
 |0,p,h,M,hM=>h.elim
 |d+1,p,⟨hc,h5,hch⟩,0,hM=>by omega
 |d+1,p,⟨hc,h5,hch⟩,M+1,hM=>by
  have ih:=fun i hi=>Ns hN hw d (p.L.g i) (hch i hi) M (by omega);show ∃t,Bt (BU M) M p w=some t/\_;unfold Bt;rw[C0 (by omega)];refine ifT (by omega) ?_;refine P6 (fun i x1 x2=>x2=(i:Int)/\x1.n=w.n+1/\(∀a,a<i->∃z:BitVec 64,x1.g a=U z/\∀b,b<64->(z.getLsbD b=true↔b<=w.n/\R0 w p a b))/\∀a,i<=a->x1.g a=0) (w.n+1) _ (by omega)
   ⟨rfl,by show ((w.n+1:Nat):Int).toNat=w.n+1;omega,fun a ha=>absurd ha (by omega),fun _ _=>rfl⟩ ?_
  rintro self i x1 x2 hi ⟨rfl,h1,h2,h3⟩ hs;have keep:(∀b,b<=w.n->¬R0 w p i b)->(∀a,a<i+1->∃z:BitVec 64,x1.g a=U z/\∀b,b<64->(z.getLsbD b=true↔b<=w.n/\R0 w p a b)):=by
   intro h a ha;by_cases e:a=i
   ·subst e;exact⟨0#64,h3 a (AZ0 _),fun b hb=>by simp;exact h b⟩
   ·exact h2 a (by omega)
  have put:∀(z:BitVec 64) (v:Int),v=U z->(∀b,b<64->(z.getLsbD b=true↔b<=w.n/\R0 w p i b)) ->
   (∀a,a<i+1->∃z:BitVec 64,(x1.upd (i:Int).toNat v).g a=U z/\∀b,b<64->(z.getLsbD b=true↔b<=w.n/\R0 w p a b))/\∀a,i+1<=a->(x1.upd (i:Int).toNat v).g a=0:=by
   intro z v hv hz;refine⟨fun a ha=>?_,fun a ha=>?_⟩
   ·by_cases e:a=i
    ·subst e;exact⟨z,by show (if a=(a:Int).toNat then v else _)=_;rw[if_pos (by omega),hv],hz⟩
    ·obtain⟨z',e1,e2⟩:=h2 a (by omega);exact⟨z',by show (if a=(i:Int).toNat then v else x1.g a)=_;rw[if_neg (by omega)];exact e1,e2⟩
   ·show (if a=(i:Int).toNat then v else x1.g a)=0;rw[if_neg (by omega)];exact h3 a (by omega)
  by_cases hl:i<=w.n
  ·refine ifT (by simp;omega) ?_;by_cases k0:p.Kind=0
   ·refine ifT (by simp[k0]) (ifT (by omega) ?_);obtain⟨p1,p2⟩:=put (1#64 <<< i) _ (TN i (by omega)) (fun b hb=>by rw[Gc (by omega) hb,decide_eq_true_eq];simp only[R0,k0,if_true];omega);exact hs (by omega) _ _ ⟨C0 (by omega),h1,p1,p2⟩
   refine ifF (by simp[k0]) ?_;by_cases k1:p.Kind=1
   ·refine ifT (by simp[k1]) ?_;have e0:∀b,R0 w p i b↔i<w.n/\b=i+1/\(Wk (w.g i) p.Is != p.Not)=true:=fun b=>by simp only[R0,k1];simp
    by_cases hlt:i<w.n
    ·refine ifT (by simp;omega) (ifT (by omega) ?_);refine B4 (x:=Wk (w.g i) p.Is) (by rw[AY3];rfl) ?_;by_cases hb:Wk (w.g i) p.Is=p.Not
     ·refine ifF (by simp[hb]) (hs (by omega) _ _ ⟨C0 (by omega),h1,keep fun b _=>?_,fun a ha=>h3 a (by omega)⟩);rw[e0];simp[hb]
     ·refine ifT (by simp[hb]) ?_;rw[C0 (by omega)];refine ifT (by omega) ?_;obtain⟨p1,p2⟩:=put (1#64 <<< (i+1)) _ (TN (i+1) (by omega)) (fun b hb'=>by
       rw[Gc (by omega) hb',decide_eq_true_eq,e0]
       have:(Wk (w.g i) p.Is != p.Not)=true:=by simp[hb]
       simp only[this,and_true];omega)
      exact hs (by omega) _ _ ⟨rfl,h1,p1,p2⟩
    ·refine ifF (by simp;omega) (hs (by omega) _ _ ⟨C0 (by omega),h1,keep fun b _=>?_,fun a ha=>h3 a (by omega)⟩);rw[e0];omega
   refine ifF (by simp[k1]) ?_;by_cases k2:p.Kind=2
   ·refine ifT (by simp[k2]) ?_;have e0:∀b,R0 w p i b↔i=0/\b=0:=fun b=>by simp only[R0,k2];simp
    by_cases hz:i=0
    ·refine ifT (by simp;omega) (ifT (by omega) ?_);obtain⟨p1,p2⟩:=put 1#64 _ AV5 (fun b hb'=>by rw[Wj,decide_eq_true_eq,e0];omega);exact hs (by omega) _ _ ⟨C0 (by omega),h1,p1,p2⟩
    ·refine ifF (by simp;omega) (hs (by omega) _ _ ⟨C0 (by omega),h1,keep fun b _=>?_,fun a ha=>h3 a (by omega)⟩);rw[e0];omega
   refine ifF (by simp[k2]) ?_;by_cases k6:p.Kind=6
   ·refine ifT (by simp[k6]) ?_;have e0:∀b,R0 w p i b↔i=w.n/\b=w.n:=fun b=>by simp only[R0,k6];simp
    by_cases hz:i=w.n
    ·refine ifT (by simp;omega) (ifT (by omega) ?_);obtain⟨p1,p2⟩:=put (1#64 <<< i) _ (TN i (by omega)) (fun b hb=>by rw[Gc (by omega) hb,decide_eq_true_eq,e0];omega);exact hs (by omega) _ _ ⟨C0 (by omega),h1,p1,p2⟩
    ·refine ifF (by simp;omega) (hs (by omega) _ _ ⟨C0 (by omega),h1,keep fun b _=>?_,fun a ha=>h3 a (by omega)⟩);rw[e0];omega
   ·refine ifF (by simp[k6]) (hs (by omega) _ _ ⟨C0 (by omega),h1,keep fun b _=>?_,fun a ha=>h3 a (by omega)⟩);simp[R0,k0,k1,k2,k6]
  ·refine ifF (by simp;omega) ?_;have t0:TabR w.n (R0 w p) x1.g:=fun a ha=>h2 a (by omega);by_cases k3:p.Kind=3
   ·refine ifT (by simp[k3]) ?_;obtain⟨s,es,hs1,hs2⟩:=Yd (N:=M) hw (by omega);refine B4 es ?_;refine P6 (fun i (x3:Sl Int) x4=>x4=(i:Int)/\x3.n=w.n+1/\TabR w.n (ZO w.n (fun i=>PR w (p.L.g i)) i) x3.g) p.L.n _ (by omega) ⟨rfl,hs1,hs2.congr fun a b _ _=>Bi7⟩ ?_;rintro self2 j x3 x4 hj ⟨rfl,g1,g2⟩ hs3;by_cases hl2:j<p.L.n
    ·obtain⟨t,et,ht1,ht2⟩:=ih j hl2;refine ifT (by simp;omega) (ifT (by omega) (B4 (by rw[AY3];exact et) ?_));obtain⟨f,ef,hf1,hf2⟩:=Qa (N:=M) hw (by omega) g1 ht1 g2 ht2;exact B4 ef (hs3 hl2 _ _ ⟨C0 (by omega),hf1,hf2⟩)
    ·obtain rfl:j=p.L.n:=by omega
     exact ifF (by simp) ⟨x3,rfl,g1,g2.congr fun a b _ _=>by rw[KZ];simp[k3]⟩
   refine ifF (by simp[k3]) ?_;by_cases k4:p.Kind=4
   ·refine ifT (by simp[k4]) ?_;refine P6 (fun i x3 x4=>x4=(i:Int)/\x3.n=w.n+1/\TabR w.n (fun a b=>∃q,q<i/\PR w (p.L.g q) a b) x3.g) p.L.n _ (by omega) ⟨rfl,h1,t0.congr fun a b _ _=>by simp[R0,k4]⟩ ?_;rintro self2 j x3 x4 hj ⟨rfl,g1,g2⟩ hs3;by_cases hl2:j<p.L.n
    ·obtain⟨t,et,ht1,ht2⟩:=ih j hl2;refine ifT (by simp;omega) (ifT (by omega) (B4 (by rw[AY3];exact et) ?_));obtain⟨f,ef,hf1,hf2⟩:=Ye (N:=M) hw (by omega) g1 ht1 g2 ht2;refine B4 ef (hs3 hl2 _ _ ⟨C0 (by omega),hf1,hf2.congr fun a b _ _=>⟨?_,?_⟩⟩)
     ·rintro (⟨q,h1,h2⟩ | h)
      ·exact⟨q,by omega,h2⟩
      ·exact⟨j,by omega,h⟩
     ·rintro⟨q,h1,h2⟩;by_cases e:q=j
      ·subst e;exact .inr h2
      ·exact .inl ⟨q,by omega,h2⟩
    ·obtain rfl:j=p.L.n:=by omega
     exact ifF (by simp) ⟨x3,rfl,g1,g2.congr fun a b _ _=>by rw[KZ];simp[k4]⟩
   refine ifF (by simp[k4]) ?_;by_cases k5:p.Kind=5
   ·obtain⟨hn1,hm0,hm1,hmx⟩:=h5 k5;refine ifT (by simp[k5]) (ifT (by omega) ?_);obtain⟨one,eo,ho1,ho2⟩:=ih 0 (by omega);obtain⟨s,es,hs1,hs2⟩:=Yd (N:=M) hw (by omega);refine B4 eo (B4 es ?_);have hF:=TQ w (p.L.g 0);have fin:∀(t:Sl Int) (k:Nat),t.n=w.n+1->TabR w.n (fun a b=>∃j:Nat,p.Min<=j/\j<k/\Hv w.n (PR w (p.L.g 0)) j a b) t.g ->
     (∀a b,a<=w.n->b<=w.n->((∃j:Nat,p.Min<=j/\j<k/\Hv w.n (PR w (p.L.g 0)) j a b) ↔ ∃j:Nat,p.Min<=j/\(p.Max = -1 \/ (j:Int)<=p.Max)/\Hv w.n (PR w (p.L.g 0)) j a b)) ->
     ∃r,some t=some r/\r.n=w.n+1/\TabR w.n (PR w p) r.g:=by
     intro t k e1 e2 e3;exact⟨t,rfl,e1,e2.congr fun a b ha hb=>(e3 a b ha hb).trans (by rw[KZ];simp[k5])⟩
    refine Al2 (fun k (x8 x9:Sl Int) x10=>x10=(k:Int)/\x8.n=w.n+1/\x9.n=w.n+1/\TabR w.n (fun a b=>∃j:Nat,p.Min<=j/\j<k/\Hv w.n (PR w (p.L.g 0)) j a b) x8.g/\TabR w.n (Hv w.n (PR w (p.L.g 0)) k) x9.g/\(p.Max = -1 \/ (k:Int)<=p.Max)) 33 _ (by omega)
     ⟨rfl,h1,hs1,t0.congr fun a b _ _=>by simp[R0,k5],hs2.congr fun a b _ _=>Bi7,by omega⟩ ?_
    rintro self2 k x8 x9 x10 hk ⟨rfl,g1,g2,g3,g4,g5⟩ hs3;obtain⟨f,ef,hf1,hf2⟩:=Qa (N:=M) hw (by omega) g2 ho1 g4 ho2;have next:TabR w.n (Hv w.n (PR w (p.L.g 0)) (k+1)) f.g:=hf2
    by_cases hmin:p.Min<=(k:Int)
    ·refine ifT (by simpa using hmin) ?_;obtain⟨j,ej,hj1,hj2⟩:=Ye (N:=M) hw (by omega) g1 g2 g3 g4;have hj3:TabR w.n (fun a b=>∃j:Nat,p.Min<=j/\j<k+1/\Hv w.n (PR w (p.L.g 0)) j a b) j.g:=hj2.congr fun a b _ _=>by
      constructor
      ·rintro (⟨q,h1,h2,h3⟩ | h)
       ·exact⟨q,h1,by omega,h3⟩
       ·exact⟨k,hmin,by omega,h⟩
      ·rintro⟨q,h1,h2,h3⟩;by_cases e:q=k
       ·subst e;exact .inr h3
       ·exact .inl ⟨q,h1,by omega,h3⟩
     refine B4 ej (ltX ?_);by_cases hmaxk:(k:Int)=p.Max
     ·refine ifT (by simp[hmaxk]) (ifT rfl (fin j (k+1) hj1 hj3 fun a b _ _=>⟨?_,?_⟩))
      ·rintro⟨q,h1,h2,h3⟩;exact⟨q,h1,.inr (by omega),h3⟩
      ·rintro⟨q,h1,h2,h3⟩;exact⟨q,h1,by omega,h3⟩
     ·refine ifF (by simp[hmaxk]) ?_;by_cases hgt:p.Min<(k:Int)
      ·refine ifT (by simpa using hgt) ?_;obtain⟨b,eb,hb⟩:=Al3 (N:=M) (x:=x8) (y:=j) hw (by omega) g1 hj1;refine B4 eb ?_;by_cases hbt:b=true
       ·refine ifT hbt (fin j (k+1) hj1 hj3 fun a b ha hb'=>⟨?_,?_⟩)
        ·rintro⟨q,h1,h2,h3⟩;exact⟨q,h1,by omega,h3⟩
        ·rintro⟨q,h1,h2,h3⟩;have heq:=hb.1 hbt;obtain⟨q',k1,k2,k3⟩:=AD9 hF (mn:=p.Min.toNat) (k:=k) (by omega) (fun a b ha hb' hp=>by have e1:=hj3.bit ha (b:=b) (by omega);have e2:=g3.bit ha (b:=b) (by omega);rw[<- heq a ha]at e1;obtain⟨_,q,k1,k2,k3⟩:=e2.1 (e1.2 ⟨hb',k,hmin,by omega,hp⟩);exact⟨q,by omega,k2,k3⟩) ha q b (by omega) h3
         exact⟨q',by omega,by omega,k3⟩
       ·refine ifF hbt (B4 ef ?_);have hk33:k<33:=by
         refine Nat.lt_of_le_of_ne hk fun e=>hbt (hb.2 fun a ha=>?_);subst e;refine g3.uniq (hj3.congr fun a b ha hb'=>⟨?_,?_⟩) ha
         ·rintro⟨q,h1,h2,h3⟩;by_cases e:q=33
          ·subst e;exact⟨32,by omega,by omega,TO hF ha hw h3⟩
          ·exact⟨q,h1,by omega,h3⟩
         ·rintro⟨q,h1,h2,h3⟩;exact⟨q,h1,by omega,h3⟩
        exact hs3 hk33 _ _ _ ⟨C0 (by omega),hj1,hf1,hj3,next,by omega⟩
      ·refine ifF (by simpa using hgt) (ifF (by simp) (B4 ef (hs3 (by omega) _ _ _ ⟨C0 (by omega),hj1,hf1,hj3,next,by omega⟩)))
    ·refine ifF (by simpa using hmin) (B4 ef (hs3 (by omega) _ _ _ ⟨C0 (by omega),g1,hf1,g3.congr fun a b _ _=>⟨?_,?_⟩,next,by omega⟩))
     ·rintro⟨q,h1,h2,h3⟩;omega
     ·rintro⟨q,h1,h2,h3⟩;omega
   ·refine ifF (by simp[k5]) ⟨x1,rfl,h1,t0.congr fun a b _ _=>?_⟩;rw[KZ];simp[R0,k3,k4,k5]
end Go.AM
namespace Go.AM
open IntKind (wrap)
open Go.Proofs
abbrev sOf (x y:BitVec 32):Sound:=⟨(x.toNat:Int),(y.toNat:Int)⟩
def okS (s:Sound):Prop:=∃p m:BitVec 32,s=sOf p m
theorem eq0 (x:BitVec 32):((x.toNat:Int)==0)=decide (x=0#32):=by
 rw[Bb3];simp only[beq_iff_eq,decide_eq_true_eq];constructor
 ·intro h;apply Bc1;show x.toNat=0;omega
 ·rintro rfl;rfl
theorem z32 (x:BitVec 32):x=0#32 ↔ ∀i,i<32->x.getLsbD i=false:=by
 constructor
 ·rintro rfl i hi;simp
 ·intro h;apply Bd6;intro i hi;rw[h i hi];simp
theorem IZ {x y:BitVec 32}(h:∀b,b<32->x.getLsbD b=y.getLsbD b):x=y:=Bd6 h
theorem Yf (x:BitVec 32)(i:Nat):(E4 .and .u32 (shI .shr .u32 (x.toNat:Int) (i:Int)) 1==1)=x.getLsbD i:=by
 rw[AD0,show (1:Int)=((1#32).toNat:Int) from rfl,EK];have h:(x >>> i &&& 1#32)=(BitVec.ofBool (x.getLsbD i)).setWidth 32:=by
  apply Bd6;intro j hj;simp only[AZ9,Bm7,Bn6,Bo7];by_cases h0:j=0
  ·subst h0;simp
  ·have:(1#32).getLsbD j=false:=by rw[Bm8];simp[h0]
   simp[this,h0]
 rw[h];cases x.getLsbD i<;>rfl
theorem AL8 (i:Nat):shI .shl .u32 1 (i:Int)=((1#32 <<< i).toNat:Int):=by rw[show (1:Int)=((1#32).toNat:Int) from rfl,AS4]
theorem Al4 {i j:Nat}(hj:j<32):(1#32 <<< i).getLsbD j=decide (j=i):=by
 rw[Bn2,Bm8];by_cases h:j=i
 ·subst h;simp[hj]
 ·by_cases h2:j<i
  ·simp[h,h2]
  ·have:j-i≠0:=by omega
   simp[h,this]
theorem Gr (x:BitVec 32):x.toNat<16777216 ↔ ∀i,24<=i->i<32->x.getLsbD i=false:=by
 constructor
 ·intro h i hi hi2;exact Bo1 (Ba6 h (Bh6 (n:=2) (i:=24) (by omega) hi))
 ·intro h;refine Nat.lt_pow_two_of_testBit (n:=24) _ fun i hi=>?_;by_cases h2:i<32
  ·exact h i hi h2
  ·exact Bo1 (Ba6 x.isLt (Bh6 (by omega) (by omega)))
def vB (p m:BitVec 32):Bool:=decide (∀i:Fin 32,¬(p.getLsbD i=true/\m.getLsbD i=true)/\(24<=i.1->p.getLsbD i=false/\m.getLsbD i=false))
theorem Fx (p m:BitVec 32):vB p m=true ↔ ∀i,i<32->¬(p.getLsbD i=true/\m.getLsbD i=true)/\(24<=i->p.getLsbD i=false/\m.getLsbD i=false):=by rw[vB,decide_eq_true_eq];exact⟨fun h i hi=>h ⟨i,hi⟩,fun h i=>h i.1 i.2⟩
theorem Yg (p m:BitVec 32):p &&& m=0#32 ↔ ∀i,i<32->¬(p.getLsbD i=true/\m.getLsbD i=true):=by rw[z32];refine forall_congr' fun i=>forall_congr' fun hi=>?_;rw[AZ9,Bo8];cases p.getLsbD i<;>cases m.getLsbD i<;>simp
theorem AV7 (p m:BitVec 32):vB p m=true↔p &&& m=0#32/\(p ||| m).toNat<16777216:=by
 rw[Fx,Yg,Gr];constructor
 ·intro h;refine⟨fun i hi=>(h i hi).1,fun i h1 h2=>?_⟩
  have:=(h i h2).2 h1
  rw[AZ8,this.1,this.2];rfl
 ·rintro⟨h1,h2⟩ i hi;refine⟨h1 i hi,fun h24=>?_⟩
  have:=h2 i h24 hi
  rw[AZ8,Bh7]at this;exact this
theorem AV8 (p m:BitVec 32):vB p m=true↔p &&& m=0#32/\p.toNat<16777216/\m.toNat<16777216:=by rw[Fx,Yg,Gr,Gr];exact⟨fun h=>⟨fun i hi=>(h i hi).1,fun i h1 h2=>((h i h2).2 h1).1,fun i h1 h2=>((h i h2).2 h1).2⟩,fun⟨h1,h2,h3⟩ i hi=>⟨h1 i hi,fun h24=>⟨h2 i h24 hi,h3 i h24 hi⟩⟩⟩
theorem BF {N:Nat}(p m:BitVec 32):G1 N (sOf p m)=some (vB p m):=by unfold G1;rw[EK,Kf,eq0];congr 1;rw[Bb3,AV7];simp only[AY9,decide_eq_true_eq];exact⟨fun h=>⟨h.1,by have:=h.2;omega⟩,fun h=>⟨h.1,by have:=h.2;omega⟩⟩
theorem shr24 (x:BitVec 32):(shI .shr .u32 (x.toNat:Int) 24==0)=decide (x.toNat<16777216):=by
 rw[show (24:Int)=((24:Nat):Int) from rfl,AD0,Bb3];simp only[beq_iff_eq,decide_eq_true_eq,Bj8,Bj6]
 have:=Bp8 (a:=x.toNat) (b:=2 ^ 24)
 omega
theorem Uj {N:Nat}(p m:BitVec 32):Bb N (sOf p m)=some (vB p m):=by unfold Bb;rw[EK,Kf,eq0,shr24];congr 1;rw[Bb3,AV7];simp only[AY9,decide_eq_true_eq]
theorem Uk {N:Nat}(p m:BitVec 32):O0 N (sOf p m)=some (vB p m):=Uj (N:=N) p m
theorem Qb {N:Nat}(p m:BitVec 32):Q7 N (sOf p m)=some (vB p m):=by unfold Q7;rw[EK,eq0];congr 1;rw[Bb3,AV8];simp only[AY9,decide_eq_true_eq];exact⟨fun h=>⟨h.1.1,by have:=h.1.2;omega,by have:=h.2;omega⟩,fun h=>⟨⟨h.1,by have:=h.2.1;omega⟩,by have:=h.2.2;omega⟩⟩
theorem Z6 {N:Nat}(p m:BitVec 32)(hN:1000<=N):H4 N (sOf p m)=some (vB p m):=by
 suffices h:∃r,H4 N (sOf p m)=some r/\r=vB p m by obtain⟨r,h,rfl⟩:=h;exact h
 unfold H4;refine BD (fun i x1=>x1=(i:Int)/\∀j,j<i->¬(p.getLsbD j=true/\m.getLsbD j=true)/\(24<=j->p.getLsbD j=false/\m.getLsbD j=false)) 32 _ (by omega) ⟨rfl,fun j hj=>absurd hj (by omega)⟩ ?_;rintro self i x1 hi ⟨rfl,h1⟩ hs;by_cases hl:i<32
 ·refine ifT (by simp;omega) (ifT (by omega) ?_);simp only[Yf];have e24:decide ((24:Int)<=(i:Int))=decide (24<=i):=decide_eq_decide.2 (by omega);rw[e24];by_cases hb:¬(p.getLsbD i=true/\m.getLsbD i=true)/\(24<=i->p.getLsbD i=false/\m.getLsbD i=false)
  ·refine ifF ?_ (hs hl _ ⟨C0 (by omega),fun j hj=>?_⟩)
   ·intro h;obtain⟨h2,h3⟩:=hb;revert h h2 h3;by_cases h24:24<=i
    ·intro h h2 h3;obtain⟨a,b⟩:=h3 h24;simp[a,b]at h
    ·cases p.getLsbD i<;>cases m.getLsbD i<;>simp[h24]
   ·by_cases e:j=i
    ·subst e;exact hb
    ·exact h1 j (by omega)
  ·refine ifT ?_ ⟨false,rfl,?_⟩
   ·revert hb;by_cases h24:24<=i
    ·cases p.getLsbD i<;>cases m.getLsbD i<;>simp[h24]
    ·cases p.getLsbD i<;>cases m.getLsbD i<;>simp[h24]
   ·symm;rw[<- Bl6,Fx];exact fun h=>hb (h i hl)
 ·refine ifF (by simp;omega) ⟨true,rfl,?_⟩;symm;rw[Fx];exact fun j hj=>h1 j (by omega)
def gB (p m:BitVec 32)(f:Nat):Int:=if p.getLsbD f then 1 else if m.getLsbD f then -1 else 0
theorem Yh {N:Nat}(p m:BitVec 32)(hv:vB p m=true)(f:Nat)(hf:f<24)(hN:1000<=N):W0 N (sOf p m) (f:Int)=some (gB p m f):=by
 unfold W0;rw[Z6 p m hN];simp only[AY7,lt,CL,Yf,gB,hv];rw[if_pos (by omega:(0:Int)<=(f:Int)),if_pos (by omega:(0:Int)<=(f:Int))];have e:(decide ((0:Int)<=(f:Int))&&decide ((f:Int)<24))=true:=by simp;omega
 rw[e];cases h1:p.getLsbD f<;>cases h2:m.getLsbD f<;>simp
theorem gB_eq {p m a b:BitVec 32}(hv:vB p m=true)(hv' : vB a b=true)(f:Nat)(hf:f<32):(gB a b f≠0->gB p m f=gB a b f)↔((a.getLsbD f=true->p.getLsbD f=true)/\(b.getLsbD f=true->m.getLsbD f=true)):=by have h1:=((Fx p m).1 hv f hf).1;have h2:=((Fx a b).1 hv' f hf).1;revert h1 h2;simp only[gB];cases a.getLsbD f<;>cases b.getLsbD f<;>cases p.getLsbD f<;>cases m.getLsbD f<;>simp
def Ad1 (p m a b:BitVec 32):Bool:=vB p m&&(vB a b&&decide (∀i:Fin 32,(a.getLsbD i=true->p.getLsbD i=true)/\(b.getLsbD i=true->m.getLsbD i=true)))
theorem AL9 (a p:BitVec 32):a &&& ~~~ p=0#32 ↔ ∀i,i<32->(a.getLsbD i=true->p.getLsbD i=true):=by rw[z32];refine forall_congr' fun i=>forall_congr' fun hi=>?_;rw[AZ9,Bd2];cases a.getLsbD i<;>cases p.getLsbD i<;>simp[hi]
theorem AM0 {N:Nat}(p m a b:BitVec 32):J1 N (sOf p m) (sOf a b)=some (Ad1 p m a b):=by
 unfold J1;rw[BF];simp only[AY7,lt,BF,Ep,eq0,Ad1];cases h1:vB p m
 ·simp
 cases h2:vB a b
 ·simp
 simp only[if_true,Bk1];have key:(decide (∀i:Fin 32,(a.getLsbD i=true->p.getLsbD i=true)/\(b.getLsbD i=true->m.getLsbD i=true)))=(decide (a &&& ~~~ p=0#32)&&decide (b &&& ~~~ m=0#32)):=by rw[Bb3];simp only[AY9,decide_eq_true_eq,AL9];exact⟨fun h=>⟨fun i hi=>(h ⟨i,hi⟩).1,fun i hi=>(h ⟨i,hi⟩).2⟩,fun h i=>⟨h.1 i.1 i.2,h.2 i.1 i.2⟩⟩
 rw[key];by_cases h:a &&& ~~~ p=0#32
 ·simp[h]
 ·simp[h]
theorem AM1 {N:Nat}(p m a b:BitVec 32)(hN:1000<=N):O9 N (sOf p m) (sOf a b)=some (Ad1 p m a b):=by
 suffices h:∃r,O9 N (sOf p m) (sOf a b)=some r/\r=Ad1 p m a b by obtain⟨r,h,rfl⟩:=h;exact h
 unfold O9;rw[Z6 p m hN];refine B4 rfl (ltX ?_);cases h1:vB p m
 ·exact ifT (by simp) (ifT rfl ⟨false,rfl,by simp[Ad1,h1]⟩)
 refine ifF (by simp) ?_;rw[Z6 a b hN];refine B4 rfl ?_;cases h2:vB a b
 ·exact ifT (by simp) ⟨false,rfl,by simp[Ad1,h2]⟩
 refine ifF (by simp) ?_;refine BD (fun i x3=>x3=(i:Int)/\∀j,j<i->((a.getLsbD j=true->p.getLsbD j=true)/\(b.getLsbD j=true->m.getLsbD j=true))) 24 _ (by omega) ⟨rfl,fun j hj=>absurd hj (by omega)⟩ ?_;rintro self i x3 hi ⟨rfl,h3⟩ hs;by_cases hl:i<24
 ·refine ifT (by simp;omega) (B4 (Yh a b h2 i hl hN) (ltX ?_));have key:=gB_eq h1 h2 i (by omega);have fin:(¬(gB a b i≠0->gB p m i=gB a b i))->false=Ad1 p m a b:=fun hn=>by symm;simp only[Ad1,h1,h2,Bk1];rw[<- Bl6,decide_eq_true_eq];intro h;exact hn (key.2 (h ⟨i,by omega⟩))
  have go:(gB a b i≠0->gB p m i=gB a b i)->∃r,self (wrap .i64 ((i:Int)+1))=some r/\r=Ad1 p m a b:=fun hp=>hs hl _ ⟨C0 (by omega),fun j hj=>by
   by_cases e:j=i
   ·subst e;exact key.1 hp
   ·exact h3 j (by omega)⟩
  by_cases hz:gB a b i=0
  ·exact ifF (by simp[hz]) (ifF (by simp) (go fun h=>absurd hz h))
  ·refine ifT (by simp[hz]) (B4 (Yh p m h1 i hl hN) ?_);by_cases he:gB p m i=gB a b i
   ·exact ifF (by simp[he]) (go fun _=>he)
   ·exact ifT (by simp[he]) ⟨false,rfl,fin fun h=>he (h hz)⟩
 ·refine ifF (by simp;omega) ⟨true,rfl,?_⟩;symm;simp only[Ad1,h1,h2,Bk1,decide_eq_true_eq];intro j;by_cases hj:j.1<24
  ·exact h3 j.1 (by omega)
  ·have:=((Fx a b).1 h2 j.1 j.2).2 (by omega)
   exact⟨fun h=>by rw[this.1]at h;exact absurd h (by simp),fun h=>by rw[this.2]at h;exact absurd h (by simp)⟩
def RZ (x y s:BitVec 32):BitVec 32:=(x &&& ~~~ s) ||| (y &&& s)
theorem AE0 {N:Nat}(p m a b s:BitVec 32):BQ N (sOf p m) (sOf a b) (s.toNat:Int)=some (sOf (RZ p a s) (RZ m b s)):=by unfold BQ;simp only[Ep,EK,Kf,RZ]
def AV9 (x:BitVec 32)(f:Nat)(on:Bool):BitVec 32:=if on then (x &&& ~~~ (1#32 <<< f)) ||| (1#32 <<< f)else x &&& ~~~ (1#32 <<< f)
theorem GI (x:BitVec 32)(f:Nat)(on:Bool){j:Nat}(hj:j<32):(AV9 x f on).getLsbD j=if j=f then on else x.getLsbD j:=by
 unfold AV9;cases on
 ·rw[if_neg (by simp),AZ9,Bd2,Al4 hj];by_cases e:j=f<;>simp[e,hj]
 ·rw[if_pos rfl,AZ8,AZ9,Bd2,Al4 hj];by_cases e:j=f<;>simp[e,hj]
theorem Al5 {N:Nat}(p m:BitVec 32)(f:Nat)(v:Int):Cm N (sOf p m) (f:Int) v=some (sOf (AV9 p f (v==1)) (AV9 m f (v == -1))):=by unfold Cm;rw[if_pos (by omega)];simp only[AL8,Ep,Kf];cases h1:v==1<;>cases h2:v == -1<;>simp[AV9]
def Ay0 (p m c a b:BitVec 32):Sound×Int:=if vB p m=true/\vB a b then (if c.toNat<16777216/\c &&& (a ||| b)=0#32 then (sOf (RZ p a (c ||| (a ||| b))) (RZ m b (c ||| (a ||| b))),0)else (⟨0,0⟩,2))else (⟨0,0⟩,14)
theorem Aa6 {N:Nat}(p m c a b:BitVec 32):N8 N (sOf p m) (c.toNat:Int) (sOf a b)=some (Ay0 p m c a b):=by
 unfold N8 Ay0;rw[BF];simp only[AY7,lt,BF,Dl,Kf,EK,AE0];cases h1:vB p m
 ·simp
 cases h2:vB a b
 ·simp
 by_cases h3:c.toNat<16777216
 ·have e:((c &&& (a ||| b)).toNat:Int) != 0 ↔ ¬(c &&& (a ||| b)=0#32):=by
   have:=eq0 (c &&& (a ||| b))
   simp only[bne_iff_ne,ne_eq];rw[<- decide_eq_true_eq (p:=c &&& (a ||| b)=0#32),<- this];simp
  by_cases h4:c &&& (a ||| b)=0#32
  ·simp[h3,h4];omega
  ·have e':=e.2 h4;rw[if_neg (by simp<;>omega),e'];simp[h3,h4]
 ·simp[h3];omega
theorem Aa7 {N:Nat}(p m c a b:BitVec 32)(hN:1000<=N):Q3 N (sOf p m) (c.toNat:Int) (sOf a b)=some (Ay0 p m c a b):=by
 suffices h:∃r,Q3 N (sOf p m) (c.toNat:Int) (sOf a b)=some r/\r=Ay0 p m c a b by obtain⟨r,h,rfl⟩:=h;exact h
 unfold Q3;rw[Z6 p m hN];refine B4 rfl (ltX ?_);cases h1:vB p m
 ·exact ifT (by simp) (ifT rfl ⟨_,rfl,by simp[Ay0,h1]⟩)
 refine ifF (by simp) ?_;rw[Z6 a b hN];refine B4 rfl ?_;cases h2:vB a b
 ·exact ifT (by simp) ⟨_,rfl,by simp[Ay0,h2]⟩
 refine ifF (by simp) ?_;rw[Kf,EK];by_cases hc:c.toNat<16777216/\c &&& (a ||| b)=0#32
 ·obtain⟨hc1,hc2⟩:=hc;refine ifF (by rw[hc2];simp;omega) ?_;have hd:∀j,j<32->¬(c.getLsbD j=true/\(a.getLsbD j=true \/ b.getLsbD j=true)):=fun j hj=>by
   have:=(z32 _).1 hc2 j hj
   rw[AZ9,AZ8]at this;revert this;cases c.getLsbD j<;>cases a.getLsbD j<;>cases b.getLsbD j<;>simp
  refine Al2 (fun i x2 x3 x4=>x4=(i:Int)/\∃P M:BitVec 32,x2=(P.toNat:Int)/\x3=(M.toNat:Int)/\∀j,j<32 ->
   P.getLsbD j=(if j<i/\(c.getLsbD j=true \/ a.getLsbD j=true \/ b.getLsbD j=true)then a.getLsbD j else p.getLsbD j)/\M.getLsbD j=(if j<i/\(c.getLsbD j=true \/ a.getLsbD j=true \/ b.getLsbD j=true)then b.getLsbD j else m.getLsbD j)) 24 _ (by omega)
   ⟨rfl,p,m,rfl,rfl,fun j hj=>by simp⟩ ?_
  rintro self i x2 x3 x4 hi ⟨rfl,P,M,rfl,rfl,hPM⟩ hs;by_cases hl:i<24
  ·refine ifT (by simp;omega) (ifT (by omega) ?_);rw[Yf];have hG:=Yh (N:=N) a b h2 i hl hN;have hab:=((Fx a b).1 h2 i (by omega)).1;have hdi:=hd i (by omega);by_cases hci:c.getLsbD i=true
   ·refine ifT hci (B4 (Al5 P M i 0) (B4 hG ?_));have ea:a.getLsbD i=false:=by cases e:a.getLsbD i<;>simp_all
    have eb:b.getLsbD i=false:=by cases e:b.getLsbD i<;>simp_all
    refine ifF (by simp[gB,ea,eb]) (hs hl _ _ _ ⟨C0 (by omega),_,_,rfl,rfl,fun j hj=>?_⟩);rw[GI _ _ _ hj,GI _ _ _ hj];by_cases e:j=i
    ·subst e;simp[hci,ea,eb]
    ·have:=hPM j hj
     have e2:j<i+1↔j<i:=by omega
     simp only[e,if_false,e2];exact this
   ·refine ifF hci (B4 hG ?_);by_cases hz:gB a b i=0
    ·have ea:a.getLsbD i=false:=by revert hz;simp only[gB];cases a.getLsbD i<;>simp
     have eb:b.getLsbD i=false:=by revert hz;simp only[gB,ea];cases b.getLsbD i<;>simp
     refine ifF (by simp[hz]) (hs hl _ _ _ ⟨C0 (by omega),P,M,rfl,rfl,fun j hj=>?_⟩);by_cases e:j=i
     ·subst e;have:=hPM j hj;simpa[hci,ea,eb]using this
     ·have:=hPM j hj
      have e2:j<i+1↔j<i:=by omega
      simp only[e2];exact this
    ·refine ifT (by simp[hz]) (B4 hG (B4 (Al5 P M i _) (hs hl _ _ _ ⟨C0 (by omega),_,_,rfl,rfl,fun j hj=>?_⟩)));rw[GI _ _ _ hj,GI _ _ _ hj];by_cases e:j=i
     ·subst e;revert hz hab;simp only[gB];cases a.getLsbD j<;>cases b.getLsbD j<;>simp
     ·have:=hPM j hj
      have e2:j<i+1↔j<i:=by omega
      simp only[e,if_false,e2];exact this
  ·obtain rfl:i=24:=by omega
   refine ifF (by simp) ⟨_,rfl,?_⟩;simp only[Ay0,h1,h2,hc1,hc2,and_self,if_true];have hp:=(Fx p m).1 h1;have hA:=(Fx a b).1 h2;have hcs:=(Gr c).1 hc1;have eP:P=RZ p a (c ||| (a ||| b)):=IZ fun j hj=>by
    rw[(hPM j hj).1,RZ,AZ8,AZ9,AZ9,Bd2,AZ8,AZ8];by_cases h24:j<24
    ·cases c.getLsbD j<;>cases a.getLsbD j<;>cases b.getLsbD j<;>cases p.getLsbD j<;>simp[h24,hj]
    ·have g1:=(hp j hj).2 (by omega);have g2:=(hA j hj).2 (by omega);simp[h24,g1.1,g2.1]
   have eM:M=RZ m b (c ||| (a ||| b)):=IZ fun j hj=>by
    rw[(hPM j hj).2,RZ,AZ8,AZ9,AZ9,Bd2,AZ8,AZ8];by_cases h24:j<24
    ·cases c.getLsbD j<;>cases a.getLsbD j<;>cases b.getLsbD j<;>cases m.getLsbD j<;>simp[h24,hj]
    ·have g1:=(hp j hj).2 (by omega);have g2:=(hA j hj).2 (by omega);simp[h24,g1.2,g2.2]
   rw[eP,eM]
 ·refine ifT ?_ ⟨_,rfl,?_⟩
  ·rw[Ba5,decide_eq_true_eq,bne_iff_ne];by_cases h:c.toNat<16777216
   ·right
    intro h0;exact hc ⟨h,Bc1 (by show _=0;omega)⟩
   ·left;omega
  ·simp only[Ay0,h1,h2,and_self,if_true];rw[if_neg hc]
def Ay1 (p m a b s:BitVec 32):Sound×Int:=if vB p m=true/\vB a b then (if s.toNat<16777216 then (sOf (RZ p a s) (RZ m b s),0)else (⟨0,0⟩,2))else (⟨0,0⟩,14)
theorem Ay2 {N:Nat}(p m a b s:BitVec 32):S7 N (sOf p m) (sOf a b) (s.toNat:Int)=some (Ay1 p m a b s):=by
 unfold S7 Ay1;rw[BF];simp only[AY7,lt,BF,AE0];cases h1:vB p m
 ·simp
 cases h2:vB a b
 ·simp
 by_cases h3:s.toNat<16777216
 ·simp[h3];omega
 ·simp[h3];omega
theorem Ay3 {N:Nat}(p m a b s:BitVec 32)(hN:1000<=N):Y9 N (sOf p m) (sOf a b) (s.toNat:Int)=some (Ay1 p m a b s):=by
 suffices h:∃r,Y9 N (sOf p m) (sOf a b) (s.toNat:Int)=some r/\r=Ay1 p m a b s by obtain⟨r,h,rfl⟩:=h;exact h
 unfold Y9;rw[Z6 p m hN];refine B4 rfl (ltX ?_);cases h1:vB p m
 ·exact ifT (by simp) (ifT rfl ⟨_,rfl,by simp[Ay1,h1]⟩)
 refine ifF (by simp) ?_;rw[Z6 a b hN];refine B4 rfl ?_;cases h2:vB a b
 ·exact ifT (by simp) ⟨_,rfl,by simp[Ay1,h2]⟩
 refine ifF (by simp) ?_;by_cases hc:s.toNat<16777216
 ·refine ifF (by simp;omega) ?_;refine Al2 (fun i x2 x3 x4=>x4=(i:Int)/\∃P M:BitVec 32,x2=(P.toNat:Int)/\x3=(M.toNat:Int)/\∀j,j<32 ->
   P.getLsbD j=(if j<i/\s.getLsbD j then a.getLsbD j else p.getLsbD j)/\M.getLsbD j=(if j<i/\s.getLsbD j then b.getLsbD j else m.getLsbD j)) 24 _ (by omega)
   ⟨rfl,p,m,rfl,rfl,fun j hj=>by simp⟩ ?_
  rintro self i x2 x3 x4 hi ⟨rfl,P,M,rfl,rfl,hPM⟩ hs;by_cases hl:i<24
  ·refine ifT (by simp;omega) (ifT (by omega) ?_);rw[Yf];have hab:=((Fx a b).1 h2 i (by omega)).1;by_cases hci:s.getLsbD i=true
   ·refine ifT hci (B4 (Yh (N:=N) a b h2 i hl hN) (B4 (Al5 P M i _) (hs hl _ _ _ ⟨C0 (by omega),_,_,rfl,rfl,fun j hj=>?_⟩)));rw[GI _ _ _ hj,GI _ _ _ hj];by_cases e:j=i
    ·subst e;revert hab;simp only[gB,hci];cases a.getLsbD j<;>cases b.getLsbD j<;>simp
    ·have:=hPM j hj
     have e2:j<i+1↔j<i:=by omega
     simp only[e,if_false,e2];exact this
   ·refine ifF hci (hs hl _ _ _ ⟨C0 (by omega),P,M,rfl,rfl,fun j hj=>?_⟩);by_cases e:j=i
    ·subst e;have:=hPM j hj;simpa[hci]using this
    ·have:=hPM j hj
     have e2:j<i+1↔j<i:=by omega
     simp only[e2];exact this
  ·obtain rfl:i=24:=by omega
   refine ifF (by simp) ⟨_,rfl,?_⟩;simp only[Ay1,h1,h2,hc,and_self,if_true];have hcs:=(Gr s).1 hc;have eP:P=RZ p a s:=IZ fun j hj=>by
    rw[(hPM j hj).1,RZ,AZ8,AZ9,AZ9,Bd2];by_cases h24:j<24
    ·cases s.getLsbD j<;>cases a.getLsbD j<;>cases p.getLsbD j<;>simp[h24,hj]
    ·rw[if_neg (by simp[h24]),hcs j (by omega) hj];simp[hj]
   have eM:M=RZ m b s:=IZ fun j hj=>by
    rw[(hPM j hj).2,RZ,AZ8,AZ9,AZ9,Bd2];by_cases h24:j<24
    ·cases s.getLsbD j<;>cases b.getLsbD j<;>cases m.getLsbD j<;>simp[h24,hj]
    ·rw[if_neg (by simp[h24]),hcs j (by omega) hj];simp[hj]
   rw[eP,eM]
 ·exact ifT (by simp;omega) ⟨_,rfl,by simp[Ay1,h1,h2,hc]⟩
end Go.AM
namespace Go.AM
open Go.Proofs
def vS (s:Sound):Prop:=∃p m:BitVec 32,s=sOf p m/\vB p m=true
def GO (p:Pat):Prop:=
 (0<=p.Kind/\p.Kind<=6)/\(p.Kind≠1->(p.Is.Plus=0/\p.Is.Minus=0)/\p.Not=false)/\(p.Kind≠3->p.Kind≠4->p.Kind≠5->p.L.n=0)/\(p.Kind≠5->p.Min=0/\p.Max=0) /\
 (p.Kind=5->p.L.n=1/\0<=p.Min/\p.Min<=32/\(p.Max = -1 \/ (p.Min<=p.Max/\p.Max<=32)))/\vS p.Is
theorem WH {s:Sound}{p m:BitVec 32}(h:s=sOf p m):vS s↔vB p m=true:=by
 constructor
 ·rintro⟨q,r,e,hv⟩;rw[h]at e;have e1:(p.toNat:Int)=q.toNat:=congrArg Sound.Plus e;have e2:(m.toNat:Int)=r.toNat:=congrArg Sound.Minus e;rw[Bc1 (show p.toNat=q.toNat by omega),Bc1 (show m.toNat=r.toNat by omega)];exact hv
 ·exact fun hv=>⟨p,m,h,hv⟩
def okPS:Pat->Prop
 |.nil=>True
 |.mk _ is _ _ _ n g=>okS is/\∀i,i<n->okPS (g i)
theorem okPS.is {p:Pat}(h:okPS p):okS p.Is:=by
 cases p with
 |nil=>exact⟨0#32,0#32,rfl⟩
 |mk _ is _ _ _ n g=>exact h.1
theorem okPS.L {p:Pat}(h:okPS p){i:Nat}(hi:i<p.L.n):okPS (p.L.g i):=by
 cases p with
 |nil=>exact absurd hi (by show ¬i<0;omega)
 |mk _ is _ _ _ n g=>exact h.2 i hi
def chk:Nat->List Pat->Prop
 |0,l=>l=[]
 |_+1,[]=>True
 |k+1,p::l=>GO p/\chk k (p.L.toList++l)
theorem Al6:∀k,chk k []
 |0=>rfl
 |_+1=>trivial
theorem Nt:∀(k:Nat) (l:List Pat),chk k l->l.length<=k
 |0,l,h=>by rw[show l=[] from h];exact AZ0 _
 |k+1,[],_=>Bi2 _
 |k+1,p::l,⟨_,h⟩=>by
  have:=Nt k _ h
  rw[Bc9]at this;simp only[Bb6];omega
theorem Yi:∀(d:Nat) (p:Pat),okP d p->okP (d+1) p
 |0,_,h=>h.elim
 |d+1,p,⟨h1,h2,h3⟩=>⟨h1,h2,fun i hi=>Yi d _ (h3 i hi)⟩
theorem Qc {α : Type}{s:Sl α}{i:Nat}(h:i<s.n):s.g i∈s.toList:=Bh0.2 ⟨i,Bf0.2 h,rfl⟩
theorem Ca {α : Type}(s:Sl α):s.toList.length=s.n:=by simp[Sl.toList]
theorem Nu:∀(k:Nat) (l:List Pat),k<=40->chk k l->∀p∈l,okP k p
 |0,l,_,h,p,hp=>by rw[show l=[] from h]at hp;cases hp
 |k+1,[],_,_,p,hp=>by cases hp
 |k+1,q::l,hk,⟨hn,h⟩,p,hp=>by
  have ih:=Nu k _ (by omega) h;rcases Bc6.1 hp with rfl|hp
  ·have hl:=Nt k _ h;rw[Bc9,Ca]at hl;exact⟨by omega,fun h5=>hn.2.2.2.2.1 h5,fun i hi=>ih _ (Ba8 _ (Qc hi))⟩
  ·exact Yi k p (ih p (AZ7 _ hp))
theorem Ay4 {N:Nat}{p:Pat}(hp:okS p.Is):∃e,Ew N p=some e/\(e=0↔GO p):=by
 obtain⟨a,b,he⟩:=hp;have hv:=WH he;unfold Ew GO;by_cases h1:0<=p.Kind/\p.Kind<=6
 case neg=>exact ifT (by simp;omega) ⟨2,rfl,by simp;omega⟩
 refine ifF (by simp;omega) ?_;have e0:((p.Is.Plus==0)&&(p.Is.Minus==0))=decide (p.Is.Plus=0/\p.Is.Minus=0):=by rw[Bb3];simp
 rw[e0];by_cases h2:p.Kind≠1->(p.Is.Plus=0/\p.Is.Minus=0)/\p.Not=false
 case neg=>
  refine ifT ?_ ⟨2,rfl,by simp[h2]⟩;simp only[AY9,Ba5,bne_iff_ne,ne_eq,Bl6,decide_eq_false_iff_not];rw[Classical.not_imp]at h2;refine⟨h2.1,?_⟩;by_cases h:p.Is.Plus=0/\p.Is.Minus=0
  ·right
   cases hn:p.Not
   ·exact absurd ⟨h,hn⟩ h2.2
   ·rfl
  ·exact .inl h
 refine ifF ?_ (ltX ?_)
 ·simp only[AY9,Ba5,bne_iff_ne,ne_eq,Bl6,decide_eq_false_iff_not];rintro⟨g1,g2⟩;obtain⟨g3,g4⟩:=h2 g1;rcases g2 with g2|g2
  ·exact g2 g3
  ·rw[g4]at g2;cases g2
 have rest:(p.Kind≠3->p.Kind≠4->p.Kind≠5->p.L.n=0)->∃e,(if ((p.Kind != 5)&&((p.Min != 0)||(p.Max != 0))) then some (2:Int)else
  lt (fun (z2:Bool)=>if z2 then some 2 else (Q7 N p.Is).bind fun y1=>if (!y1) then some 14 else some 0) fun k2=>
   if (p.Kind==5) then if (((p.L.n:Nat):Int) != 1) then k2 true else if (decide (p.Min<0)) then k2 true else if (decide (32<p.Min)) then k2 true else
    if (p.Max != (-1)) then if (decide (p.Max<p.Min)) then k2 true else k2 (decide (32<p.Max))else k2 false else k2 false)=some e /\
  (e=0↔(0<=p.Kind/\p.Kind<=6)/\(p.Kind≠1->(p.Is.Plus=0/\p.Is.Minus=0)/\p.Not=false)/\(p.Kind≠3->p.Kind≠4->p.Kind≠5->p.L.n=0)/\(p.Kind≠5->p.Min=0/\p.Max=0) /\
   (p.Kind=5->p.L.n=1/\0<=p.Min/\p.Min<=32/\(p.Max = -1 \/ (p.Min<=p.Max/\p.Max<=32)))/\vS p.Is):=by
  intro h3;by_cases h4:p.Kind≠5->p.Min=0/\p.Max=0
  case neg=>refine ifT ?_ ⟨2,rfl,by simp[h4]⟩;rw[Classical.not_imp]at h4;simp only[AY9,Ba5,bne_iff_ne,ne_eq];omega
  refine ifF ?_ (ltX ?_)
  ·simp only[AY9,Ba5,bne_iff_ne,ne_eq];rintro⟨g1,g2⟩
   have:=h4 g1
   omega
  have last:(p.Kind=5->p.L.n=1/\0<=p.Min/\p.Min<=32/\(p.Max = -1 \/ (p.Min<=p.Max/\p.Max<=32)))->∃e,(if false then some (2:Int)else (Q7 N p.Is).bind fun y1=>if (!y1) then some 14 else some 0)=some e /\
   (e=0↔(0<=p.Kind/\p.Kind<=6)/\(p.Kind≠1->(p.Is.Plus=0/\p.Is.Minus=0)/\p.Not=false)/\(p.Kind≠3->p.Kind≠4->p.Kind≠5->p.L.n=0)/\(p.Kind≠5->p.Min=0/\p.Max=0) /\
    (p.Kind=5->p.L.n=1/\0<=p.Min/\p.Min<=32/\(p.Max = -1 \/ (p.Min<=p.Max/\p.Max<=32)))/\vS p.Is):=by
   intro h5;refine ifF (by simp) ?_;rw[hv,he,Qb];refine B4 rfl ?_;cases hvb:vB a b
   ·exact ifT rfl ⟨14,rfl,by simp⟩
   ·exact ifF (by simp) ⟨0,rfl,by rw[<- he];exact⟨fun _=>⟨h1,h2,h3,h4,h5,rfl⟩,fun _=>rfl⟩⟩
  have bad:¬(p.Kind=5->p.L.n=1/\0<=p.Min/\p.Min<=32/\(p.Max = -1 \/ (p.Min<=p.Max/\p.Max<=32)))->∃e,(if true then some (2:Int)else (Q7 N p.Is).bind fun y1=>if (!y1) then some 14 else some 0)=some e /\
   (e=0↔(0<=p.Kind/\p.Kind<=6)/\(p.Kind≠1->(p.Is.Plus=0/\p.Is.Minus=0)/\p.Not=false)/\(p.Kind≠3->p.Kind≠4->p.Kind≠5->p.L.n=0)/\(p.Kind≠5->p.Min=0/\p.Max=0) /\
    (p.Kind=5->p.L.n=1/\0<=p.Min/\p.Min<=32/\(p.Max = -1 \/ (p.Min<=p.Max/\p.Max<=32)))/\vS p.Is):=fun h5=>ifT rfl ⟨2,rfl,⟨fun h=>absurd h (by decide),fun h=>absurd h.2.2.2.2.1 h5⟩⟩
  by_cases k5:p.Kind=5
  ·refine ifT (by simp[k5]) ?_;by_cases g1:p.L.n=1
   case neg=>exact ifT (by simp;omega) (bad fun h=>g1 (h k5).1)
   refine ifF (by simp;omega) ?_;by_cases g2:p.Min<0
   ·exact ifT (by simpa using g2) (bad fun h=>by have:=h k5;omega)
   refine ifF (by simpa using g2) ?_;by_cases g3:32<p.Min
   ·exact ifT (by simpa using g3) (bad fun h=>by have:=h k5;omega)
   refine ifF (by simpa using g3) ?_;by_cases g4:p.Max = -1
   ·exact ifF (by simp[g4]) (last fun _=>⟨g1,by omega,by omega,.inl g4⟩)
   refine ifT (by simp[g4]) ?_;by_cases g5:p.Max<p.Min
   ·exact ifT (by simpa using g5) (bad fun h=>by have:=h k5;omega)
   refine ifF (by simpa using g5) ?_;by_cases g6:32<p.Max
   ·rw[decide_eq_true g6];exact bad fun h=>by have:=h k5;omega
   ·rw[decide_eq_false g6];exact last fun _=>⟨g1,by omega,by omega,.inr ⟨by omega,by omega⟩⟩
  ·exact ifF (by simp[k5]) (last fun h=>absurd h k5)
 by_cases k3:p.Kind=3
 ·exact ifF (by simp[k3]) (ifF (by simp) (rest fun h=>absurd k3 h))
 refine ifT (by simp[k3]) ?_;by_cases k4:p.Kind=4
 ·exact ifF (by simp[k4]) (ifF (by simp) (rest fun _ h=>absurd k4 h))
 refine ifT (by simp[k4]) ?_;by_cases k5:p.Kind=5
 ·exact ifF (by simp[k5]) (ifF (by simp) (rest fun _ _ h=>absurd k5 h))
 refine ifT (by simp[k5]) ?_;by_cases hn:p.L.n=0
 ·exact ifF (by simp;omega) (rest fun _ _ _=>hn)
 ·exact ifT (by simp;omega) ⟨2,rfl,⟨fun h=>absurd h (by decide),fun h=>absurd (h.2.2.1 k3 k4 k5) hn⟩⟩
theorem HQ {α : Type}(s:Sl α){i:Nat}(h:i<s.n):s.toList.drop i=s.g i::s.toList.drop (i+1):=by
 have hl:i<s.toList.length:=by rw[Ca];exact h
 rw[Bh3 hl];simp[Sl.toList]
theorem Gs {α : Type}(s:Sl α):s.toList.drop s.n=[]:=Bf1 (by rw[Ca];exact AZ0 _)
theorem Al7 {N:Nat}(hN:1000<=N):∀(d:Nat),d<=40->∀(p:Pat),okPS p->∀M,N+d+1<=M->∃r,CU M p ((40-d:Nat):Int)=some r /\
 ∃k:Nat,r.1=(k:Int)/\40-d<=k/\k<=40/\(r.2=0->40-d<k/\∀l,chk d (p::l)↔chk (40-k) l)/\(r.2≠0->∀l,¬chk d (p::l))
 |d,hd,p,hp,0,hM=>by omega
 |0,hd,p,hp,M+1,hM=>by show ∃r,W4 (CU M) M p _=some r/\_;unfold W4;exact ifT (by simp) ⟨_,rfl,40,rfl,by omega,by omega,fun h=>absurd h (by decide),fun _ l h=>by cases h⟩
 |d+1,hd,p,hp,M+1,hM=>by
  show ∃r,W4 (CU M) M p _=some r/\_;unfold W4;refine ifF (by simp;omega) ?_;obtain⟨e,he,hn⟩:=Ay4 (N:=M) hp.is;refine B4 he ?_;by_cases h0:e=0
  case neg=>exact ifT (by simp[h0]) ⟨_,rfl,40-(d+1),rfl,AZ0 _,by omega,fun h=>absurd h h0,fun _ l h=>h0 (hn.2 h.1)⟩
  refine ifF (by simp[h0]) ?_;have hnode:=hn.1 h0;rw[C0 (by omega)];refine P6 (fun i x1 x2=>x2=(i:Int)/\∃k:Nat,x1=(k:Int)/\40-(d+1)+1+i<=k/\k<=40/\i<=p.L.n/\∀l,chk (d+1) (p::l)↔chk (40-k) (p.L.toList.drop i++l)) 41 _ (by omega)
   ⟨rfl,40-(d+1)+1,rfl,by omega,by omega,by omega,fun l=>by rw[show 40-(40-(d+1)+1)=d by omega];exact⟨fun h=>h.2,fun h=>⟨hnode,h⟩⟩⟩ ?_
  rintro self i x1 x2 hi ⟨rfl,k,rfl,h1,h2,h3,h4⟩ hs;by_cases hl:i<p.L.n
  ·refine ifT (by simp;omega) (ifT (by omega) ?_);obtain⟨r,hr,k',r1,r2,r3,r4,r5⟩:=Al7 hN (40-k) (by omega) (p.L.g i) (hp.L hl) M (by omega);rw[show ((40-(40-k):Nat):Int)=(k:Int) by omega]at hr;refine B4 (by rw[AY3];exact hr) ?_;by_cases hz:r.2=0
   ·refine ifF (by simp[hz]) (hs (by omega) _ _ ⟨C0 (by omega),k',r1,by have:=(r4 hz).1;omega,r3,by omega,fun l=>?_⟩);rw[h4,HQ _ hl,Bc3];exact (r4 hz).2 _
   ·refine ifT (by simp[hz]) ⟨_,rfl,k',r1,by omega,r3,fun h=>absurd h hz,fun _ l hc=>?_⟩;rw[h4,HQ _ hl,Bc3]at hc;exact r5 hz _ hc
  ·obtain rfl:i=p.L.n:=by omega
   refine ifF (by simp) ⟨_,rfl,k,rfl,by omega,h2,fun _=>⟨by omega,fun l=>?_⟩,fun h=>absurd rfl h⟩;rw[h4,Gs];rfl
theorem Nv {N:Nat}(hN:2000<=N){p:Pat}(hp:okPS p):∃e,AR N p=some e/\(e=0↔chk 40 [p]):=by
 obtain⟨r,hr,k,h1,h2,h3,h4,h5⟩:=Al7 (N:=1500) (by omega) 40 (AZ0 _) p hp N (by omega);unfold AR;refine B4 hr ⟨_,rfl,fun h=>?_,fun h=>?_⟩
 ·exact ((h4 h).2 []).2 (Al6 _)
 ·by_cases hz:r.2=0
  ·exact hz
  ·exact absurd h (h5 hz [])
end Go.AM
namespace Go.AM
open Go.Proofs
theorem Al8 (x:BitVec 64)(h:x≠0#64):Lib.ctz 64 x.toNat<64/\x.getLsbD (Lib.ctz 64 x.toNat)=true/\∀j,j<Lib.ctz 64 x.toNat->x.getLsbD j=false:=by
 have h0:x.toNat≠0:=fun e=>h (Bc1 (by simpa using e));obtain⟨m,hm,hlt⟩:=Lib.ctzFrom_spec 64 x.toNat (by omega) x.isLt;have e:Lib.ctz 64 x.toNat=Lib.ctzFrom 64 x.toNat:=by unfold Lib.ctz;rw[if_neg h0]
 rw[e];refine⟨hlt,?_,fun j hj=>?_⟩
 ·show x.toNat.testBit _=true;rw[hm,Bn7];simp[<- hm,Nat.testBit_zero]
 ·show x.toNat.testBit _=false;rw[hm,Bn7];simp[<- hm];omega
def Fg (x:BitVec 64)(i:Nat):List Int:=((List.range' i (64-i)).filter fun j=>x.getLsbD j).map fun (j:Nat)=>(j:Int)
theorem JL {x:BitVec 64}{i:Nat}(h:∀j,j<64->x.getLsbD j=false):Fg x i=[]:=by
 unfold Fg;rw[Bo2.2 fun j hj=>by
  have:=List.mem_range'.1 hj
  simp;exact h j (by omega)]
 rfl
theorem Qd {x:BitVec 64}{t:Nat}:∀(k i:Nat),t=i+k->t<64->x.getLsbD t=true->(∀j,j<t->x.getLsbD j=false)->Fg x i=(t:Int)::Fg x (t+1)
 |0,i,h,ht,hb,hl=>by
  obtain rfl:t=i:=by omega
  unfold Fg;rw[show 64-t=(64-(t+1))+1 by omega,Bg8,Bk5 hb];rfl
 |k+1,i,h,ht,hb,hl=>by rw[<- Qd k (i+1) (by omega) ht hb hl];unfold Fg;rw[show 64-i=(64-(i+1))+1 by omega,Bg8,Bk6 (by simp;exact hl i (by omega))]
theorem WI {x y:BitVec 64}{i:Nat}(h:∀j,i<=j->x.getLsbD j=y.getLsbD j):Fg x i=Fg y i:=by unfold Fg;rw[List.filter_congr fun j hj=>h j (by have:=List.mem_range'.1 hj;omega)]
def AX9 (M:Nat)(self:Int->Option (List Int))(x1:Int):Option (List Int):=
 if (x1 != 0) then
  (F8 M x1).bind fun y3=>
  if (0:Int)<=y3 then
   Be y3 (
    self (E4 .andNot .u64 x1 (shI .shl .u64 1 y3))
    )
  else none
 else
  some []
theorem Al9 {x:BitVec 64}{M:Nat}{self:Int->Option (List Int)}(hx:x≠0#64):AX9 M self (U x)=Be ((Lib.ctz 64 x.toNat:Nat):Int) (self (U (x &&& ~~~(1#64 <<< Lib.ctz 64 x.toNat)))):=by
 have h0:x.toNat≠0:=fun e=>hx (Bc1 (by simpa using e));have hlt:=x.isLt;unfold AX9;rw[if_pos (by simp;omega)]
 have:F8 M (U x)=some ((Lib.ctz 64 x.toNat:Nat):Int):=by unfold F8;rw[if_pos ⟨show (0:Int)<=(x.toNat:Int) by omega,show (x.toNat:Int)<18446744073709551616 by omega⟩];rfl
 rw[this,AY7,if_pos (by omega),TN _ (Al8 x hx).1,Ax3]
theorem Ul {M:Nat}{self:Int->Option (List Int)}:AX9 M self (U 0#64)=some []:=rfl
theorem AM2 (M:Nat):∀(k i:Nat) (x:BitVec 64),64-i<=k->(∀j,j<i->x.getLsbD j=false)->∀N,k<N->R5 N (AX9 M) (U x)=some (Fg x i):=by
 intro k
 induction k with
 |zero=>
  intro i x hk hl N hN;have hz:x=0#64:=Bd6 fun j hj=>by simp;exact hl j (by omega)
  subst hz
  match N,hN with
  |N+1,_=>rw[JL fun j hj=>by simp,V8,Ul]
 |succ k ih=>
  intro i x hk hl N hN
  match N,hN with
  |N+1,hN=>
   by_cases hx:x=0#64
   ·subst hx;rw[JL fun j hj=>by simp,V8,Ul]
   ·obtain⟨h1,h2,h3⟩:=Al8 x hx;have hi:i<=Lib.ctz 64 x.toNat:=by
     by_cases hh:Lib.ctz 64 x.toNat<i
     ·rw[hl _ hh]at h2;cases h2
     ·omega
    rw[Qd (Lib.ctz 64 x.toNat-i) i (by omega) h1 h2 h3,V8,Al9 hx];generalize Lib.ctz 64 x.toNat=t at h1 h2 h3 hi;have hb:∀j,j<64->(x &&& ~~~(1#64 <<< t)).getLsbD j=(x.getLsbD j && !decide (j=t)):=fun j hj=>by rw[AZ9,Bd2,Gc h1 hj];simp[hj]
    have hc:Fg x (t+1)=Fg (x &&& ~~~(1#64 <<< t)) (t+1):=WI fun j hj=>by
     by_cases hj2:j<64
     ·rw[hb j hj2];have:¬j=t:=by omega
      simp[this]
     ·rw[Bp2 _ _ (by omega),Bp2 _ _ (by omega)]
    rw[ih (t+1) (x &&& ~~~(1#64 <<< t)) (by omega) (fun j hj=>by
     rw[hb j (by omega)];by_cases e:j=t
     ·simp[e]
     ·rw[h3 j (by omega)];rfl) N (by omega),<- hc]
    rfl
theorem HR (x:BitVec 64){N:Nat}(hN:100<=N):P8 N (U x)=some (Fg x 0):=
 AM2 N 64 0 x (by omega) (fun j hj=>absurd hj (by omega)) N (by omega)
theorem mem_bitsF {x:BitVec 64}{i:Nat}{y:Int}:y∈Fg x i ↔ ∃j:Nat,y=(j:Int)/\i<=j/\j<64/\x.getLsbD j=true:=by
 unfold Fg;simp only[Bh0,Bk3,Bj3];constructor
 ·rintro⟨j,⟨h1,h2⟩,rfl⟩;exact⟨j,rfl,h1.1,by omega,h2⟩
 ·rintro⟨j,rfl,h1,h2,h3⟩;exact⟨j,⟨⟨h1,by omega⟩,h3⟩,rfl⟩
theorem Ay5 {T A R:Type}{body:(A->Option R)->T->A->Option R}{k:A->Option R}{J6:R->Prop}(J:List T->A->Prop)(hnil:∀a,J [] a->∃r,k a=some r/\J6 r)
 (hcons:∀t L a self,J (t::L) a->(∀a',J L a' -> ∃r,self a' = some r/\J6 r)->∃r,body self t a=some r/\J6 r):∀(L:List T) (a:A),J L a->∃r,P4 L body k a=some r/\J6 r
 |[],a,h=>hnil a h
 |t::L,a,h=>hcons t L a _ h fun a' h'=>Ay5 J hnil hcons L a' h'
def TabA (n:Nat)(R:Nat->Nat->Prop)(f:Nat->Int):Prop:=TabR n R f/\∀a,n<a->f a=0
theorem TabA.congr {n:Nat}{R R' : Nat->Nat->Prop}{f:Nat->Int}(h:TabA n R f)(hr:∀a b,a<=n->b<=n->(R a b↔R' a b)):TabA n R' f:=⟨h.1.congr hr,h.2⟩
theorem zeroA (n:Nat):TabA n (fun _ _=>False) (fun _=>0):=⟨Ax9 fun _ _=>rfl,fun _ _=>rfl⟩
theorem DO (f:Nat->Int)(i:Nat)(v:Int)(a:Nat):Mc f i v a=if a=i then v else f a:=rfl
theorem AE1 {N n:Nat}{R S:Nat->Nat->Prop}{x y:Nat->Int}(hn:n<=32)(hN:1000<=N)(hR:TabA n R x)(hS:TabA n S y) :∃s,K7 N x y=some s/\TabA n (fun a b=>R a b \/ S a b) s:=by
 unfold K7;refine P6 (fun i x1 x2=>x2=(i:Int)/\∀a,x1 a=if a<i then E4 .or .u64 (x a) (y a)else x a) 33 _ (by omega) ⟨rfl,fun a=>by rw[if_neg (by omega)]⟩ ?_;rintro self i x1 x2 hi ⟨rfl,h2⟩ hs;by_cases hl:i<33
 ·refine ifT (by simp;omega) (ifT (by omega) (ifT (by omega) (hs (by omega) _ _ ⟨C0 (by omega),fun a=>?_⟩)));rw[DO,AY3,Bb7,Be2];by_cases e:a=i
  ·subst e;rw[if_pos rfl,if_pos (by omega),h2 a,if_neg (by omega)]
  ·rw[if_neg e,h2 a];by_cases e2:a<i
   ·rw[if_pos e2,if_pos (by omega)]
   ·rw[if_neg e2,if_neg (by omega)]
 ·refine ifF (by simp;omega) ⟨x1,rfl,fun a ha=>?_,fun a ha=>?_⟩
  ·obtain⟨u,e1,g1⟩:=hR.1 a ha;obtain⟨v,e2,g2⟩:=hS.1 a ha;refine⟨u ||| v,by rw[h2 a,if_pos (by omega),e1,e2,AX8],fun b hb=>?_⟩;rw[AZ8,Ba5,g1 b hb,g2 b hb];constructor
   ·rintro (⟨h1,h2⟩ | ⟨h1,h2⟩)
    ·exact⟨h1,.inl h2⟩
    ·exact⟨h1,.inr h2⟩
   ·rintro⟨h1,h2|h2⟩
    ·exact .inl ⟨h1,h2⟩
    ·exact .inr ⟨h1,h2⟩
  ·rw[h2 a];split
   ·rw[hR.2 a ha,hS.2 a ha];rfl
   ·exact hR.2 a ha
theorem Gt {N n:Nat}(hn:n<=32)(hN:1000<=N):∃s,P0 N (n:Int)=some s/\TabA n (fun a b=>a=b) s:=by
 unfold P0;rw[C0 (by omega)];refine P6 (fun i x1 x2=>x2=(i:Int)/\∀a,x1 a=if a<i then U (1#64 <<< a)else 0) (n+1) _ (by omega) ⟨rfl,fun a=>rfl⟩ ?_;rintro self i x1 x2 hi ⟨rfl,h2⟩ hs;by_cases hl:i<=n
 ·refine ifT (by simp;omega) (ifT (by omega) (hs (by omega) _ _ ⟨C0 (by omega),fun a=>?_⟩));rw[DO,AY3,Bb7,Be2];by_cases e:a=i
  ·subst e;rw[if_pos rfl,if_pos (by omega),TN _ (by omega)]
  ·rw[if_neg e,h2 a];by_cases e2:a<i
   ·rw[if_pos e2,if_pos (by omega)]
   ·rw[if_neg e2,if_neg (by omega)]
 ·refine ifF (by simp;omega) ⟨x1,rfl,fun a ha=>⟨1#64 <<< a,by rw[h2 a,if_pos (by omega)],fun b hb=>?_⟩,fun a ha=>by rw[h2 a,if_neg (by omega)]⟩;rw[Gc (by omega) hb,decide_eq_true_eq];omega
theorem Ln {N n:Nat}{R S:Nat->Nat->Prop}{x y:Nat->Int}(hn:n<=32)(hN:1000<=N)(hR:TabA n R x)(hS:TabA n S y) :∃s,D9 N x y=some s/\TabA n (fun a b=>∃c,c<=n/\R a c/\S c b) s:=by
 unfold D9;refine P6 (fun i x3 x4=>x4=(i:Int)/\(∀a,a<i->a<=n->∃z:BitVec 64,x3 a=U z/\∀b,b<64->(z.getLsbD b=true↔b<=n/\∃c,c<=n/\R a c/\S c b))/\∀a,i<=a \/ n<a->x3 a=0) 33 _ (by omega)
  ⟨rfl,fun a ha=>absurd ha (by omega),fun a _=>rfl⟩ ?_
 rintro self i x3 x4 hi ⟨rfl,h2,h3⟩ hs;by_cases hl:i<33
 ·refine ifT (by simp;omega) (ifT (by omega) ?_);rw[AY3,Bb7,Be2];refine B4 (x:=x i) rfl ?_;by_cases hin:i<=n
  ·obtain⟨u,e1,g1⟩:=hR.1 i hin;refine B4 (x:=Fg u 0) (by rw[e1];exact HR u (by omega)) ?_;refine Ay5 (fun L z=>(∀a,a≠i->z a=x3 a)/\(∀t∈L,∃c:Nat,t=(c:Int)/\c<=n/\R i c)/\∃v:BitVec 64,z i=U v/\∀b,b<64->((v.getLsbD b=true \/ ∃c:Nat,(c:Int)∈L/\b<=n/\S c b)↔(b<=n/\∃c,c<=n/\R i c/\S c b))) ?_ ?_ _ _ ?_
   ·rintro z ⟨k1,k2,v,k3,k4⟩;refine hs (by omega) _ _ ⟨C0 (by omega),fun a ha han=>?_,fun a ha=>?_⟩
    ·by_cases e:a=i
     ·subst e;exact⟨v,k3,fun b hb=>by rw[<- k4 b hb];simp⟩
     ·obtain⟨z',p1,p2⟩:=h2 a (by omega) han;exact⟨z',by rw[k1 a e];exact p1,p2⟩
    ·rw[k1 a (by omega)];exact h3 a (by omega)
   ·rintro t L z self2 ⟨k1,k2,v,k3,k4⟩ hs2;obtain⟨c,rfl,hc,hRc⟩:=k2 t (by simp);refine ifT (by omega) (hs2 _ ⟨fun a ha=>?_,fun t ht=>k2 t (by simp[ht]),?_⟩)
    ·rw[DO,if_neg (by omega)];exact k1 a ha
    ·obtain⟨yc,e2,g2⟩:=hS.1 c hc;refine⟨v ||| yc,?_,fun b hb=>?_⟩
     ·rw[DO,if_pos (by omega)];simp only[AY3,Bb7,Be2];rw[k3,e2,AX8]
     ·rw[<- k4 b hb,AZ8,Ba5,g2 b hb];constructor
      ·rintro ((h|⟨h,h'⟩)|⟨c',h,h'⟩)
       ·exact .inl h
       ·exact .inr ⟨c,by simp,h,h'⟩
       ·exact .inr ⟨c',by simp[h],h'⟩
      ·rintro (h|⟨c',h,h',h''⟩)
       ·exact .inl (.inl h)
       ·rcases Bc6.1 h with h|h
        ·have:c' = c:=by omega
         subst this;exact .inl (.inr ⟨h',h''⟩)
        ·exact .inr ⟨c',h,h',h''⟩
   ·refine⟨fun _ _=>rfl,fun t ht=>?_,0#64,h3 i (.inl (AZ0 _)),fun b hb=>?_⟩
    ·obtain⟨j,rfl,_,hj,hb⟩:=mem_bitsF.1 ht;exact⟨j,rfl,((g1 j hj).1 hb).1,((g1 j hj).1 hb).2⟩
    ·simp only[Bm4,AZ2,false_or];constructor
     ·rintro⟨c,hc,h,h'⟩;obtain⟨j,hj,_,hj2,hb2⟩:=mem_bitsF.1 hc;obtain rfl:c=j:=by omega
      exact⟨h,c,((g1 c hj2).1 hb2).1,((g1 c hj2).1 hb2).2,h'⟩
     ·rintro⟨h,c,hc,h',h''⟩;exact⟨c,mem_bitsF.2 ⟨c,rfl,by omega,by omega,(g1 c (by omega)).2 ⟨hc,h'⟩⟩,h,h''⟩
  ·refine B4 (x:=[]) (by rw[hR.2 i (by omega)];exact (HR 0#64 (by omega)).trans (by rw[JL fun j hj=>by simp])) ?_;exact hs (by omega) _ _ ⟨C0 (by omega),fun a ha han=>h2 a (by omega) han,fun a ha=>h3 a (by omega)⟩
 ·exact ifF (by simp;omega) ⟨x3,rfl,fun a ha=>h2 a (by omega) ha,fun a ha=>h3 a (.inr ha)⟩
theorem Ay6 (N:Nat)(x:Nat->Int):H6 N x=D9 N x x:=rfl
end Go.AM
namespace Go.AM
open Go.Proofs
theorem AW0:∀m:Fin 33,(E4 .and .i64 ((m.val:Nat):Int) 1==1)=decide (m.val % 2=1)/\shI .shr .i64 ((m.val:Nat):Int) 1=((m.val / 2:Nat):Int):=by decide +kernel
theorem Um {N n:Nat}{R:Nat->Nat->Prop}{x:Nat->Int}(hn:n<=32)(hN:1000<=N)(hf:Fwd n R)(hR:TabA n R x){k:Nat}(hk:k<=32) :∃s,F1 N x (k:Int) (n:Int)=some s/\TabA n (Hv n R k) s:=by
 unfold F1;obtain⟨y1,e1,h1⟩:=Gt (N:=N) hn hN;refine B4 e1 ?_;refine Al2 (fun i x1 x2 x3=>x1=((k / 2 ^ i:Nat):Int)/\TabA n (Hv n R (2 ^ i)) x2/\TabA n (Hv n R (k % 2 ^ i)) x3) 6 _ (by omega) ⟨by simp,?_,?_⟩ ?_
 ·exact hR.congr fun a b ha hb=>⟨fun h=>⟨a,ha,rfl,h⟩,fun⟨c,hc,(h:a=c),h'⟩=>h ▸ h'⟩
 ·rw[Nat.pow_zero,Nat.mod_one];exact h1
 ·rintro self i x1 x2 x3 hi ⟨rfl,h2,h3⟩ hs;have hm:k / 2 ^ i<=32:=Bd3 (Nat.div_le_self _ _) hk;obtain⟨b1,b2⟩:=AW0 ⟨k / 2 ^ i,by omega⟩;simp only at b1 b2;have hdiv:k / 2 ^ i / 2=k / 2 ^ (i+1):=by rw[Nat.div_div_eq_div_mul,Nat.pow_succ]
  have hmod:k % 2 ^ (i+1)=k % 2 ^ i+2 ^ i*(k / 2 ^ i % 2):=Nat.mod_pow_succ;have hsq:∃s,H6 N x2=some s/\TabA n (Hv n R (2 ^ (i+1))) s:=by obtain⟨s,e,h⟩:=Ln hn hN h2 h2;refine⟨s,(Ay6 N x2).trans e,h.congr fun a b ha hb=>?_⟩;rw[show 2 ^ (i+1)=2 ^ i+2 ^ i by rw[Nat.pow_succ];omega];exact (DK hf (2 ^ i) ha (2 ^ i) b).symm
  obtain⟨sq,esq,hsq⟩:=hsq;by_cases hz:k / 2 ^ i=0
  ·refine ifF (by simp[hz]) ⟨x3,rfl,?_⟩
   have:k % 2 ^ i=k:=Bg7 (by
    have:=Bp8.1 hz
    rcases this with h|h
    ·exact absurd h (Nat.ne_of_gt (Nat.two_pow_pos i))
    ·exact h)
   rw[this]at h3;exact h3
  ·have hi6:i<6:=by
    by_cases h:i<6
    ·exact h
    ·exact absurd (Bf8 (Bq6 hk (Ba6 (by decide:32<2 ^ 6) (Bh6 (by omega) (by omega))))) hz
   refine ifT (decide_eq_true (Int.natCast_pos.2 (Nat.pos_of_ne_zero hz))) ?_;by_cases ho:k / 2 ^ i % 2=1
   ·refine ifT (by rw[b1];simp[ho]) ?_;obtain⟨t,et,ht⟩:=Ln hn hN h3 h2;refine B4 et (B4 esq (hs hi6 _ _ _ ⟨by rw[b2,hdiv],hsq,ht.congr fun a b ha hb=>?_⟩));rw[hmod,ho,Be2];exact (DK hf (k % 2 ^ i) ha (2 ^ i) b).symm
   ·refine ifF (by rw[b1];simp[ho]) (B4 esq (hs hi6 _ _ _ ⟨by rw[b2,hdiv],hsq,?_⟩));rw[hmod,show k / 2 ^ i % 2=0 by omega,Nat.mul_zero,Bi1];exact h3
theorem AM3 {s c:Sound}(hs:okS s)(hc:okS c):((E4 .or .u32 (E4 .andNot .u32 c.Plus s.Plus) (E4 .andNot .u32 c.Minus s.Minus))==0)=Wk s c:=by
 obtain⟨p,m,rfl⟩:=hs;obtain⟨a,b,rfl⟩:=hc;have e:∀x y:BitVec 32,((E4 .and .u32 (x.toNat:Int) (y.toNat:Int))==(y.toNat:Int))=decide (y &&& ~~~ x=0#32):=by
  intro x y;rw[EK,Bb3];simp only[beq_iff_eq,decide_eq_true_eq];constructor
  ·intro h;have h:x &&& y=y:=Bc1 (by omega);refine (z32 _).2 fun i hi=>?_
   have:=congrArg (·.getLsbD i) h
   simp only[AZ9,Bd2,hi,decide_true,Bk1]at this⊢;cases hx:x.getLsbD i<;>cases hy:y.getLsbD i<;>simp_all
  ·intro h
   have:x &&& y=y:=IZ fun i hi=>by
    have:=(z32 _).1 h i hi
    simp only[AZ9,Bd2,hi,decide_true,Bk1]at this⊢;cases hx:x.getLsbD i<;>cases hy:y.getLsbD i<;>simp_all
   rw[this]
 unfold Wk;simp only[e,Ep,Kf,eq0];rw[Bb3];simp only[AY9,decide_eq_true_eq];constructor
 ·intro h;have h:=(z32 _).1 h;exact⟨(z32 _).2 fun i hi=>by have:=h i hi;rw[AZ8,Bh7]at this;exact this.1,(z32 _).2 fun i hi=>by have:=h i hi;rw[AZ8,Bh7]at this;exact this.2⟩
 ·rintro⟨h1,h2⟩;rw[h1,h2];rfl
theorem Am0 {N:Nat}(hN:1000<=N){w:Sl Sound}(hw:w.n<=32)(hws:∀i,i<w.n->okS (w.g i)){c:Sound}(hc:okS c)(no:Bool) :∃f,W7 N ⟨c,no⟩ w=some f/\TabA w.n (fun a b=>a<w.n/\b=a+1/\(Wk (w.g a) c != no)=true) f:=by
 unfold W7;refine P6 (fun i x1 x2=>x2=(i:Int)/\∀a,x1 a=if a<i/\(Wk (w.g a) c != no) then U (1#64 <<< (a+1))else 0) w.n _ (by omega) ⟨rfl,fun a=>by rw[if_neg (by omega)]⟩ ?_;rintro self i x1 x2 hi ⟨rfl,h2⟩ hs;by_cases hl:i<w.n
 ·refine ifT (by simp;omega) (ifT (by omega) ?_);rw[AY3,AM3 (hws i hl) hc];by_cases hb:(Wk (w.g i) c != no)=true
  ·refine ifT (by revert hb;cases Wk (w.g i) c<;>cases no<;>simp) ?_;rw[C0 (by omega)];refine ifT (by omega) (hs hl _ _ ⟨rfl,fun a=>?_⟩);rw[DO,Bb7,Be2,TN _ (by omega)];by_cases e:a=i
   ·subst e;rw[if_pos rfl,if_pos ⟨by omega,hb⟩]
   ·rw[if_neg e,h2 a];by_cases e2:a<i
    ·simp only[e2,show a<i+1 by omega,true_and]
    ·rw[if_neg (by omega),if_neg (by omega)]
  ·refine ifF (by revert hb;cases Wk (w.g i) c<;>cases no<;>simp) (hs hl _ _ ⟨C0 (by omega),fun a=>?_⟩);rw[h2 a];by_cases e:a=i
   ·subst e;rw[if_neg (by omega),if_neg (fun h=>hb h.2)]
   ·by_cases e2:a<i
    ·simp only[e2,show a<i+1 by omega,true_and]
    ·rw[if_neg (by omega),if_neg (by omega)]
 ·refine ifF (by simp;omega) ⟨x1,rfl,fun a ha=>?_,fun a ha=>by rw[h2 a,if_neg (by omega)]⟩;by_cases hb:a<w.n/\(Wk (w.g a) c != no)=true
  ·refine⟨1#64 <<< (a+1),by rw[h2 a,if_pos ⟨by omega,hb.2⟩],fun b hb2=>?_⟩;rw[Gc (by omega) hb2,decide_eq_true_eq];exact⟨fun h=>⟨by omega,hb.1,h,hb.2⟩,fun h=>h.2.2.1⟩
  ·refine⟨0#64,by rw[h2 a,if_neg (fun h=>hb ⟨by omega,h.2⟩)];rfl,fun b hb2=>?_⟩;simp only[Bm4,AZ2,false_iff];rintro⟨_,h1,h2,h3⟩;exact hb ⟨h1,h3⟩
theorem Am1 {n a0 b0:Nat}(ha:a0<=n)(hb:b0<=n)(hn:n<=32):TabA n (fun a b=>a=a0/\b=b0) (Mc (fun _=>0) a0 (U (1#64 <<< b0))):=by
 refine⟨fun a ha2=>?_,fun a ha2=>by rw[DO,if_neg (by omega)]⟩;by_cases e:a=a0
 ·refine⟨1#64 <<< b0,by rw[DO,if_pos e],fun b hb2=>?_⟩;rw[Gc (by omega) hb2,decide_eq_true_eq];omega
 ·refine⟨0#64,by rw[DO,if_neg e];rfl,fun b hb2=>?_⟩;simp only[Bm4,AZ2,false_iff];exact fun h=>e h.2.1
theorem Yj {N:Nat}{w:Sl Sound}(hw:w.n<=32)(e:Bool):∃f,Au N ⟨e⟩ w=some f/\TabA w.n (fun a b=>a=(if e then w.n else 0)/\b=(if e then w.n else 0)) f:=by
 unfold Au;cases e
 ·refine ifF (by simp) (ifT (by decide) ⟨_,rfl,?_⟩);exact Am1 (n:=w.n) (a0:=0) (b0:=0) (by omega) (by omega) hw
 ·refine ifT rfl (ifT (by omega) ⟨_,rfl,?_⟩);rw[AY3,Bb7,Be2,TN _ (by omega)];exact Am1 (AZ0 _) (AZ0 _) hw
theorem AM4 {N:Nat}(hN:1000<=N){w:Sl Sound}(hw:w.n<=32){rec:Part->Sl Sound->Option (Nat->Int)}{m:Nat}(hm:m<=40){g:Nat->Part}{Q:Nat->Nat->Nat->Prop}
 (hc:∀i,i<m->∃f,rec (g i) w=some f/\TabA w.n (Q i) f):∃f,Bv rec N ⟨⟨m,g⟩⟩ w=some f/\TabA w.n (ZO w.n Q m) f:=by
 unfold Bv;obtain⟨y1,e1,h1⟩:=Gt (N:=N) hw hN;refine B4 e1 ?_;refine P6 (fun i x1 x2=>x2=(i:Int)/\i<=m/\TabA w.n (ZO w.n Q i) x1) m _ (by omega) ⟨rfl,by omega,h1⟩ ?_;rintro self i x1 x2 hi ⟨rfl,hm2,h2⟩ hs;by_cases hl:i<m
 ·refine ifT (by simp;omega) (ifT (by show (0:Int)<=i/\(i:Int)<m;omega) ?_);obtain⟨f,e2,h3⟩:=hc i hl;refine B4 (by rw[AY3];exact e2) ?_;obtain⟨s,e3,h4⟩:=Ln hw hN h2 h3;exact B4 e3 (hs hl _ _ ⟨C0 (by omega),hl,h4⟩)
 ·obtain rfl:i=m:=by omega
  exact ifF (by simp) ⟨x1,rfl,h2⟩
theorem AM5 {N:Nat}(hN:1000<=N){w:Sl Sound}(hw:w.n<=32){rec:Part->Sl Sound->Option (Nat->Int)}{m:Nat}(hm:m<=40){g:Nat->Part}{Q:Nat->Nat->Nat->Prop}
 (hc:∀i,i<m->∃f,rec (g i) w=some f/\TabA w.n (Q i) f):∃f,Bw rec N ⟨⟨m,g⟩⟩ w=some f/\TabA w.n (fun a b=>∃i,i<m/\Q i a b) f:=by
 unfold Bw;refine P6 (fun i x1 x2=>x2=(i:Int)/\i<=m/\TabA w.n (fun a b=>∃j,j<i/\Q j a b) x1) m _ (by omega) ⟨rfl,by omega,(zeroA _).congr fun a b _ _=>⟨False.elim,fun⟨j,h,_⟩=>absurd h (by omega)⟩⟩ ?_;rintro self i x1 x2 hi ⟨rfl,hm2,h2⟩ hs;by_cases hl:i<m
 ·refine ifT (by simp;omega) (ifT (by show (0:Int)<=i/\(i:Int)<m;omega) ?_);obtain⟨f,e2,h3⟩:=hc i hl;refine B4 (by rw[AY3];exact e2) ?_;obtain⟨s,e3,h4⟩:=AE1 hw hN h2 h3;refine B4 e3 (hs hl _ _ ⟨C0 (by omega),hl,h4.congr fun a b _ _=>⟨?_,?_⟩⟩)
  ·rintro (⟨j,h,h'⟩ | h)
   ·exact⟨j,by omega,h'⟩
   ·exact⟨i,by omega,h⟩
  ·rintro⟨j,h,h'⟩;by_cases e:j=i
   ·subst e;exact .inr h'
   ·exact .inl ⟨j,by omega,h'⟩
 ·obtain rfl:i=m:=by omega
  exact ifF (by simp) ⟨x1,rfl,h2⟩
end Go.AM
namespace Go.AM
open Go.Proofs
theorem AM6 {N:Nat}(hN:1000<=N){w:Sl Sound}(hw:w.n<=32){rec:Part->Sl Sound->Option (Nat->Int)}{pt:Part}{Q:Nat->Nat->Prop}(hf:Fwd w.n Q){f:Nat->Int}(hr:rec pt w=some f)(hQ:TabA w.n Q f)
 {mn mx:Int}(h0:0<=mn) (h1:mn<=32) (h2:mx = -1 \/ (mn<=mx/\mx<=32)) :
 ∃s,Bx rec N ⟨pt,mn,mx⟩ w=some s/\TabA w.n (fun a b=>∃k:Nat,mn<=k/\(mx = -1 \/ (k:Int)<=mx)/\Hv w.n Q k a b) s:=by
 obtain⟨m,rfl⟩:∃m:Nat,mn=(m:Int):=⟨mn.toNat,by omega⟩;unfold Bx;refine B4 hr ?_;obtain⟨y2,e2,t2⟩:=Um hw hN hf hQ (k:=m) (by omega);refine B4 e2 ?_;obtain⟨y3,e3,t3⟩:=Gt (N:=N) hw hN;refine B4 e3 ?_;obtain⟨y4,e4,t4⟩:=AE1 hw hN hQ t3;refine B4 e4 ?_;have hf' : Fwd w.n (fun a b=>Q a b \/ a=b):=fun a b ha h=>by
  rcases h with h|h
  ·exact hf a b ha h
  ·omega
 have key:∀(K:Nat),K<=32->∃s,((F1 N y4 (K:Int) (w.n:Int)).bind fun y5=>(D9 N y2 y5).bind fun y6=>some y6)=some s/\TabA w.n (fun a b=>∃j,j<=K/\Hv w.n Q (m+j) a b) s:=by
  intro K hK;obtain⟨y5,e5,t5⟩:=Um hw hN hf' t4 (k:=K) hK;refine B4 e5 ?_;obtain⟨y6,e6,t6⟩:=Ln hw hN t2 t5;refine B4 e6 ⟨y6,rfl,t6.congr fun a b ha hb=>?_⟩;constructor
  ·rintro⟨c,hc,g1,g2⟩;obtain⟨j,hj,g3⟩:=(MT hf hc K b).1 g2;exact⟨j,hj,(DK hf m ha j b).2 ⟨c,hc,g1,g3⟩⟩
  ·rintro⟨j,hj,g⟩;obtain⟨c,hc,g1,g3⟩:=(DK hf m ha j b).1 g;exact⟨c,hc,g1,(MT hf hc K b).2 ⟨j,hj,g3⟩⟩
 by_cases hx:mx<0
 ·refine ifT (decide_eq_true hx) ?_;obtain⟨s,e,t⟩:=key w.n hw;refine⟨s,e,t.congr fun a b ha hb=>?_⟩;constructor
  ·rintro⟨j,hj,g⟩;exact⟨m+j,by omega,.inl (by omega),g⟩
  ·rintro⟨k,hk,_,g⟩;obtain⟨c,hc,g1,g3⟩:=(DK hf m ha (k-m) b).1 (by rw[show m+(k-m)=k by omega];exact g);obtain⟨j,hj,g4⟩:=TP hf hc (k-m) g3;exact⟨j,hj,(DK hf m ha j b).2 ⟨c,hc,g1,g4⟩⟩
 ·refine ifF (by simpa using hx) ?_;obtain⟨M,rfl⟩:∃M:Nat,mx=(M:Int):=⟨mx.toNat,by omega⟩;have hw2:IntKind.i64.wrap ((M:Int)-(m:Int))=((M-m:Nat):Int):=by rw[F0 (by omega) (by omega)];omega
  rw[show IntKind.i64.wrap ((⟨pt,(m:Int),(M:Int)⟩:AV2).max-(⟨pt,(m:Int),(M:Int)⟩:AV2).min)=((M-m:Nat):Int) from hw2];obtain⟨s,e,t⟩:=key (M-m) (by omega);refine⟨s,e,t.congr fun a b ha hb=>?_⟩;constructor
  ·rintro⟨j,hj,g⟩;exact⟨m+j,by omega,.inr (by omega),g⟩
  ·rintro⟨k,hk,hk2,g⟩;exact⟨k-m,by omega,by rw[show m+(k-m)=k by omega];exact g⟩
def okQ:Nat->Pat->Prop
 |0,_=>False
 |d+1,p=>GO p/\p.L.n<=40/\∀i,i<p.L.n->okQ d (p.L.g i)
theorem Yk:∀(d:Nat) (p:Pat),okQ d p->okQ (d+1) p
 |0,_,h=>h.elim
 |d+1,p,⟨h1,h2,h3⟩=>⟨h1,h2,fun i hi=>Yk d _ (h3 i hi)⟩
theorem Am2:∀(k:Nat) (l:List Pat),k<=40->chk k l->∀p∈l,okQ k p
 |0,l,_,h,p,hp=>by rw[show l=[] from h]at hp;cases hp
 |k+1,[],_,_,p,hp=>by cases hp
 |k+1,q::l,hk,⟨hn,h⟩,p,hp=>by
  have ih:=Am2 k _ (by omega) h;rcases Bc6.1 hp with rfl|hp
  ·have hl:=Nt k _ h;rw[Bc9,Ca]at hl;exact⟨hn,by omega,fun i hi=>ih _ (Ba8 _ (Qc hi))⟩
  ·exact Yk k p (ih p (AZ7 _ hp))
theorem vS.ok {s:Sound}(h:vS s):okS s:=by obtain⟨p,m,e,_⟩:=h;exact⟨p,m,e⟩
def AM7 (K:Nat)(p:Pat)(pt:Part):Prop:=∀(w:Sl Sound),w.n<=32->(∀i,i<w.n->okS (w.g i))->∀M,K<=M->∃f,Aw M pt w=some f/\TabA w.n (PR w p) f
theorem Nw {N:Nat}(hN:1000<=N):∀(d:Nat),d<=40->∀(p:Pat),okQ d p->∀M,N+d<=M->∃pt,Av M p=some pt/\AM7 (N+d) p pt
 |0,_,p,h,_,_=>h.elim
 |d+1,hd,p,⟨hn,hc,hch⟩,0,hM=>by omega
 |d+1,hd,p,⟨hn,hc,hch⟩,M+1,hM=>by
  show ∃pt,T6 (Av M) M p=some pt/\_;unfold T6;refine P6 (fun i x1 x2=>x2=(i:Int)/\i<=p.L.n/\x1.n=i/\∀j,j<i->AM7 (N+d) (p.L.g j) (x1.g j)) p.L.n _ (by omega) ⟨rfl,by omega,rfl,fun j hj=>absurd hj (by omega)⟩ ?_;rintro self i x1 x2 hi ⟨rfl,h1,h2,h3⟩ hs;by_cases hl:i<p.L.n
  ·refine ifT (by simp;omega) (ifT (by omega) ?_);obtain⟨pt,e,hg⟩:=Nw hN d (by omega) (p.L.g i) (hch i hl) M (by omega);refine B4 (by rw[AY3];exact e) ?_;refine ifT (by show (x1.n+1)*16<=_/\x1.n+1<=_;omega) (hs hl _ _ ⟨C0 (by omega),hl,by show x1.n+1=i+1;omega,fun j hj=>?_⟩);by_cases e2:j=i
   ·subst e2
    have:(x1.push pt).g j=pt:=by simp[Sl.push,h2]
    rw[this];exact hg
   ·have:(x1.push pt).g j=x1.g j:=by simp[Sl.push];omega
    rw[this];exact h3 j (by omega)
  ·obtain rfl:i=p.L.n:=by omega
   have fin:∀(pt:Part),(∀(w:Sl Sound),w.n<=32->(∀i,i<w.n->okS (w.g i))->∀M,N+d<=M->∃f,Aw (M+1) pt w=some f/\TabA w.n (PR w p) f)->∃r,some pt=some r/\AM7 (N+(d+1)) p r:=by intro pt h;refine⟨pt,rfl,fun w hw hws M' hM'=>?_⟩;obtain⟨M'',rfl⟩:∃M'',M' = M'' + 1:=⟨M' - 1,by omega⟩;exact h w hw hws M'' (by omega)
   refine ifF (by simp) ?_;obtain⟨⟨k0,k6⟩,n1,n2,n3,n4,n5⟩:=hn;by_cases k1:p.Kind=1
   ·refine ifT (by simp[k1]) (fin _ fun w hw hws M' hM'=>?_);obtain⟨f,e,h⟩:=Am0 (N:=M') (by omega) hw hws n5.ok p.Not;refine⟨f,e,h.congr fun a b _ _=>?_⟩;rw[KZ];simp[k1]
   refine ifF (by simp[k1]) ?_;by_cases k2:p.Kind=2
   ·refine ifT (by simp[k2]) (fin _ fun w hw hws M' hM'=>?_);obtain⟨f,e,h⟩:=Yj (N:=M') hw false;refine⟨f,e,h.congr fun a b _ _=>?_⟩;rw[KZ];simp[k2]
   refine ifF (by simp[k2]) ?_;by_cases k6:p.Kind=6
   ·refine ifT (by simp[k6]) (fin _ fun w hw hws M' hM'=>?_);obtain⟨f,e,h⟩:=Yj (N:=M') hw true;refine⟨f,e,h.congr fun a b _ _=>?_⟩;rw[KZ];simp[k6]
   refine ifF (by simp[k6]) ?_;by_cases k4:p.Kind=4
   ·refine ifT (by simp[k4]) (fin _ fun w hw hws M' hM'=>?_);obtain⟨f,e,h⟩:=AM5 (N:=M') (by omega) hw (rec:=Aw M') (m:=x1.n) (g:=x1.g) (Q:=fun i=>PR w (p.L.g i)) (by omega) fun i hi=>h3 i (by omega) w hw hws M' (by omega);refine⟨f,e,h.congr fun a b _ _=>?_⟩;rw[KZ,h2];simp[k4]
   refine ifF (by simp[k4]) ?_;by_cases k5:p.Kind=5
   ·obtain⟨g1,g2,g3,g4⟩:=n4 k5;refine ifT (by simp[k5]) (ifT (by omega) (fin _ fun w hw hws M' hM'=>?_));obtain⟨f,e,h⟩:=h3 0 (by omega) w hw hws M' (by omega);obtain⟨s,e2,h4⟩:=AM6 (N:=M') (by omega) hw (rec:=Aw M') (TQ w (p.L.g 0)) e h g2 g3 g4;refine⟨s,e2,h4.congr fun a b _ _=>?_⟩;rw[KZ];simp[k5]
   ·refine ifF (by simp[k5]) (fin _ fun w hw hws M' hM'=>?_);obtain⟨f,e,h⟩:=AM4 (N:=M') (by omega) hw (rec:=Aw M') (m:=x1.n) (g:=x1.g) (Q:=fun i=>PR w (p.L.g i)) (by omega) fun i hi=>h3 i (by omega) w hw hws M' (by omega);refine⟨f,e,h.congr fun a b _ _=>?_⟩;rw[KZ,h2];by_cases k3:p.Kind=3
    ·simp[k3]
    ·have k0' : p.Kind=0:=by omega
     rw[n2 k3 k4 k5];simp[k0',ZO]
end Go.AM
namespace Go.AM
open IntKind (wrap)
open Go.Proofs
theorem Aa8 {N:Nat}{p:Pat}(hp:okS p.Is):∃e,Aq N p=some e/\(e=0↔GO p):=by
 obtain⟨a,b,he⟩:=hp;have hv:=WH he;have V:O0 N p.Is=some (vB a b):=by rw[he];exact Uk a b
 have e0:((p.Is.Plus==0)&&(p.Is.Minus==0))=decide (p.Is.Plus=0/\p.Is.Minus=0):=by rw[Bb3];simp
 have fin:(GO p↔vS p.Is)->∃e,((O0 N p.Is).bind fun y1=>if (!y1) then some (14:Int)else some 0)=some e/\(e=0↔GO p):=by
  intro hX;rw[V];refine B4 rfl ?_;rw[hX,hv];cases vB a b
  ·exact ifT rfl ⟨14,rfl,by simp⟩
  ·exact ifF (by simp) ⟨0,rfl,by simp⟩
 have bad:∀{x:Int},x≠0->¬GO p->∃e,some x=some e/\(e=0↔GO p):=fun hx h=>⟨_,rfl,fun h2=>absurd h2 hx,fun h2=>absurd h2 h⟩;unfold Aq;by_cases hk:p.Kind=0 \/ p.Kind=2 \/ p.Kind=6
 ·refine ifT (by rcases hk with h|h|h<;>simp[h]) (ltX ?_);rw[e0];by_cases g1:p.Is.Plus=0/\p.Is.Minus=0
  case neg=>exact ifT (by simp[g1]) (ifT rfl (bad (by decide) fun h=>g1 (h.2.1 (by omega)).1))
  refine ifF (by simp[g1]) ?_;by_cases g2:p.Not=true
  ·exact ifT g2 (ifT rfl (bad (by decide) fun h=>by have:=(h.2.1 (by omega)).2;rw[g2]at this;cases this))
  refine ifF g2 ?_;by_cases g3:p.Min=0
  case neg=>exact ifT (by simp[g3]) (ifT rfl (bad (by decide) fun h=>g3 (h.2.2.2.1 (by omega)).1))
  refine ifF (by simp[g3]) ?_;by_cases g4:p.Max=0
  case neg=>exact ifT (by simp[g4]) (ifT rfl (bad (by decide) fun h=>g4 (h.2.2.2.1 (by omega)).2))
  refine ifF (by simp[g4]) ?_;by_cases g5:p.L.n=0
  case neg=>exact ifT (by simp;omega) (bad (by decide) fun h=>g5 (h.2.2.1 (by omega) (by omega) (by omega)))
  refine ifF (by simp;omega) (fin ?_);exact⟨fun h=>h.2.2.2.2.2,fun h=>⟨by omega,fun _=>⟨g1,by simpa using g2⟩,fun _ _ _=>g5,fun _=>⟨g3,g4⟩,fun h5=>by omega,h⟩⟩
 refine ifF (by simp only[not_or]at hk;simp[hk]) ?_;by_cases k1:p.Kind=1
 ·refine ifT (by simp[k1]) (ltX ?_);refine ifF (by simp) ?_;by_cases g3:p.Min=0
  case neg=>exact ifT (by simp[g3]) (ifT rfl (bad (by decide) fun h=>g3 (h.2.2.2.1 (by omega)).1))
  refine ifF (by simp[g3]) ?_;by_cases g4:p.Max=0
  case neg=>exact ifT (by simp[g4]) (ifT rfl (bad (by decide) fun h=>g4 (h.2.2.2.1 (by omega)).2))
  refine ifF (by simp[g4]) ?_;by_cases g5:p.L.n=0
  case neg=>exact ifT (by simp;omega) (bad (by decide) fun h=>g5 (h.2.2.1 (by omega) (by omega) (by omega)))
  refine ifF (by simp;omega) (fin ?_);exact⟨fun h=>h.2.2.2.2.2,fun h=>⟨by omega,fun h1=>absurd k1 h1,fun _ _ _=>g5,fun _=>⟨g3,g4⟩,fun h5=>by omega,h⟩⟩
 refine ifF (by simp[k1]) (ltX ?_);rw[e0];have tail:∀(x y:Int),(GO p↔(p.Is.Plus=0/\p.Is.Minus=0)/\p.Not=false/\x=0/\y=0/\vS p.Is)->∃e,(if (((((decide (p.Is.Plus=0/\p.Is.Minus=0) != true)||p.Not)||(x != 0))||(y != 0))||(decide (0<0))) then some (2:Int)else
  (O0 N p.Is).bind fun y3=>if (!y3) then some 14 else some 0)=some e/\(e=0↔GO p):=by
  intro x y hX;by_cases g:(p.Is.Plus=0/\p.Is.Minus=0)/\p.Not=false/\x=0/\y=0
  ·obtain⟨g1,g2,g3,g4⟩:=g;exact ifF (by simp[g1,g2,g3,g4]) (fin (hX.trans ⟨fun h=>h.2.2.2.2,fun h=>⟨g1,g2,g3,g4,h⟩⟩))
  ·refine ifT ?_ (bad (by decide) fun h=>g ⟨(hX.1 h).1,(hX.1 h).2.1,(hX.1 h).2.2.1,(hX.1 h).2.2.2.1⟩);simp only[Ba5,bne_iff_ne,ne_eq,decide_eq_true_eq];by_cases g1:p.Is.Plus=0/\p.Is.Minus=0
   ·by_cases g2:p.Not=true
    ·simp[g2]
    ·by_cases g3:x=0
     ·have:¬y=0:=fun g4=>g ⟨g1,by simpa using g2,g3,g4⟩
      simp[this]
     ·simp[g3]
   ·simp[g1]
 by_cases k34:p.Kind=3 \/ p.Kind=4
 ·refine ifT (by rcases k34 with h|h<;>simp[h]) (tail _ _ ?_);constructor
  ·exact fun h=>⟨(h.2.1 k1).1,(h.2.1 k1).2,(h.2.2.2.1 (by omega)).1,(h.2.2.2.1 (by omega)).2,h.2.2.2.2.2⟩
  ·rintro⟨h1,h2,h3,h4,h5⟩;exact⟨by omega,fun _=>⟨h1,h2⟩,fun h h'=>by omega,fun _=>⟨h3,h4⟩,fun h=>by omega,h5⟩
 refine ifF (by simp only[not_or]at k34;simp[k34]) ?_;by_cases k5:p.Kind=5
 ·refine ifT (by simp[k5]) ?_;by_cases g:p.L.n=1/\0<=p.Min/\p.Min<=32/\(p.Max = -1 \/ (p.Min<=p.Max/\p.Max<=32))
  ·refine ifF (by simp only[Ba5,AY9,bne_iff_ne,ne_eq,decide_eq_true_eq];omega) (tail 0 0 ?_);constructor
   ·exact fun h=>⟨(h.2.1 k1).1,(h.2.1 k1).2,rfl,rfl,h.2.2.2.2.2⟩
   ·rintro⟨h1,h2,h3,h4,h5⟩;exact⟨by omega,fun _=>⟨h1,h2⟩,fun _ _ h=>absurd k5 h,fun h=>absurd k5 h,fun _=>g,h5⟩
  ·exact ifT (by simp only[Ba5,AY9,bne_iff_ne,ne_eq,decide_eq_true_eq];omega) (bad (by decide) fun h=>g (h.2.2.2.2.1 k5))
 ·exact ifF (by simp[k5]) (bad (by decide) fun h=>by have:=h.1;omega)
theorem Am3 {x:Sl Pat}{m:Nat}(h:x.n=m+1):x.toList.reverse=x.g m::(x.take m).toList.reverse:=by unfold Sl.toList;rw[h,Bh9,Bk4,Bg3];rfl
theorem Ay7 (z:Sl Pat)(q:Pat):((z.push Pat.nil).upd z.n q).toList.reverse=q::z.toList.reverse:=by
 rw[Am3 (m:=z.n) rfl];have e1:((z.push Pat.nil).upd z.n q).g z.n=q:=by simp
 have e2:(((z.push Pat.nil).upd z.n q).take z.n).toList=z.toList:=by
  unfold Sl.toList;refine Bc4 fun i hi=>?_
  have:i<z.n:=Bf0.1 hi
  show (if i=z.n then q else if i<z.n then z.g i else Pat.nil)=z.g i;rw[if_neg (by omega),if_pos this]
 rw[e1,e2]
theorem WJ {N:Nat}(q:Sl Pat)(hq:q.n<N)(hs:q.n<1000000):D0 N q=some ((List.range q.n).reverse.map fun (i:Nat)=>((i:Int),q.g i)):=by
 unfold D0;have h:∀(m:Nat),m<=q.n->∀F,m<F->R5 F (fun (self1:Int->Option (List (Int×Pat))) (x1:Int)=>
  if (decide (0<=x1)) then
   if ((0:Int)<=x1/\x1<(q.n:Int))then
    Be (x1,q.g x1.toNat) (
     self1 (wrap .i64 (x1-1))
     )
   else none
  else
   some []) ((m:Int)-1)=some ((List.range m).reverse.map fun (i:Nat)=>((i:Int),q.g i)):=by
  intro m
  induction m with
  |zero=>
   intro _ F hF
   match F,hF with
   |F+1,_=>rfl
  |succ m ih=>
   intro hm F hF
   match F,hF with
   |F+1,hF=>rw[V8];rw[show ((m+1:Nat):Int)-1=(m:Int) by omega,if_pos (by simp),if_pos (by omega),F0 (by omega) (by omega),ih (by omega) F (by omega),AY3,Bh9,Bg3,Bo3,Bo9,Bb4];rfl
 rw[F0 (by omega) (by omega)];exact h q.n (AZ0 _) N hq
theorem AM8 {k:Nat}(hk:k<=40){c:Sl Pat}{l:List Pat}:chk k ((c.take (min 41 c.n)).toList++l)↔chk k (c.toList++l):=by
 by_cases h:c.n<=41
 ·rw[Bl5 h]
 ·constructor
  ·intro h2
   have:=Nt _ _ h2
   rw[Bc9,Ca]at this
   have:(c.take (min 41 c.n)).n=41:=Bf4 (by omega)
   omega
  ·intro h2
   have:=Nt _ _ h2
   rw[Bc9,Ca]at this;omega
theorem RH {N:Nat}(hN:2000<=N){p:Pat}(hp:okPS p):∃e,W8 N p=some e/\(e=0↔chk 40 [p]):=by
 unfold W8;refine P6 (fun i x3 x4=>x4=(i:Int)/\x3.n<=1+41*i/\(∀q∈x3.toList.reverse,okPS q)/\(chk 40 [p]↔chk (40-i) x3.toList.reverse)) 40 _ (by omega)
  ⟨rfl,by show 1<=_;omega,fun q hq=>by rw[show (Sl.of [p]:Sl Pat).toList.reverse=[p] from rfl]at hq;rw[Bh2.1 hq];exact hp,Bi7⟩ ?_
 rintro self i x3 x4 hi ⟨rfl,h1,hok,h2⟩ hs;rcases hn:x3.n with _|m
 ·refine ifF (by simp) ⟨0,rfl,fun _=>h2.2 ?_,fun _=>rfl⟩
  have:x3.toList.reverse=[]:=by unfold Sl.toList;rw[hn];rfl
  rw[this];exact Al6 _
 ·rw[Am3 hn]at h2 hok;refine ifT (decide_eq_true (by omega)) ?_;by_cases h40:i=40
  ·subst h40;refine ifT (by simp) ⟨12,rfl,fun h=>absurd h (by decide),fun h=>?_⟩
   have:(x3.g m::(x3.take m).toList.reverse)=[]:=h2.1 h
   cases this
  refine ifF (by simp;omega) ?_;have hw:IntKind.i64.wrap (((m+1:Nat):Int)-1)=(m:Int):=by rw[F0 (by omega) (by omega)];omega
  simp only[hw,AY3];refine ifT (by omega) (ifT (by omega) ?_);obtain⟨e,he,hnode⟩:=Aa8 (N:=N) (hok (x3.g m) (by simp)).is;refine B4 he ?_;rw[show 40-i=(39-i)+1 by omega]at h2;by_cases h0:e=0
  case neg=>exact ifT (by simp[h0]) ⟨e,rfl,fun h=>absurd h h0,fun h=>absurd (hnode.2 (h2.1 h).1) h0⟩
  refine ifF (by simp[h0]) ?_;have hc:(if (41:Int)<((x3.g m).L.n:Int)then (41:Int)else ((x3.g m).L.n:Int))=((min 41 (x3.g m).L.n:Nat):Int):=by split<;>omega
  simp only[hc,AY3];refine ifT (by omega) (B4 rfl (B4 (WJ _ (by show min 41 _<N;omega) (by show min 41 _<1000000;omega)) ?_));generalize hC:(x3.g m).L.take (min 41 (x3.g m).L.n)=C;have hCn:C.n<=41:=by rw[<- hC];exact Nat.min_le_left _ _
  refine Ay5 (fun L z=>∃j,j<=C.n/\L=((List.range j).reverse.map fun (i:Nat)=>((i:Int),C.g i))/\z.n=m+(C.n-j)/\z.toList.reverse=C.toList.drop j++(x3.take m).toList.reverse) ?_ ?_ _ _ ⟨C.n,AZ0 _,rfl,by show m=_;omega,by rw[Gs];rfl⟩
  ·rintro z ⟨j,hj,hL,hz,hzr⟩;have hj0:j=0:=by
    cases j with
    |zero=>rfl
    |succ j=>simp[Bh9]at hL
   subst hj0;rw[Bm9]at hzr;refine hs (by omega) _ _ ⟨C0 (by omega),by omega,fun q hq=>?_,?_⟩
   ·rw[hzr]at hq;rcases List.mem_append.1 hq with h|h
    ·obtain⟨i',hi',rfl⟩:=Bh0.1 h;have hi':=Bf0.1 hi';rw[<- hC]at hi'⊢;exact (hok (x3.g m) (by simp)).L (Ba6 hi' (Nat.min_le_right _ _))
    ·exact hok q (by simp[h])
   ·rw[hzr,h2,show 40-(i+1)=39-i by omega,<- hC,AM8 (by omega)];exact⟨fun h=>h.2,fun h=>⟨hnode.1 h0,h⟩⟩
  ·rintro t L z self2 ⟨j,hj,hL,hz,hzr⟩ hs2;cases j with
   |zero=>simp at hL
   |succ j=>rw[Bh9,Bg3,Bo3,Bo9,Bb4]at hL;obtain⟨rfl,rfl⟩:=List.cons.inj hL;have e1:(z.n:Int).toNat=z.n:=AY3 _;refine ifT ⟨⟨⟨by show (z.n+1)*64<=_;omega,by show z.n+1<=_;omega⟩,by show (0:Int)<=_/\(z.n:Int)<((z.n+1:Nat):Int);omega⟩,by show z.n<z.n+1;omega⟩ ?_;refine hs2 _ ⟨j,by omega,rfl,by show z.n+1=_;omega,?_⟩;rw[Ay7,hzr,HQ C (i:=j) (by omega),Bc3]
end Go.AM
namespace Go.AM
open IntKind (wrap)
open Go.Proofs
def wOk (w:Sl Sound):Prop:=w.n<=32/\∀i,i<w.n->vS (w.g i)
theorem KE {N:Nat}{w:Sl Sound}(hN:w.n<N)(hs:w.n<1000000){f:Sound->Option Bool}{b:Nat->Bool}(hf:∀i,i<w.n->f (w.g i)=some (b i)) :∃r,B5 N w f=some r/\(r=true ↔ ∃i,i<w.n/\b i=true):=by
 unfold B5 D8
 have:∃y,R5 N (fun (self1:Int->Option Int) (x1:Int)=>
  if (decide (x1<(w.n:Int))) then
   if ((0:Int)<=x1/\x1<(w.n:Int))then
    (f (w.g x1.toNat)).bind fun y3=>
    if y3 then
     some x1
    else
     self1 (wrap .i64 (x1+1))
   else none
  else
   some (-1)) 0=some y/\(0<=y ↔ ∃i,i<w.n/\b i=true):=by
  refine BD (fun i x1=>x1=(i:Int)/\∀j,j<i->b j=false) w.n _ hN ⟨rfl,fun j hj=>absurd hj (by omega)⟩ ?_;rintro self i x1 hi ⟨rfl,h⟩ hs2;by_cases hl:i<w.n
  ·refine ifT (by simp;omega) (ifT (by omega) (B4 (by rw[AY3];exact hf i hl) ?_));cases hb:b i
   ·refine ifF (by simp) (hs2 hl _ ⟨C0 (by omega),fun j hj=>?_⟩);by_cases e:j=i
    ·subst e;exact hb
    ·exact h j (by omega)
   ·exact ifT rfl ⟨i,rfl,fun _=>⟨i,hl,hb⟩,fun _=>by omega⟩
  ·refine ifF (by simp;omega) ⟨-1,rfl,fun h=>absurd h (by decide),?_⟩;rintro⟨j,hj,hb⟩;rw[h j (by omega)]at hb;cases hb
 obtain⟨y,e,hy⟩:=this;exact B4 e ⟨_,rfl,by rw[decide_eq_true_eq];exact hy⟩
theorem Qe {N:Nat}(hN:3000<=N){p:Pat}(hp:okPS p){w:Sl Sound}(hs:w.n<1000000/\w.n+1000<N)(hw:∀i,i<w.n->okS (w.g i)) :∃r,Z3 N p w=some r/\(r.2=0↔chk 40 [p]/\wOk w)/\(r.2=0->TabA w.n (PR w p) r.1):=by
 unfold Z3;obtain⟨e,he,hc⟩:=RH (N:=N) (by omega) hp;refine B4 he ?_;by_cases h0:e=0
 case neg=>exact ifT (by simp[h0]) ⟨_,rfl,⟨fun h=>absurd h h0,fun h=>absurd (hc.2 h.1) h0⟩,fun h=>absurd h h0⟩
 refine ifF (by simp[h0]) ?_;by_cases hn:32<w.n
 ·exact ifT (by simp;omega) ⟨_,rfl,⟨fun h=>absurd h (by decide),fun h=>by have:=h.2.1;omega⟩,fun h=>absurd h (by decide)⟩
 refine ifF (by simp;omega) ?_;have hv:∀i,∃b:Bool,i<w.n->S2 N (w.g i)=some b/\(b=true ↔ ¬vS (w.g i)):=by
  intro i;by_cases hi:i<w.n
  ·obtain⟨x,y,he⟩:=hw i hi;refine⟨!vB x y,fun _=>⟨?_,?_⟩⟩
   ·unfold S2;rw[he,Uk];rfl
   ·rw[WH he];cases vB x y<;>simp
  ·exact⟨false,fun h=>absurd h hi⟩
 obtain⟨b,hb⟩:=Bg0 hv;obtain⟨r,hr,hr2⟩:=KE (N:=N) (by omega) hs.1 (f:=fun u1=>S2 N u1) fun i hi=>(hb i hi).1;refine B4 hr ?_;by_cases hrt:r=true
 ·refine ifT hrt ⟨_,rfl,⟨fun h=>absurd h (by decide),fun h=>?_⟩,fun h=>absurd h (by decide)⟩;obtain⟨i,hi,hbi⟩:=hr2.1 hrt;exact absurd (h.2.2 i hi) ((hb i hi).2.1 hbi)
 ·refine ifF hrt ?_;have hok:wOk w:=⟨by omega,fun i hi=>Bb0 fun hnv=>hrt (hr2.2 ⟨i,hi,(hb i hi).2.2 hnv⟩)⟩;obtain⟨pt,ep,hg⟩:=Nw (N:=1000) (by omega) 40 (AZ0 _) p (Am2 40 [p] (AZ0 _) (hc.1 h0) p (by simp)) N (by omega);refine B4 ep ?_;obtain⟨f,ef,hf⟩:=hg w (by omega) hw N (by omega);exact B4 ef ⟨_,rfl,⟨fun _=>⟨hc.1 h0,hok⟩,fun _=>rfl⟩,fun _=>hf⟩
end Go.AM
namespace Go.AM
open Go.Proofs
theorem Aa9 {N:Nat}(hN:3000<=N){p:Pat}(hp:okPS p){w:Sl Sound}(hs:w.n<1000000/\w.n+1000<N)(hw:∀i,i<w.n->okS (w.g i))(at_:Int) :∃r,By N p w at_=some r/\(0<r.1.n↔chk 40 [p]/\wOk w/\0<=at_/\at_<=w.n/\∃a,a<=w.n/\PR w p a at_.toNat):=by
 unfold By;obtain⟨y,e,h1,h2⟩:=Qe hN hp hs hw;refine B4 e (ltX ?_);by_cases h0:y.2=0
 case neg=>refine ifF (by simp[h0]) (ifT (by simp[h0]) ⟨_,rfl,fun h=>absurd h (by show ¬ 0<0;omega),fun h=>absurd (h1.2 ⟨h.1,h.2.1⟩) h0⟩)
 refine ifT (by simp[h0]) ?_;obtain⟨hc,hok⟩:=h1.1 h0;have hT:=h2 h0;have hn:=hok.1;unfold Z0;by_cases hat:at_<0 \/ (w.n:Int)<at_
 ·rw[if_pos (by simpa using hat)];refine B4 rfl (ifT (by decide) ⟨_,rfl,fun h=>absurd h (by show ¬ 0<0;omega),fun h=>by omega⟩)
 rw[if_neg (by simpa using hat)];refine B4 rfl (ifF (by simp) ?_);obtain⟨k,rfl⟩:∃k:Nat,at_=(k:Int):=⟨at_.toNat,by omega⟩;rw[C0 (by omega),AY3];refine P6 (fun i x2 x3=>x3=(i:Int)/\x2.n<=i/\(0<x2.n ↔ ∃a,a<i/\PR w p a k)) (w.n+1) _ (by omega) ⟨rfl,AZ0 _,fun h=>absurd h (by show ¬ 0<0;omega),fun⟨a,h,_⟩=>absurd h (by omega)⟩ ?_;rintro self i x2 x3 hi ⟨rfl,g1,g2⟩ hs2;by_cases hl:i<=w.n
 ·refine ifT (by simp;omega) (ifT (by omega) ?_);rw[AY3,Bb7,Be2];have hb:=hT.1.bit hl (b:=k) (by omega);by_cases hP:PR w p i k
  ·refine ifT (hb.2 ⟨by omega,hP⟩) (ifT (by show (x2.n+1)*8<=_/\x2.n+1<=_;omega) (hs2 (by omega) _ _ ⟨C0 (by omega),by show x2.n+1<=_;omega,fun _=>⟨i,by omega,hP⟩,fun _=>by show 0<x2.n+1;omega⟩))
  ·refine ifF (fun h=>hP (hb.1 h).2) (hs2 (by omega) _ _ ⟨C0 (by omega),by omega,fun h=>?_,fun⟨a,ha,h⟩=>?_⟩)
   ·obtain⟨a,ha,h'⟩:=g2.1 h;exact⟨a,by omega,h'⟩
   ·by_cases e2:a=i
    ·subst e2;exact absurd h hP
    ·exact g2.2 ⟨a,by omega,h⟩
 ·refine ifF (by simp;omega) ⟨_,rfl,fun h=>?_,fun h=>?_⟩
  ·obtain⟨a,ha,h'⟩:=g2.1 h;exact⟨hc,hok,by omega,by omega,a,by omega,h'⟩
  ·obtain⟨a,ha,h'⟩:=h.2.2.2.2;exact g2.2 ⟨a,by omega,h'⟩
theorem WK {N:Nat}(L:List Int)(hL:L.length<1000):∃s,J9 N L=some s/\s.n=L.length:=by
 unfold J9 G5
 have:∃s:Sl Int,P4 L (fun (self1:Sl Int->Option (Sl Int)) (x1:Int) (z1:Sl Int)=>
  if ((z1.n+(Sl.of [x1]:Sl Int).n)*8<=140737488355328/\z1.n+(Sl.of [x1]:Sl Int).n<=140737488355328)then
   self1 (z1.push x1)
  else none
  ) (fun (z1:Sl Int)=>some z1) (Sl.nil:Sl Int)=some s/\s.n=L.length:=by
  refine Ay5 (fun l z=>z.n+l.length=L.length) (fun z h=>⟨z,rfl,by simpa using h⟩) (fun t l z self h hs=>?_) L _ (by simp);simp only[Bb6]at h;exact ifT (by show (z.n+1)*8<=_/\z.n+1<=_;omega) (hs _ (by show z.n+1+l.length=_;omega))
 obtain⟨s,e,hn⟩:=this;exact B4 e ⟨s,rfl,hn⟩
theorem Ay8 {N:Nat}(hN:3000<=N){p:Pat}(hp:okPS p){w:Sl Sound}(hs:w.n<1000000/\w.n+1000<N)(hw:∀i,i<w.n->okS (w.g i))(at_:Int) :∃r,Dt N p w at_=some r/\(0<r.1.n↔chk 40 [p]/\wOk w/\0<=at_/\at_<=w.n/\∃b,b<=w.n/\PR w p at_.toNat b):=by
 unfold Dt;obtain⟨y,e,h1,h2⟩:=Qe hN hp hs hw;refine B4 e (ltX ?_);by_cases h0:y.2=0
 case neg=>refine ifF (by simp[h0]) (ifT (by simp[h0]) ⟨_,rfl,fun h=>absurd h (by show ¬ 0<0;omega),fun h=>absurd (h1.2 ⟨h.1,h.2.1⟩) h0⟩)
 refine ifT (by simp[h0]) ?_;obtain⟨hc,hok⟩:=h1.1 h0;have hT:=h2 h0;have hn:=hok.1;unfold Z0;by_cases hat:at_<0 \/ (w.n:Int)<at_
 ·rw[if_pos (by simpa using hat)];refine B4 rfl (ifT (by decide) ⟨_,rfl,fun h=>absurd h (by show ¬ 0<0;omega),fun h=>by omega⟩)
 rw[if_neg (by simpa using hat)];refine B4 rfl (ifF (by simp) ?_);obtain⟨k,rfl⟩:∃k:Nat,at_=(k:Int):=⟨at_.toNat,by omega⟩;refine ifT (by omega) ?_;rw[AY3,Bb7,Be2];obtain⟨u,e1,g1⟩:=hT.1 k (by omega);refine B4 (x:=y.1 k) rfl (B4 (x:=Fg u 0) (by rw[e1];exact HR u (by omega)) ?_);obtain⟨s,es,hsn⟩:=WK (N:=N) (Fg u 0) (by unfold Fg;rw[Bd7];exact Bq6 (List.length_filter_le _ _) (by simp))
 refine B4 es ⟨_,rfl,?_⟩;show 0<s.n↔_;rw[hsn,List.length_pos_iff_exists_mem];constructor
 ·rintro⟨t,ht⟩;obtain⟨b,rfl,_,hb,hbit⟩:=mem_bitsF.1 ht;exact⟨hc,hok,by omega,by omega,b,((g1 b hb).1 hbit).1,((g1 b hb).1 hbit).2⟩
 ·rintro⟨_,_,_,_,b,hb,h⟩;exact⟨(b:Int),mem_bitsF.2 ⟨b,rfl,by omega,by omega,(g1 b (by omega)).2 ⟨hb,h⟩⟩⟩
end Go.AM
namespace Go.AM
open IntKind (wrap)
open Go.Proofs
def Yl (w:Sl Sound)(e:Int):Prop:=(32<w.n/\e=11) \/ (w.n<=32/\(∃i,i<w.n/\¬vS (w.g i))/\e=14) \/ (wOk w/\e=0)
theorem Nx {w:Sl Sound}{e e' : Int}(h:Yl w e)(h' : Yl w e'):e=e':=by
 rcases h with⟨h1,h2⟩ | ⟨h1,⟨i,hi,hv⟩,h2⟩ | ⟨h1,h2⟩<;>rcases h' with⟨g1,g2⟩ | ⟨g1,⟨j,hj,gv⟩,g2⟩ | ⟨g1,g2⟩
 ·omega
 ·omega
 ·have:=g1.1;omega
 ·omega
 ·omega
 ·exact absurd (g1.2 i hi) hv
 ·have:=h1.1;omega
 ·exact absurd (h1.2 j hj) gv
 ·omega
theorem Gu {w:Sl Sound}{e:Int}(h:Yl w e):e=0↔wOk w:=by
 rcases h with⟨h1,h2⟩ | ⟨h1,⟨i,hi,hv⟩,h2⟩ | ⟨h1,h2⟩
 ·exact⟨fun h=>by omega,fun h=>by have:=h.1;omega⟩
 ·exact⟨fun h=>by omega,fun h=>absurd (h.2 i hi) hv⟩
 ·exact⟨fun _=>h1,fun _=>h2⟩
theorem Un {N:Nat}(hN:1000<=N){w:Sl Sound}(hw:∀i,i<w.n->okS (w.g i))(V:Sound->Option Bool)(hV:∀p m:BitVec 32,V (sOf p m)=some (vB p m)) :∃e,(if (decide (32<(w.n:Int))) then
 some (11:Int)
 else
  R5 N (fun self1 (x1:Int)=>
   if (decide (x1<(w.n:Int))) then
    if ((0:Int)<=x1/\x1<(w.n:Int))then
     (V (w.g x1.toNat)).bind fun y3=>
     if (!y3) then
      some 14
     else
      self1 (wrap .i64 (x1+1))
    else none
   else
    some 0
   ) 0)=some e/\Yl w e:=by
 by_cases hn:32<w.n
 ·exact ifT (by simp;omega) ⟨11,rfl,.inl ⟨hn,rfl⟩⟩
 refine ifF (by simp;omega) ?_;refine BD (fun i x1=>x1=(i:Int)/\∀j,j<i->vS (w.g j)) w.n _ (by omega) ⟨rfl,fun j hj=>absurd hj (by omega)⟩ ?_;rintro self i x1 hi ⟨rfl,h⟩ hs;by_cases hl:i<w.n
 ·obtain⟨p,m,he⟩:=hw i hl;refine ifT (by simp;omega) (ifT (by omega) (B4 (by rw[AY3,he];exact hV p m) ?_));cases hb:vB p m
  ·refine ifT rfl ⟨14,rfl,.inr (.inl ⟨by omega,⟨i,hl,fun hv=>?_⟩,rfl⟩)⟩
   have:=(WH he).1 hv;rw[hb]at this;cases this
  ·refine ifF (by simp) (hs hl _ ⟨C0 (by omega),fun j hj=>?_⟩);by_cases e:j=i
   ·subst e;exact (WH he).2 hb
   ·exact h j (by omega)
 ·exact ifF (by simp;omega) ⟨0,rfl,.inr (.inr ⟨⟨by omega,fun j hj=>h j (by omega)⟩,rfl⟩)⟩
theorem Ny {N:Nat}(hN:1000<=N){w:Sl Sound}(hw:∀i,i<w.n->okS (w.g i)):∃e,N9 N w=some e/\Yl w e:=
 Un hN hw (Bb N) fun p m=>Uj p m
theorem GJ {N:Nat}(hN:1000<=N){w:Sl Sound}(hw:∀i,i<w.n->okS (w.g i)):∃e,W1 N w=some e/\Yl w e:=
 Un hN hw (Q7 N) fun p m=>Qb p m
theorem Ym {N:Nat}(hN:2000<=N){p:Pat}(hp:okPS p){w:Sl Sound}(hw:∀i,i<w.n->okS (w.g i)):∃e,CV N p w=some e/\(e=0↔chk 40 [p]/\wOk w):=by
 unfold CV;obtain⟨e,he,hc⟩:=Nv hN hp;refine B4 he ?_;by_cases h0:e=0
 ·obtain⟨e2,he2,hw2⟩:=GJ (N:=N) (by omega) hw;exact ifT (by simp[h0]) (B4 he2 ⟨e2,rfl,(Gu hw2).trans ⟨fun h=>⟨hc.1 h0,h⟩,fun h=>h.2⟩⟩)
 ·exact ifF (by simp[h0]) ⟨e,rfl,fun h=>absurd h h0,fun h=>absurd (hc.2 h.1) h0⟩
theorem WL {N:Nat}(hN:3000<=N){p:Pat}(hp:okPS p){w:Sl Sound}(hw:∀i,i<w.n->okS (w.g i))(at_:Int) :∃r,Co N p w at_=some r/\(0<r.1.n↔chk 40 [p]/\wOk w/\0<=at_/\at_<=w.n/\∃a,a<=w.n/\PR w p a at_.toNat):=by
 unfold Co;obtain⟨e,he,h1⟩:=Ym (N:=N) (by omega) hp hw;refine B4 he ?_;by_cases h0:e=0
 case neg=>exact ifT (by simp[h0]) ⟨_,rfl,fun h=>absurd h (by show ¬ 0<0;omega),fun h=>absurd (h1.2 ⟨h.1,h.2.1⟩) h0⟩
 refine ifF (by simp[h0]) ?_;obtain⟨hc,hok⟩:=h1.1 h0;have hn:=hok.1;by_cases hat:at_<0 \/ (w.n:Int)<at_
 ·exact ifT (by simpa using hat) ⟨_,rfl,fun h=>absurd h (by show ¬ 0<0;omega),fun h=>by omega⟩
 refine ifF (by simpa using hat) ?_;obtain⟨k,rfl⟩:∃k:Nat,at_=(k:Int):=⟨at_.toNat,by omega⟩;obtain⟨t,et,tn,hT⟩:=Ns (N:=1000) (by omega) hn 40 p (Nu 40 [p] (AZ0 _) hc p (by simp)) N (by omega);refine B4 et ?_;rw[AY3];refine P6 (fun i x2 x3=>x3=(i:Int)/\x2.n<=i/\(0<x2.n ↔ ∃a,a<i/\PR w p a k)) (w.n+1) _ (by omega) ⟨rfl,AZ0 _,fun h=>absurd h (by show ¬ 0<0;omega),fun⟨a,h,_⟩=>absurd h (by omega)⟩ ?_;rintro self i x2 x3 hi ⟨rfl,g1,g2⟩ hs2;by_cases hl:i<=w.n
 ·refine ifT (by simp;omega) (ifT (by omega) ?_);rw[AY3];have hb:=hT.bit hl (b:=k) (by omega);by_cases hP:PR w p i k
  ·refine ifT (hb.2 ⟨by omega,hP⟩) (ifT (by show (x2.n+1)*8<=_/\x2.n+1<=_;omega) (hs2 (by omega) _ _ ⟨C0 (by omega),by show x2.n+1<=_;omega,fun _=>⟨i,by omega,hP⟩,fun _=>by show 0<x2.n+1;omega⟩))
  ·refine ifF (fun h=>hP (hb.1 h).2) (hs2 (by omega) _ _ ⟨C0 (by omega),by omega,fun h=>?_,fun⟨a,ha,h⟩=>?_⟩)
   ·obtain⟨a,ha,h'⟩:=g2.1 h;exact⟨a,by omega,h'⟩
   ·by_cases e2:a=i
    ·subst e2;exact absurd h hP
    ·exact g2.2 ⟨a,by omega,h⟩
 ·refine ifF (by simp;omega) ⟨_,rfl,fun h=>?_,fun h=>?_⟩
  ·obtain⟨a,ha,h'⟩:=g2.1 h;exact⟨hc,hok,by omega,by omega,a,by omega,h'⟩
  ·obtain⟨a,ha,h'⟩:=h.2.2.2.2;exact g2.2 ⟨a,by omega,h'⟩
theorem Am4 {N:Nat}(hN:3000<=N){p:Pat}(hp:okPS p){w:Sl Sound}(hw:∀i,i<w.n->okS (w.g i))(at_:Int) :∃r,Ez N p w at_=some r/\(0<r.1.n↔chk 40 [p]/\wOk w/\0<=at_/\at_<=w.n/\∃b,b<=w.n/\PR w p at_.toNat b):=by
 unfold Ez;obtain⟨e,he,h1⟩:=Ym (N:=N) (by omega) hp hw;refine B4 he ?_;by_cases h0:e=0
 case neg=>exact ifT (by simp[h0]) ⟨_,rfl,fun h=>absurd h (by show ¬ 0<0;omega),fun h=>absurd (h1.2 ⟨h.1,h.2.1⟩) h0⟩
 refine ifF (by simp[h0]) ?_;obtain⟨hc,hok⟩:=h1.1 h0;have hn:=hok.1;by_cases hat:at_<0 \/ (w.n:Int)<at_
 ·exact ifT (by simpa using hat) ⟨_,rfl,fun h=>absurd h (by show ¬ 0<0;omega),fun h=>by omega⟩
 refine ifF (by simpa using hat) ?_;obtain⟨k,rfl⟩:∃k:Nat,at_=(k:Int):=⟨at_.toNat,by omega⟩;obtain⟨t,et,tn,hT⟩:=Ns (N:=1000) (by omega) hn 40 p (Nu 40 [p] (AZ0 _) hc p (by simp)) N (by omega);refine B4 et ?_;rw[AY3];refine P6 (fun i x2 x3=>x3=(i:Int)/\x2.n<=i/\(0<x2.n ↔ ∃b,b<i/\PR w p k b)) (w.n+1) _ (by omega) ⟨rfl,AZ0 _,fun h=>absurd h (by show ¬ 0<0;omega),fun⟨a,h,_⟩=>absurd h (by omega)⟩ ?_;rintro self i x2 x3 hi ⟨rfl,g1,g2⟩ hs2;by_cases hl:i<=w.n
 ·refine ifT (by simp;omega) (ifT (by omega) ?_);have hb:=hT.bit (a:=k) (by omega) (b:=i) (by omega);by_cases hP:PR w p k i
  ·refine ifT (hb.2 ⟨by omega,hP⟩) (ifT (by show (x2.n+1)*8<=_/\x2.n+1<=_;omega) (hs2 (by omega) _ _ ⟨C0 (by omega),by show x2.n+1<=_;omega,fun _=>⟨i,by omega,hP⟩,fun _=>by show 0<x2.n+1;omega⟩))
  ·refine ifF (fun h=>hP (hb.1 h).2) (hs2 (by omega) _ _ ⟨C0 (by omega),by omega,fun h=>?_,fun⟨a,ha,h⟩=>?_⟩)
   ·obtain⟨a,ha,h'⟩:=g2.1 h;exact⟨a,by omega,h'⟩
   ·by_cases e2:a=i
    ·subst e2;exact absurd h hP
    ·exact g2.2 ⟨a,by omega,h⟩
 ·refine ifF (by simp;omega) ⟨_,rfl,fun h=>?_,fun h=>?_⟩
  ·obtain⟨a,ha,h'⟩:=g2.1 h;exact⟨hc,hok,by omega,by omega,a,by omega,h'⟩
  ·obtain⟨a,ha,h'⟩:=h.2.2.2.2;exact g2.2 ⟨a,by omega,h'⟩
end Go.AM
namespace Go.AM
open Go.Proofs
def AP7 (s c:Sound):Prop:=∃p m a b:BitVec 32,s=sOf p m/\c=sOf a b/\Ad1 p m a b=true
theorem Am5 {p m a b:BitVec 32}(h:sOf p m=sOf a b):p=a/\m=b:=by have e1:(p.toNat:Int)=a.toNat:=congrArg Sound.Plus h;have e2:(m.toNat:Int)=b.toNat:=congrArg Sound.Minus h;exact⟨Bc1 (by omega),Bc1 (by omega)⟩
theorem satS_of {p m a b:BitVec 32}:AP7 (sOf p m) (sOf a b)↔Ad1 p m a b=true:=by
 constructor
 ·rintro⟨p',m',a',b',h1,h2,h3⟩;obtain⟨rfl,rfl⟩:=Am5 h1;obtain⟨rfl,rfl⟩:=Am5 h2;exact h3
 ·exact fun h=>⟨_,_,_,_,rfl,rfl,h⟩
theorem Ay9 {N:Nat}{s c:Sound}(hs:okS s)(hc:okS c):∃b,J1 N s c=some b/\(b=true↔AP7 s c):=by obtain⟨p,m,rfl⟩:=hs;obtain⟨a,b,rfl⟩:=hc;exact⟨_,AM0 p m a b,satS_of.symm⟩
theorem Az0 {N:Nat}(hN:1000<=N){s c:Sound}(hs:okS s)(hc:okS c):∃b,O9 N s c=some b/\(b=true↔AP7 s c):=by obtain⟨p,m,rfl⟩:=hs;obtain⟨a,b,rfl⟩:=hc;exact⟨_,AM1 p m a b hN,satS_of.symm⟩
def okL (l:Law):Prop:=okPS l.Left/\okPS l.Right/\∀i,i<l.If.n->okS (l.If.g i)
def arP (l:Law)(w:Sl Sound)(i:Nat):Prop:=chk 40 [l.Left]/\chk 40 [l.Right]/\wOk w/\i+l.If.n<=w.n/\(∃a,a<=w.n/\PR w l.Left a i)/\∃b,b<=w.n/\PR w l.Right (i+l.If.n) b
def Qf (l:Law)(w:Sl Sound)(i:Nat):Prop:=i+l.If.n<=w.n/\(∀j,j<l.If.n->AP7 (w.g (i+j)) (l.If.g j))/\arP l w i
def okW (w:Sl Sound):Prop:=w.n<1000/\∀i,i<w.n->okS (w.g i)
theorem Ab0 {N:Nat}(hN:3000<=N){l:Law}(hl:okL l)(hk:l.If.n<=4){w:Sl Sound}(hw:okW w)(i:Nat)(hi:i<2000) :∃b,U2 N (i:Int) l w=some b/\(b=true↔arP l w i):=by
 unfold U2;obtain⟨y1,e1,h1⟩:=Aa9 (N:=N) hN hl.1 (w:=w) ⟨by have:=hw.1;omega,by have:=hw.1;omega⟩ hw.2 (i:Int);refine B4 e1 ?_;rw[AY3]at h1;by_cases h0:y1.1.n=0
 ·refine ifT (by simp[h0]) ⟨false,rfl,by simp,fun h=>?_⟩
  have:=h1.2 ⟨h.1,h.2.2.1,by omega,by have:=h.2.2.2.1;omega,h.2.2.2.2.1⟩
  omega
 ·refine ifF (by simp;omega) ?_;rw[Dy (by omega)];obtain⟨y2,e2,h2⟩:=Ay8 (N:=N) hN hl.2.1 (w:=w) ⟨by have:=hw.1;omega,by have:=hw.1;omega⟩ hw.2 ((i+l.If.n:Nat):Int);rw[AY3]at h2;refine B4 e2 ⟨_,rfl,?_⟩;have h1:=h1.1 (by omega);rw[decide_eq_true_eq];constructor
  ·intro h;have h2:=h2.1 (by omega);exact⟨h1.1,h2.1,h1.2.1,by omega,h1.2.2.2.2,h2.2.2.2.2⟩
  ·intro h
   have:=h2.2 ⟨h.2.1,h.2.2.1,by omega,by have:=h.2.2.2.1;omega,h.2.2.2.2.2⟩
   omega
theorem RI {N:Nat}(hN:3000<=N){l:Law}(hl:okL l)(hk:l.If.n<=4){w:Sl Sound}(hw:okW w)(i:Nat)(hi:i<2000) :∃b,Ar N l w (i:Int)=some b/\(b=true↔Qf l w i):=by
 unfold Ar;rw[Dy (by omega)];by_cases hn:w.n<i+l.If.n
 ·exact ifT (by simp;omega) ⟨false,rfl,by simp,fun h=>by have:=h.1;omega⟩
 refine ifF (by simp;omega) ?_;refine BD (fun j x1=>x1=(j:Int)/\∀k,k<j->AP7 (w.g (i+k)) (l.If.g k)) l.If.n _ (by omega) ⟨rfl,fun k hk=>absurd hk (by omega)⟩ ?_;rintro self j x1 hj ⟨rfl,h⟩ hs;by_cases hlt:j<l.If.n
 ·rw[Dy (by omega)];refine ifT (by simp;omega) (ifT (by omega) ?_);obtain⟨b,eb,hb⟩:=Az0 (N:=N) (by omega) (hw.2 (i+j) (by omega)) (hl.2.2 j hlt);refine B4 (by rw[AY3,AY3];exact eb) ?_;cases b
  ·refine ifT rfl ⟨false,rfl,by simp,fun h2=>?_⟩
   have:=hb.2 (h2.2.1 j hlt);cases this
  ·refine ifF (by simp) (hs hlt _ ⟨C0 (by omega),fun k hk2=>?_⟩);by_cases e:k=j
   ·subst e;exact hb.1 rfl
   ·exact h k (by omega)
 ·refine ifF (by simp;omega) ?_;obtain⟨y1,e1,h1⟩:=WL (N:=N) hN hl.1 (w:=w) hw.2 (i:Int);obtain⟨y2,e2,h2⟩:=Am4 (N:=N) hN hl.2.1 (w:=w) hw.2 ((i+l.If.n:Nat):Int);rw[AY3]at h1 h2;refine B4 e1 (B4 e2 ⟨_,rfl,?_⟩);simp only[AY9,decide_eq_true_eq];constructor
  ·rintro⟨g1,g2⟩;have h1:=h1.1 (by omega);have h2:=h2.1 (by omega);exact⟨by omega,fun k hk2=>h k (by omega),h1.1,h2.1,h1.2.1,by omega,h1.2.2.2.2,h2.2.2.2.2⟩
  ·intro g;have a1:=h1.2 ⟨g.2.2.1,g.2.2.2.2.1,by omega,by omega,g.2.2.2.2.2.2.1⟩;have a2:=h2.2 ⟨g.2.2.2.1,g.2.2.2.2.1,by omega,by omega,g.2.2.2.2.2.2.2⟩;exact⟨by omega,by omega⟩
end Go.AM
