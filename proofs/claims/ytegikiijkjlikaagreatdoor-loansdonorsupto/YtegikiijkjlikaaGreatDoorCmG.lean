/- What a law's walk and its plain proof need, part 7: no condition of its own. -/
import Derived.Test.YtegikiijkjlikaaGreatDoorCmF
import Derived.Test.YtegikiijkjlikaaGreatDoorCmE
set_option linter.defProp false
set_option linter.unusedSimpArgs false
set_option linter.unusedVariables false
set_option linter.unusedSectionVars false
set_option linter.unusedVariables false
set_option linter.unusedSectionVars false
namespace Go.AM
open IntKind (wrap)
def AT2:=@BitVec.getLsbD_or
def AW9:=@BitVec.getLsbD_not
def AZ9:=@Classical.axiomOfChoice
def Ba3:=@List.reverse_append
def Bb1:=@Bool.or_eq_false_iff
def Bc5:=@List.mem_range'_1
def Bd8:=@List.filter_cons_of_pos
def Bd9:=@List.filter_cons_of_neg
def Be8:=@Bool.not_eq_true
def Be9:=@List.mem_reverse
def Bf6:=@BitVec.getLsbD_zero
def Bg7:=@Nat.testBit_two_pow_mul
def Bh2:=@Nat.testBit_lt_two_pow
def Bh3:=@List.filter_eq_nil_iff
def Bh4:=@List.reverse_singleton
def Bh9:=@Bool.and_eq_false_iff
def Bi0:=@List.singleton_append
def Bi1:=@List.mem_append
def Bi2:=@List.length_filter_le
def Bi5:=@BitVec.getLsbD_of_ge
def Bj0:=@Nat.div_eq_zero_iff
def Bj9:=@Nat.lt_of_le_of_lt
open Go.Proofs
set_option maxRecDepth 10000
set_option maxHeartbeats 2000000
variable {S:Br}(hS:G9 S Tryz.prog) (hL:Vi S)
include hS hL
def FZ (N:Nat)(p_c:Int):Option Bool:=
 some (((((decide (97<=p_c))&&(decide (p_c<=122)))||((decide (65<=p_c))&&(decide (p_c<=90))))||((decide (48<=p_c))&&(decide (p_c<=57))))||(p_c==45))
theorem Th {N:Nat}{p_c:Int}   {y:Bool}(h:FZ N p_c=some y) :FunO S JT [.p (pI .u8 p_c)] [] (pB y) ([]) []:=by unfold FZ at h;refine A1 hS Sv ?_;refine kB hS (A4 hS) trivial trivial 23 (.o (.o (.o (.n (.a (decide (97<=p_c))) (.a (decide (p_c<=122)))) (.n (.a (decide (65<=p_c))) (.a (decide (p_c<=90))))) (.n (.a (decide (48<=p_c))) (.a (decide (p_c<=57))))) (.a (p_c==45))) ?_;cases h;exact kR hS
def CG (N:Nat)(p_s:Str):Option Bool:=
 U3 N (fun self1 (x1:Int)=>
  if (decide (x1<(p_s.length:Int)))=true then
   if ((0:Int)<=x1/\x1<(p_s.length:Int))then
    (FZ N (Z4 p_s x1)).bind fun y3=>
    if (!y3)=true then
     some false
    else
     self1 (wrap .i64 (x1+1))
   else none
  else
   some ((decide (1<=(p_s.length:Int)))&&(decide ((p_s.length:Int)<=24)))
  ) 0
theorem Pe {N:Nat}{p_s:Str}   {y:Bool}(h:CG N p_s=some y) :FunO S OJ [.p (.str p_s)] [] (pB y) ([]) []:=by
 unfold CG at h;refine A1 hS Yv ?_;refine K4 hS trivial h (fun x1=>⟨[(3,pN x1),(0,.p (.str p_s))],[]⟩) (ids:=[]) (fun _ _ _ _ _ self1 x1 hb1 h=>?_);refine kI hS h (fun h=>?_) (fun h=>?_)
 ·obtain⟨c8,h⟩:=D8 h;obtain⟨y3,e3,h⟩:=B7 h;refine B8 hS [] c8 (Th hS hL e3) ?_;refine kI hS h (fun h=>?_) (fun h=>?_)
  ·cases h;exact kR hS
  ·exact hb1 _ [] _ (wrap .i64 (x1+1)) trivial h
 ·refine kB hS (A4 hS) trivial trivial 4 (.n (.a (decide (1<=(p_s.length:Int)))) (.a (decide ((p_s.length:Int)<=24)))) ?_;cases h;exact kR hS
def AG (N:Nat)(p_t:Sl DF):Option Int:=
 if ((decide ((p_t.n:Int)<1))=false->((decide (63<(p_t.n:Int)))=false->((0:Int)<=0/\0<(p_t.n:Int))))then
  if (((decide ((p_t.n:Int)<1))||(decide (63<(p_t.n:Int))))||((p_t.g 0).Parent != (-1)))=true then
   some 16
  else
   U3 N (fun self3 (x3:Int)=>
    if (decide (x3<(p_t.n:Int)))=true then
     lt (fun (z3:Bool)=>
      if z3=true then
       some 16
      else
       U3 N (fun self4 (x7:Int)=>
        if (decide (x7<x3))=true then
         if (((0:Int)<=x7/\x7<(p_t.n:Int))/\((0:Int)<=x3/\x3<(p_t.n:Int)))then
          if (((p_t.g x7.toNat).Name==(p_t.g x3.toNat).Name) != false)=true then
           some 16
          else
           self4 (wrap .i64 (x7+1))
         else none
        else
         self3 (wrap .i64 (x3+1))
        ) 0
      ) fun k3=>
      if (decide (0<x3))=true then
       if ((0:Int)<=x3/\x3<(p_t.n:Int))then
        if (decide ((p_t.g x3.toNat).Parent<0))=true then
         k3 true
        else
         if ((0:Int)<=x3/\x3<(p_t.n:Int))then
          if (decide (x3<=(p_t.g x3.toNat).Parent))=true then
           k3 true
          else
           if ((0:Int)<=x3/\x3<(p_t.n:Int))then
            (CG N (p_t.g x3.toNat).Name).bind fun y11=>
            k3 (!y11)
           else none
         else none
       else none
      else
       if ((0:Int)<=x3/\x3<(p_t.n:Int))then
        (CG N (p_t.g x3.toNat).Name).bind fun y12=>
        k3 (!y12)
       else none
    else
     some 0
    ) 0
 else none
theorem MC {N:Nat}{p_t:Sl DF}   {y:Int}(h:AG N p_t=some y) :FunO S LN [.p (vSl 2 U4 p_t)] [] (pN y) ([]) []:=by
 unfold AG at h;refine A1 hS UJ ?_;obtain⟨c1,h⟩:=D8 h;refine kB hS (A4 hS) trivial c1 11 (.o (.o (.a (decide ((p_t.n:Int)<1))) (.a (decide (63<(p_t.n:Int))))) (.a ((p_t.g 0).Parent != (-1)))) ?_;refine kI hS h (fun h=>?_) (fun h=>?_)
 ·cases h;exact kR hS
 ·refine K4 hS trivial h (fun x3=>⟨[(3,pN x3),(0,.p (vSl 2 U4 p_t))],[]⟩) (ids:=[]) (fun _ _ _ _ _ self3 x3 hb5 h=>?_);refine kI hS h (fun h=>?_) (fun h=>?_)
  ·refine HF hS trivial (A4 hS) h 0 (fun z3=>⟨[(53,pB z3),(3,pN x3),(0,.p (vSl 2 U4 p_t))],[]⟩) (fun M3 k3 hb6 h=>?_) (fun z3 h=>?_)
   ·refine kG hS h (fun h=>?_) (fun h=>?_)
    ·obtain⟨c71,h⟩:=D8 h;refine CT hS c71 (b:=decide ((p_t.g x3.toNat).Parent<0)) (fun c72=>?_) (fun c72=>?_)
     ·replace h:=itT c72 h;exact hb6 _ [] _ true trivial h
     ·replace h:=itF c72 h;obtain⟨c73,h⟩:=D8 h;refine CT hS c73 (b:=decide (x3<=(p_t.g x3.toNat).Parent)) (fun c74=>?_) (fun c74=>?_)
      ·replace h:=itT c74 h;exact hb6 _ [] _ true trivial h
      ·replace h:=itF c74 h;obtain⟨c75,h⟩:=D8 h;obtain⟨y11,e11,h⟩:=B7 h;refine B8 hS [] c75 (Pe hS hL e11) ?_;exact hb6 _ [] _ (!y11) trivial h
    ·obtain⟨c76,h⟩:=D8 h;obtain⟨y12,e12,h⟩:=B7 h;refine B8 hS [] c76 (Pe hS hL e12) ?_;exact hb6 _ [] _ (!y12) trivial h
   ·refine kI hS h (fun h=>?_) (fun h=>?_)
    ·cases h;exact kR hS
    ·refine K4 hS trivial h (fun x7=>⟨[(4,pN x7),(3,pN x3),(0,.p (vSl 2 U4 p_t))],[]⟩) (ids:=[]) (fun _ _ _ _ _ self4 x7 hb7 h=>?_);refine kI hS h (fun h=>?_) (fun h=>?_)
     ·refine E1 hS trivial [2,4,7,9] ?_;obtain⟨c85,h⟩:=D8 h;refine I3 c85 ?_;refine kI hS h (fun h=>?_) (fun h=>?_)
      ·cases h;exact kR hS
      ·exact hb7 _ [] _ (wrap .i64 (x7+1)) trivial h
     ·exact hb5 _ [] _ (wrap .i64 (x3+1)) trivial h
  ·cases h;exact kR hS
def Gu (N:Nat)(p_t:Sl DF)(p_v:Int):Option Int:=
 (AG N p_t).bind fun y1=>
 if ((y1==0)&&((decide (p_v<0))||(decide ((p_t.n:Int)<=p_v))))=true then
  some 3
 else
  some y1
theorem YY {N:Nat}{p_t:Sl DF}{p_v:Int}   {y:Int}(h:Gu N p_t p_v=some y) :FunO S OG [.p (vSl 2 U4 p_t),pN p_v] [] (pN y) ([]) []:=by
 unfold Gu at h;refine A1 hS Yr ?_;refine kC hS h (MC hS hL) (fun y1 h=>?_);refine kB hS (A4 hS) trivial trivial 9 (.n (.a (y1==0)) (.o (.a (decide (p_v<0))) (.a (decide ((p_t.n:Int)<=p_v))))) ?_;refine kI hS h (fun h=>?_) (fun h=>?_)
 ·cases h;exact kR hS
 ·cases h;exact kR hS
def Cd (rec:(Sl DF)->Int->Option (Sl Int))(N:Nat)(p_t:Sl DF)(p_v:Int):Option (Sl Int):=
 if (p_v==0)=true then
  some (Sl.of [0]:Sl Int)
 else
  if ((0:Int)<=p_v/\p_v<(p_t.n:Int))then
   (rec p_t (p_t.g p_v.toNat).Parent).bind fun y1=>
   if ((y1.n+(Sl.of [p_v]:Sl Int).n)*8<=140737488355328/\y1.n+(Sl.of [p_v]:Sl Int).n<=140737488355328)then
    some (y1.push p_v)
   else none
  else none
def En:Nat->(Sl DF)->Int->Option (Sl Int)
 |0=>fun _ _=>none
 |N+1=>Cd (En N) N
theorem VD {N:Nat}{rec:(Sl DF)->Int->Option (Sl Int)}(hrec:∀{p_t:Sl DF}{p_v:Int}{y:Sl Int},rec p_t p_v=some y->FunO S Gp [.p (vSl 2 U4 p_t),pN p_v] [] (.vec 0) ([.vec C4 1 y.n (fun i=>cI .i64 (y.g i)) true]) []){p_t:Sl DF}{p_v:Int}{y:Sl Int}(h:Cd rec N p_t p_v=some y) :FunO S Gp [.p (vSl 2 U4 p_t),pN p_v] [] (.vec 0) ([.vec C4 1 y.n (fun i=>cI .i64 (y.g i)) true]) []:=by
 unfold Cd at h;refine A1 hS Ys ?_;refine kI hS h (fun h=>?_) (fun h=>?_)
 ·obtain rfl:=B5 h;exact A6 hS (rfl:true=true) ⟨[(4,.vec 8000)],[(8000,.vec C4 1 (Sl.of [0]:Sl Int).n (fun i=>cI .i64 ((Sl.of [0]:Sl Int).g i)) true)]⟩ [8000] (ids:=[(8000,8000)]) ⟨rfl,rfl,rfl⟩ (hle:=klR [(0,.fn 1 (Sl.of [0]:Sl Int).n (D4 [pI .i64 0] [(0,cI .i64 0)]) (fun i=>cI .i64 ((Sl.of [0]:Sl Int).g i)))] (al1 ⟨rfl,(fun i hi=>match i,hi with|0,_=>rfl|_+1,hi=>absurd hi (by omega))⟩ al0))
 ·obtain⟨c2,h⟩:=D8 h;obtain⟨y1,e1,h⟩:=B7 h;refine B8 hS [] c2 (hrec e1) ?_;obtain⟨c3,h⟩:=D8 h;obtain rfl:=B5 h;exact A6 hS (And.intro (rfl:true=true) c3) ⟨[(4,.vec 18000)],[(18000,.vec C4 1 (y1.push p_v).n (fun i=>cI .i64 ((y1.push p_v).g i)) true)]⟩ [18000] (ids:=[(18000,18000)]) ⟨rfl,rfl,rfl⟩ (hle:=klR [(0,.fn (y1.n+1) (y1.push p_v).n (R9 y1.n (fun i=>cI .i64 (y1.g i)) (D4 [pI .i64 0] [(0,cI .i64 p_v)])) (fun i=>cI .i64 ((y1.push p_v).g i)))] (al1 ⟨rfl,Fc (c:=cI .i64) (v:=y1) (x:=p_v) (z:=[(pI .i64 0)]) same rfl rfl⟩ al0))
theorem YZ {N:Nat}{p_t:Sl DF}{p_v:Int}{y:Sl Int}(h:En N p_t p_v=some y) :FunO S Gp [.p (vSl 2 U4 p_t),pN p_v] [] (.vec 0) ([.vec C4 1 y.n (fun i=>cI .i64 (y.g i)) true]) []:=by
 induction N generalizing p_t p_v y with
 |zero=>cases (show (none:Option (Sl Int))=some y from h)
 |succ N ih=>exact VD hS hL (fun e=>ih e) h
def Eo (N:Nat)(p_t:Sl DF)(p_v:Int):Option ((Sl Int)×Int):=
 (Gu N p_t p_v).bind fun y1=>
 if (y1 != 0)=true then
  some ((Sl.nil:Sl Int),y1)
 else
  (En N p_t p_v).bind fun y2=>
  some (y2,0)
theorem Za {N:Nat}{p_t:Sl DF}{p_v:Int}   {y:(Sl Int)×Int}(h:Eo N p_t p_v=some y) :FunO S OE [.p (vSl 2 U4 p_t),pN p_v] [] (.tup [.vec 0,pN y.2]) ([.vec C4 1 y.1.n (fun i=>cI .i64 (y.1.g i)) true]) []:=by
 unfold Eo at h;refine A1 hS Yo ?_;refine kC hS h (YY hS hL) (fun y1 h=>?_);refine kI hS h (fun h=>?_) (fun h=>?_)
 ·obtain rfl:=B5 h;exact A6 hS trivial ⟨[(5,pN y1),(4,.vec 5700)],[(5700,.vec C4 1 (Sl.nil:Sl Int).n (fun i=>cI .i64 ((Sl.nil:Sl Int).g i)) true)]⟩ [5700] (ids:=[]) ⟨rfl,rfl,rfl⟩
 ·refine kC hS h (YZ hS hL) (fun y2 h=>?_);obtain rfl:=B5 h;exact A6 hS trivial ⟨[(5,pN 0),(4,.vec 16000)],[(16000,.vec C4 1 y2.n (fun i=>cI .i64 (y2.g i)) true)]⟩ [16000] (ids:=[(16000,16000)]) ⟨rfl,rfl,rfl⟩
def X0 (rec:B1->Int->Option (Sl Int))(N:Nat)(p_h:B1)(p_v:Int):Option (Sl Int):=
 if (decide (p_v<0))=true then
  some (Sl.nil:Sl Int)
 else
  if ((0:Int)<=p_v/\p_v<(p_h.Tree.n:Int))then
   (rec p_h (p_h.Tree.g p_v.toNat).Parent).bind fun y1=>
   if (((0:Int)<=p_v/\p_v<(p_h.On.n:Int))/\((y1.n+(p_h.On.g p_v.toNat).n)*8<=140737488355328/\y1.n+(p_h.On.g p_v.toNat).n<=140737488355328))then
    some (y1.app (p_h.On.g p_v.toNat))
   else none
  else none
def AO:Nat->B1->Int->Option (Sl Int)
 |0=>fun _ _=>none
 |N+1=>X0 (AO N) N
theorem VE {N:Nat}{rec:B1->Int->Option (Sl Int)}(hrec:∀{p_h:B1}{p_v:Int}{y:Sl Int},rec p_h p_v=some y->FunO S Gn [.p (.agg (B2 p_h)),pN p_v] [] (.vec 0) ([.vec C4 1 y.n (fun i=>cI .i64 (y.g i)) true]) []){p_h:B1}{p_v:Int}{y:Sl Int}(h:X0 rec N p_h p_v=some y) :FunO S Gn [.p (.agg (B2 p_h)),pN p_v] [] (.vec 0) ([.vec C4 1 y.n (fun i=>cI .i64 (y.g i)) true]) []:=by
 unfold X0 at h;refine A1 hS Yp ?_;refine N3 hS trivial 4 3000 (B2 p_h) ?_;refine kI hS h (fun h=>?_) (fun h=>?_)
 ·obtain rfl:=B5 h;exact A6 hS trivial ⟨[(4,.vec 5700)],[(5700,.vec C4 1 (Sl.nil:Sl Int).n (fun i=>cI .i64 ((Sl.nil:Sl Int).g i)) true)]⟩ [5700] (ids:=[]) ⟨rfl,rfl,rfl⟩
 ·refine E1 hS trivial [0,2,4,6,9,11,12] ?_;obtain⟨c2,h⟩:=D8 h;obtain⟨y1,e1,h⟩:=B7 h;refine Ou [] (And.intro (by decide:(3:Nat)<=3) c2) (hrec e1) ?_;obtain⟨c3,h⟩:=D8 h;refine I3 c3 ?_;obtain rfl:=B5 h;exact A6 hS trivial ⟨[(4,.vec 21000)],[(21000,.vec C4 1 (y1.app (p_h.On.g p_v.toNat)).n (fun i=>cI .i64 ((y1.app (p_h.On.g p_v.toNat)).g i)) true)]⟩ [21000] (ids:=[(21000,21000)]) ⟨rfl,rfl,rfl⟩ (hle:=klR [(0,.fn (y1.n+(p_h.On.g p_v.toNat).n) (y1.app (p_h.On.g p_v.toNat)).n (R9 y1.n (fun i=>cI .i64 (y1.g i)) (fun i=>cI .i64 ((p_h.On.g p_v.toNat).g i))) (fun i=>cI .i64 ((y1.app (p_h.On.g p_v.toNat)).g i)))] (al1 ⟨rfl,Ya (c:=cI .i64) (v:=y1) (w:=p_h.On.g p_v.toNat) same rfl same rfl⟩ al0))
theorem Pf {N:Nat}{p_h:B1}{p_v:Int}{y:Sl Int}(h:AO N p_h p_v=some y) :FunO S Gn [.p (.agg (B2 p_h)),pN p_v] [] (.vec 0) ([.vec C4 1 y.n (fun i=>cI .i64 (y.g i)) true]) []:=by
 induction N generalizing p_h p_v y with
 |zero=>cases (show (none:Option (Sl Int))=some y from h)
 |succ N ih=>exact VE hS hL (fun e=>ih e) h
def X1 (N:Nat)(p_h:B1):Option Int:=
 (AG N p_h.Tree).bind fun y1=>
 if (y1 != 0)=true then
  some 16
 else
  if (decide (64<(p_h.Laws.n:Int)))=true then
   some 12
  else
   U3 N (fun self1 (x1:Int)=>
    if (decide (x1<(p_h.Laws.n:Int)))=true then
     if ((0:Int)<=x1/\x1<(p_h.Laws.n:Int))then
      (W2 N (p_h.Laws.g x1.toNat)).bind fun y4=>
      if (y4 != 0)=true then
       some 17
      else
       self1 (wrap .i64 (x1+1))
     else none
    else
     U3 N (fun self4 (x3:Int)=>
      if (decide (x3<(p_h.Laws.n:Int)))=true then
       U3 N (fun self5 (x5:Int)=>
        if (decide (x5<x3))=true then
         if (((0:Int)<=x3/\x3<(p_h.Laws.n:Int))/\((0:Int)<=x5/\x5<(p_h.Laws.n:Int)))then
          if (((p_h.Laws.g x3.toNat).Name==(p_h.Laws.g x5.toNat).Name) != false)=true then
           some 6
          else
           self5 (wrap .i64 (x5+1))
         else none
        else
         self4 (wrap .i64 (x3+1))
        ) 0
      else
       if ((p_h.On.n:Int) != (p_h.Tree.n:Int))=true then
        some 2
       else
        U3 N (fun self6 (x6:Int)=>
         if (decide (x6<(p_h.On.n:Int)))=true then
          (AO N p_h x6).bind fun y7=>
          if (decide (64<(y7.n:Int)))=true then
           some 2
          else
           self6 (wrap .i64 (x6+1))
         else
          U3 N (fun self9 (x8:Int)=>
           if (decide (x8<(p_h.On.n:Int)))=true then
            U3 N (fun self10 (x10:Int)=>
             if ((0:Int)<=x8/\x8<(p_h.On.n:Int))then
              if (decide (x10<((p_h.On.g x8.toNat).n:Int)))=true then
               if (((0:Int)<=x8/\x8<(p_h.On.n:Int))/\((0:Int)<=x10/\x10<((p_h.On.g x8.toNat).n:Int)))then
                if (decide (((p_h.On.g x8.toNat).g x10.toNat)<0))=true then
                 some 3
                else
                 if (((0:Int)<=x8/\x8<(p_h.On.n:Int))/\((0:Int)<=x10/\x10<((p_h.On.g x8.toNat).n:Int)))then
                  if (decide ((p_h.Laws.n:Int)<=((p_h.On.g x8.toNat).g x10.toNat)))=true then
                   some 3
                  else
                   self10 (wrap .i64 (x10+1))
                 else none
               else none
              else
               self9 (wrap .i64 (x8+1))
             else none
             ) 0
           else
            some 0
           ) 0
         ) 0
      ) 0
    ) 0
theorem Hx {N:Nat}{p_h:B1}   {y:Int}(h:X1 N p_h=some y) :FunO S LG [.p (.agg (B2 p_h))] [] (pN y) ([]) []:=by
 unfold X1 at h;refine A1 hS UD ?_;refine N3 hS trivial 2 2000 (B2 p_h) ?_;refine kC hS h (MC hS hL) (fun y1 h=>?_);refine kI hS h (fun h=>?_) (fun h=>?_)
 ·cases h;exact kR hS
 ·refine kI hS h (fun h=>?_) (fun h=>?_)
  ·cases h;exact kR hS
  ·refine K4 hS trivial h (fun x1=>⟨[(3,pN x1),(1,.p (.ptr (B2 p_h)))],[]⟩) (ids:=[]) (fun _ _ _ _ _ self1 x1 hb1 h=>?_);refine kI hS h (fun h=>?_) (fun h=>?_)
   ·obtain⟨c10,h⟩:=D8 h;obtain⟨y4,e4,h⟩:=B7 h;refine B8 hS [] (And.intro c10 (by decide:(18:Nat)<=18)) (Hu hS hL e4) ?_;refine kI hS h (fun h=>?_) (fun h=>?_)
    ·cases h;exact kR hS
    ·exact hb1 _ [] _ (wrap .i64 (x1+1)) trivial h
   ·refine K4 hS trivial h (fun x3=>⟨[(4,pN x3),(1,.p (.ptr (B2 p_h)))],[]⟩) (ids:=[]) (fun _ _ _ _ _ self4 x3 hb4 h=>?_);refine kI hS h (fun h=>?_) (fun h=>?_)
    ·refine K4 hS trivial h (fun x5=>⟨[(5,pN x5),(4,pN x3),(1,.p (.ptr (B2 p_h)))],[]⟩) (ids:=[]) (fun _ _ _ _ _ self5 x5 hb5 h=>?_);refine kI hS h (fun h=>?_) (fun h=>?_)
     ·refine E1 hS trivial [1,3,5,7,9,11] ?_;obtain⟨c40,h⟩:=D8 h;refine I3 c40 ?_;refine kI hS h (fun h=>?_) (fun h=>?_)
      ·cases h;exact kR hS
      ·exact hb5 _ [] _ (wrap .i64 (x5+1)) trivial h
     ·exact hb4 _ [] _ (wrap .i64 (x3+1)) trivial h
    ·refine kI hS h (fun h=>?_) (fun h=>?_)
     ·cases h;exact kR hS
     ·refine K4 hS trivial h (fun x6=>⟨[(6,pN x6),(1,.p (.ptr (B2 p_h)))],[]⟩) (ids:=[]) (fun _ _ _ _ _ self6 x6 hb6 h=>?_);refine kI hS h (fun h=>?_) (fun h=>?_)
      ·obtain⟨y7,e7,h⟩:=B7 h;refine B8 hS [] (by decide:(3:Nat)<=3) (Pf hS hL e7) ?_;refine kI hS h (fun h=>?_) (fun h=>?_)
       ·cases h;exact kR hS
       ·exact hb6 _ [] _ (wrap .i64 (x6+1)) trivial h
      ·refine K4 hS trivial h (fun x8=>⟨[(7,pN x8),(1,.p (.ptr (B2 p_h)))],[]⟩) (ids:=[]) (fun _ _ _ _ _ self9 x8 hb9 h=>?_);refine kI hS h (fun h=>?_) (fun h=>?_)
       ·refine K4 hS trivial h (fun x10=>⟨[(8,pN x10),(7,pN x8),(1,.p (.ptr (B2 p_h)))],[]⟩) (ids:=[]) (fun _ _ _ _ _ self10 x10 hb10 h=>?_);obtain⟨c100,h⟩:=D8 h;refine D0 hS c100 (b:=decide (x10<((p_h.On.g x8.toNat).n:Int))) (fun c101=>?_) (fun c101=>?_)
        ·replace h:=itT c101 h;refine E1 hS trivial [1,3,4,6,7,11,13,14,16,17,19] ?_;obtain⟨c102,h⟩:=D8 h;refine Uw c102 (b:=decide (((p_h.On.g x8.toNat).g x10.toNat)<0)) (fun c103=>?_) (fun c103=>?_)
         ·replace h:=itT c103 h;refine I3 trivial ?_;cases h;exact kR hS
         ·replace h:=itF c103 h;obtain⟨c104,h⟩:=D8 h;refine I3 c104 ?_;refine kI hS h (fun h=>?_) (fun h=>?_)
          ·cases h;exact kR hS
          ·exact hb10 _ [] _ (wrap .i64 (x10+1)) trivial h
        ·replace h:=itF c101 h;exact hb9 _ [] _ (wrap .i64 (x8+1)) trivial h
       ·cases h;exact kR hS
def CH (N:Nat)(p_h:B1)(p_v:Int):Option Bool:=
 some ((decide (0<=p_v))&&(decide (p_v<(p_h.Tree.n:Int))))
theorem Pg {N:Nat}{p_h:B1}{p_v:Int}   {y:Bool}(h:CH N p_h p_v=some y) :FunO S OI [.p (.agg (B2 p_h)),pN p_v] [] (pB y) ([]) []:=by unfold CH at h;refine A1 hS Yu ?_;refine kB hS (A4 hS) trivial trivial 6 (.n (.a (decide (0<=p_v))) (.a (decide (p_v<(p_h.Tree.n:Int))))) ?_;cases h;exact kR hS
def Ep (N:Nat)(p_h:B1)(p_v:Int):Option ((Sl Int)×Int):=
 (X1 N p_h).bind fun y1=>
 if (y1 != 0)=true then
  some ((Sl.nil:Sl Int),y1)
 else
  (CH N p_h p_v).bind fun y2=>
  if (!y2)=true then
   some ((Sl.nil:Sl Int),3)
  else
   (AO N p_h p_v).bind fun y3=>
   some (y3,0)
theorem Zb {N:Nat}{p_h:B1}{p_v:Int}   {y:(Sl Int)×Int}(h:Ep N p_h p_v=some y) :FunO S OF [.p (.agg (B2 p_h)),pN p_v] [] (.tup [.vec 0,pN y.2]) ([.vec C4 1 y.1.n (fun i=>cI .i64 (y.1.g i)) true]) []:=by
 unfold Ep at h;refine A1 hS Yq ?_;refine kC hS h (Hx hS hL) (fun y1 h=>?_);refine kI hS h (fun h=>?_) (fun h=>?_)
 ·obtain rfl:=B5 h;exact A6 hS trivial ⟨[(5,pN y1),(4,.vec 5700)],[(5700,.vec C4 1 (Sl.nil:Sl Int).n (fun i=>cI .i64 ((Sl.nil:Sl Int).g i)) true)]⟩ [5700] (ids:=[]) ⟨rfl,rfl,rfl⟩
 ·refine kC hS h (Pg hS hL) (fun y2 h=>?_);refine kI hS h (fun h=>?_) (fun h=>?_)
  ·obtain rfl:=B5 h;exact A6 hS trivial ⟨[(5,pN 3),(4,.vec 5700)],[(5700,.vec C4 1 (Sl.nil:Sl Int).n (fun i=>cI .i64 ((Sl.nil:Sl Int).g i)) true)]⟩ [5700] (ids:=[]) ⟨rfl,rfl,rfl⟩
  ·refine kC hS h (Pf hS hL) (fun y3 h=>?_);obtain rfl:=B5 h;exact A6 hS trivial ⟨[(5,pN 0),(4,.vec 19000)],[(19000,.vec C4 1 y3.n (fun i=>cI .i64 (y3.g i)) true)]⟩ [19000] (ids:=[(19000,19000)]) ⟨rfl,rfl,rfl⟩
def CJ (N:Nat)(p_h:B1)(p_v:Int):Option ((Sl Law)×Int):=
 (Ep N p_h p_v).bind fun y1=>
 P6 N (fun self1 (x1:Sl Law) (x2:Int)=>
  if (decide (x2<(y1.1.n:Int)))=true then
   if ((((0:Int)<=x2/\x2<(y1.1.n:Int))/\x2.toNat<y1.1.n)/\((0:Int)<=(y1.1.g x2.toNat)/\(y1.1.g x2.toNat)<(p_h.Laws.n:Int)))then
    if ((x1.n+(Sl.of [p_h.Laws.g (y1.1.g x2.toNat).toNat]:Sl Law).n)*200<=140737488355328/\x1.n+(Sl.of [p_h.Laws.g (y1.1.g x2.toNat).toNat]:Sl Law).n<=140737488355328)then
     self1 (x1.push (p_h.Laws.g (y1.1.g x2.toNat).toNat)) (wrap .i64 (x2+1))
    else none
   else none
  else
   some (x1,y1.2)
  ) (Sl.nil:Sl Law) 0
theorem Ph {N:Nat}{p_h:B1}{p_v:Int}   {y:(Sl Law)×Int}(h:CJ N p_h p_v=some y) :FunO S OD [.p (.agg (B2 p_h)),pN p_v] [] (.tup [.vec 0,pN y.2]) ([.vec H2 18 y.1.n (fun i=>A5 (y.1.g i)) true]) []:=by
 unfold CJ at h;refine A1 hS Yn ?_;refine N3 hS trivial 4 3000 (B2 p_h) ?_;obtain⟨y1,e1,h⟩:=B7 h;refine B8 hS [] (by decide:(3:Nat)<=3) (Zb hS hL e1) ?_;refine G0 hS trivial h (fun x1 x2=>⟨[(9,pN x2),(8,.vec 9500),(7,pN y1.2),(6,.vec 14000),(2,.p (.ptr (B2 p_h)))],[(14000,.vec C4 1 y1.1.n (fun i=>cI .i64 (y1.1.g i)) true),(9500,.vec H2 18 x1.n (fun i=>A5 (x1.g i)) false)]⟩) (ids:=[(14000,14000)]) (fun _ _ _ _ _ self1 x1 x2 hb1 h=>?_);refine kI hS h (fun h=>?_) (fun h=>?_)
 ·refine E1 hS trivial [2,7,8] ?_;obtain⟨c8,h⟩:=D8 h;refine Fz (And.intro (And.intro (And.intro c8.1.1 c8.1.2) c8.2) (by decide:(18:Nat)<=18)) (x:=.sl true 18 1 (D4 [.str [],pI .i64 0,pI .u32 0,pI .u32 0,.v (.bool false),pI .i64 0,pI .i64 0,I5,pI .i64 0,pI .u32 0,pI .u32 0,.v (.bool false),pI .i64 0,pI .i64 0,I5,I5,I5,pI .i64 0] [(0,A5 (p_h.Laws.g (y1.1.g x2.toNat).toNat))])) ?_;obtain⟨c9,h⟩:=D8 h;refine I3 c9 ?_;exact hb1 _ [(9500,33000),(14000,14000)] _ (x1.push (p_h.Laws.g (y1.1.g x2.toNat).toNat)) (wrap .i64 (x2+1)) trivial h (hle:=klR [(4,.fn (x1.n+1) (x1.push (p_h.Laws.g (y1.1.g x2.toNat).toNat)).n (R9 x1.n (fun i=>A5 (x1.g i)) (D4 [.str [],pI .i64 0,pI .u32 0,pI .u32 0,.v (.bool false),pI .i64 0,pI .i64 0,I5,pI .i64 0,pI .u32 0,pI .u32 0,.v (.bool false),pI .i64 0,pI .i64 0,I5,I5,I5,pI .i64 0] [(0,A5 (p_h.Laws.g (y1.1.g x2.toNat).toNat))])) (fun i=>A5 ((x1.push (p_h.Laws.g (y1.1.g x2.toNat).toNat)).g i)))] (al1 ⟨rfl,Fc (c:=A5) (v:=x1) (x:=p_h.Laws.g (y1.1.g x2.toNat).toNat) (z:=[(.str []),pI .i64 0,pI .u32 0,pI .u32 0,.v (.bool false),pI .i64 0,pI .i64 0,I5,pI .i64 0,pI .u32 0,pI .u32 0,.v (.bool false),pI .i64 0,pI .i64 0,I5,I5,I5,pI .i64 0]) same rfl rfl⟩ al0))
 ·obtain rfl:=B5 h;exact A6 hS trivial ⟨[(5,pN y1.2),(4,.vec 9500)],[(9500,.vec H2 18 x1.n (fun i=>A5 (x1.g i)) true)]⟩ [9500] (ids:=[(9500,9500)]) ⟨rfl,rfl,rfl⟩
def Gv (N:Nat)(p_h:B1)(p_w:Sl Sound):Option Int:=
 (X1 N p_h).bind fun y1=>
 if (y1 != 0)=true then
  some y1
 else
  (S4 N p_w).bind fun y2=>
  some y2
theorem Zc {N:Nat}{p_h:B1}{p_w:Sl Sound}   {y:Int}(h:Gv N p_h p_w=some y) :FunO S OH [.p (.agg (B2 p_h)),.p (vSl 2 A0 p_w)] [] (pN y) ([]) []:=by
 unfold Gv at h;refine A1 hS Yt ?_;refine kC hS h (Hx hS hL) (fun y1 h=>?_);refine kI hS h (fun h=>?_) (fun h=>?_)
 ·cases h;exact kR hS
 ·refine kC hS h (BA hS hL) (fun y2 h=>?_);cases h;exact kR hS
def Iz (N:Nat)(p_h:B1)(p_w:Sl Sound)(p_v:Int):Option ((Sl Sound)×Int):=
 (CJ N p_h p_v).bind fun y1=>
 (AN N y1.1 p_w).bind fun y2=>
 some (y2.1,y2.2)
theorem Ar8 {N:Nat}{p_h:B1}{p_w:Sl Sound}{p_v:Int}   {y:(Sl Sound)×Int}(h:Iz N p_h p_w p_v=some y) :FunO S WO [.p (.agg (B2 p_h)),.p (vSl 2 A0 p_w),pN p_v] [] (.tup [.p (vSl 2 A0 y.1),pN y.2]) ([]) []:=by unfold Iz at h;refine A1 hS Ar2 ?_;refine kC hS h (Ph hS hL) (fun y1 h=>?_);refine kC hS h (Ka hS hL) (fun y2 h=>?_);cases h;exact kR hS
def IA (N:Nat)(p_h:B1)(p_w:Sl Sound)(p_v:Int):Option ((Sl Sound)×Int):=
 (Gv N p_h p_w).bind fun y1=>
 if (y1 != 0)=true then
  some ((Sl.nil:Sl Sound),y1)
 else
  (CH N p_h p_v).bind fun y2=>
  if (!y2)=true then
   some ((Sl.nil:Sl Sound),3)
  else
   (Iz N p_h p_w p_v).bind fun y3=>
   some (y3.1,y3.2)
theorem Ar9 {N:Nat}{p_h:B1}{p_w:Sl Sound}{p_v:Int}   {y:(Sl Sound)×Int}(h:IA N p_h p_w p_v=some y) :FunO S WN [.p (.agg (B2 p_h)),.p (vSl 2 A0 p_w),pN p_v] [] (.tup [.p (vSl 2 A0 y.1),pN y.2]) ([]) []:=by
 unfold IA at h;refine A1 hS Ar1 ?_;refine kC hS h (Zc hS hL) (fun y1 h=>?_);refine kI hS h (fun h=>?_) (fun h=>?_)
 ·obtain rfl:=B5 h;exact A6 hS trivial ⟨[(7,pN y1),(6,.p (vSl 2 A0 (Sl.nil:Sl Sound)))],[]⟩ [] (ids:=[]) ⟨rfl,rfl,rfl⟩
 ·refine kC hS h (Pg hS hL) (fun y2 h=>?_);refine kI hS h (fun h=>?_) (fun h=>?_)
  ·obtain rfl:=B5 h;exact A6 hS trivial ⟨[(7,pN 3),(6,.p (vSl 2 A0 (Sl.nil:Sl Sound)))],[]⟩ [] (ids:=[]) ⟨rfl,rfl,rfl⟩
  ·refine kC hS h (Ar8 hS hL) (fun y3 h=>?_);cases h;exact kR hS
def ES (N:Nat)(p_c:Int):Option Bool:=
 some (((((decide (97<=p_c))&&(decide (p_c<=122)))||((decide (65<=p_c))&&(decide (p_c<=90))))||((decide (48<=p_c))&&(decide (p_c<=57))))||(p_c==45))
theorem QE {N:Nat}{p_c:Int}   {y:Bool}(h:ES N p_c=some y) :FunO S Ic [.p (pI .u8 p_c)] [] (pB y) ([]) []:=by unfold ES at h;refine A1 hS Qk ?_;refine kB hS (A4 hS) trivial trivial 23 (.o (.o (.o (.n (.a (decide (97<=p_c))) (.a (decide (p_c<=122)))) (.n (.a (decide (65<=p_c))) (.a (decide (p_c<=90))))) (.n (.a (decide (48<=p_c))) (.a (decide (p_c<=57))))) (.a (p_c==45))) ?_;cases h;exact kR hS
def Ce (N:Nat)(p_s:Str):Option Bool:=
 U3 N (fun self1 (x1:Int)=>
  if (decide (x1<(p_s.length:Int)))=true then
   if ((0:Int)<=x1/\x1<(p_s.length:Int))then
    (ES N (Z4 p_s x1)).bind fun y3=>
    if (!y3)=true then
     some false
    else
     self1 (wrap .i64 (x1+1))
   else none
  else
   some ((decide (0<(p_s.length:Int)))&&(decide ((p_s.length:Int)<=24)))
  ) 0
theorem Ti {N:Nat}{p_s:Str}   {y:Bool}(h:Ce N p_s=some y) :FunO S JR [.p (.str p_s)] [] (pB y) ([]) []:=by
 unfold Ce at h;refine A1 hS Ss ?_;refine K4 hS trivial h (fun x1=>⟨[(6,pN x1),(5,pN (p_s.length:Int)),(0,.p (.str p_s))],[]⟩) (ids:=[]) (fun _ _ _ _ _ self1 x1 hb1 h=>?_);refine kI hS h (fun h=>?_) (fun h=>?_)
 ·obtain⟨c8,h⟩:=D8 h;obtain⟨y3,e3,h⟩:=B7 h;refine B8 hS [] c8 (QE hS hL e3) ?_;refine kI hS h (fun h=>?_) (fun h=>?_)
  ·cases h;exact kR hS
  ·exact hb1 _ [] _ (wrap .i64 (x1+1)) trivial h
 ·refine kB hS (A4 hS) trivial trivial 4 (.n (.a (decide (0<(p_s.length:Int)))) (.a (decide ((p_s.length:Int)<=24)))) ?_;cases h;exact kR hS
def AP (N:Nat)(p_t:Sl DF):Option Int:=
 if (((p_t.n:Int)==0)||(decide (63<(p_t.n:Int))))=true then
  some 16
 else
  P6 N (fun self1 (x2:List (Str×Bool)) (x3:Int)=>
   if (decide (x3<(p_t.n:Int)))=true then
    if ((0:Int)<=x3/\x3<(p_t.n:Int))then
     lt (fun (z3:Bool)=>
      if z3=true then
       some 16
      else
       self1 (PT eqS (p_t.g x3.toNat).Name true x2) (wrap .i64 (x3+1))
      ) fun k3=>
      if (decide (x3<=(p_t.g x3.toNat).Parent))=true then
       k3 true
      else
       if (decide ((p_t.g x3.toNat).Parent<(if 0<(wrap .i64 (x3-1))then 0 else (wrap .i64 (x3-1)))))=true then
        k3 true
       else
        (Ce N (p_t.g x3.toNat).Name).bind fun y6=>
        if (!y6)=true then
         k3 true
        else
         AJ6 (CR eqS (p_t.g x3.toNat).Name x2) (
          k3 false
          ) fun v6=>
          k3 v6
    else none
   else
    some 0
   ) [] 0
theorem Tj {N:Nat}{p_t:Sl DF}   {y:Int}(h:AP N p_t=some y) :FunO S JP [.p (vSl 2 U4 p_t)] [] (pN y) ([]) []:=by
 unfold AP at h;refine A1 hS Sq ?_;refine kB hS (A4 hS) trivial trivial 4 (.o (.a ((p_t.n:Int)==0)) (.a (decide (63<(p_t.n:Int))))) ?_;refine kI hS h (fun h=>?_) (fun h=>?_)
 ·cases h;exact kR hS
 ·refine G0 hS trivial h (fun x2 x3=>⟨[(17,pN x3),(16,pN (p_t.n:Int)),(15,.p (vSl 2 U4 p_t)),(3,.mref 15000)],[(15000,.map (Oq PV.str PV.bb x2))]⟩) (ids:=[(15000,15000)]) (fun _ _ _ _ _ self1 x2 x3 hb3 h=>?_);refine kI hS h (fun h=>?_) (fun h=>?_)
  ·obtain⟨c25,h⟩:=D8 h;refine HF hS (And.intro c25 (by decide:(2:Nat)<=2)) (A4 hS) h 0 (fun z3=>⟨[(45,pB z3),(17,pN x3),(16,pN (p_t.n:Int)),(15,.p (vSl 2 U4 p_t)),(5,.reg 6000 0),(3,.mref 15000)],[(15000,.map (Oq PV.str PV.bb x2)),(6000,.cells [pN (p_t.g x3.toNat).Parent,.p (.str (p_t.g x3.toNat).Name)])]⟩) (fun M3 k3 hb4 h=>?_) (fun z3 h=>?_)
   ·refine kG hS h (fun h=>?_) (fun h=>?_)
    ·exact hb4 _ [(6000,6000),(15000,15000)] _ true trivial h
    ·refine kG hS h (fun h=>?_) (fun h=>?_)
     ·exact hb4 _ [(6000,6000),(15000,15000)] _ true trivial h
     ·refine kC hS h (Ti hS hL) (fun y6 h=>?_);refine kG hS h (fun h=>?_) (fun h=>?_)
      ·exact hb4 _ [(6000,6000),(15000,15000)] _ true trivial h
      ·rcases o6:CR eqS (p_t.g x3.toNat).Name x2 with _|v6
       ·replace h:=optN o6 h;refine KD hS trivial (kt:=EN) (e:=Ax7) (key:=PV.str (p_t.g x3.toNat).Name) (es:=Oq PV.str PV.bb x2) (x:=.v (.bool false)) (b:=false) (fd:=none) ((Fy (kP:=PV.str) (vP:=PV.bb) (eq:=eqS) (fun _ _=>by kernel_rfl) (p_t.g x3.toNat).Name x2).trans (by rw[o6];rfl)) trivial ?_;exact hb4 _ [(6000,6000),(15000,15000)] _ false trivial h
       ·replace h:=optS o6 h;refine KD hS trivial (kt:=EN) (e:=Ax7) (key:=PV.str (p_t.g x3.toNat).Name) (es:=Oq PV.str PV.bb x2) (x:=PV.bb v6) (b:=true) (fd:=some (PV.bb v6)) ((Fy (kP:=PV.str) (vP:=PV.bb) (eq:=eqS) (fun _ _=>by kernel_rfl) (p_t.g x3.toNat).Name x2).trans (by rw[o6];rfl)) trivial ?_;exact hb4 _ [(6000,6000),(15000,15000)] _ v6 trivial h
   ·refine kI hS h (fun h=>?_) (fun h=>?_)
    ·cases h;exact kR hS
    ·refine PX hS trivial (kt:=EN) (key:=PV.str (p_t.g x3.toNat).Name) (y:=PV.bb true) (es:=Oq PV.str PV.bb x2) (KC (kP:=PV.str) (vP:=PV.bb) (eq:=eqS) (fun _ _=>by kernel_rfl) (p_t.g x3.toNat).Name true x2) trivial ?_;exact hb3 _ [(15000,15000)] _ (PT eqS (p_t.g x3.toNat).Name true x2) (wrap .i64 (x3+1)) trivial h
  ·cases h;exact kR hS
def X2 (N:Nat)(p_h:B1):Option Int:=
 if ((0:Int)<=(p_h.On.n:Int)/\(p_h.On.n:Int)<=(p_h.On.n:Int)/\(p_h.On.n:Int)*8<=140737488355328/\(p_h.On.n:Int)<=140737488355328)then
  AC6 N (fun self3 (x4:Sl Int) (x5:Bool) (x6:Int)=>
   if (decide (x6<(p_h.On.n:Int)))=true then
    if ((((0:Int)<=x6/\x6<(p_h.On.n:Int))/\((0:Int)<=x6/\x6<(x4.n:Int)))/\x6.toNat<x4.n)then
     if ((0:Int)<=x6/\x6<(p_h.Tree.n:Int))then
      lt (fun (z3:Sl Int)=>
       if (((0:Int)<=x6/\x6<(z3.n:Int))/\x6.toNat<z3.n)then
        if (decide (64<(z3.g x6.toNat)))=true then
         some 2
        else
         P6 N (fun self4 (x11:Bool) (x12:Int)=>
          if (decide (x12<((p_h.On.g x6.toNat).n:Int)))=true then
           if ((0:Int)<=x12/\x12<((p_h.On.g x6.toNat).n:Int))then
            self4 ((x11||(decide (((p_h.On.g x6.toNat).g x12.toNat)<0)))||(decide ((p_h.Laws.n:Int)<=((p_h.On.g x6.toNat).g x12.toNat)))) (wrap .i64 (x12+1))
           else none
          else
           self3 z3 x11 (wrap .i64 (x6+1))
          ) x5 0
       else none
       ) fun k3=>
       if (decide (0<=(p_h.Tree.g x6.toNat).Parent))=true then
        if (((((((0:Int)<=x6/\x6<((x4.upd x6.toNat ((p_h.On.g x6.toNat).n:Int)).n:Int))/\x6.toNat<(x4.upd x6.toNat ((p_h.On.g x6.toNat).n:Int)).n)/\((0:Int)<=(p_h.Tree.g x6.toNat).Parent/\(p_h.Tree.g x6.toNat).Parent<((x4.upd x6.toNat ((p_h.On.g x6.toNat).n:Int)).n:Int)))/\(p_h.Tree.g x6.toNat).Parent.toNat<(x4.upd x6.toNat ((p_h.On.g x6.toNat).n:Int)).n)/\((0:Int)<=x6/\x6<((x4.upd x6.toNat ((p_h.On.g x6.toNat).n:Int)).n:Int)))/\x6.toNat<(x4.upd x6.toNat ((p_h.On.g x6.toNat).n:Int)).n)then
         k3 ((x4.upd x6.toNat ((p_h.On.g x6.toNat).n:Int)).upd x6.toNat (wrap .i64 (((x4.upd x6.toNat ((p_h.On.g x6.toNat).n:Int)).g x6.toNat)+((x4.upd x6.toNat ((p_h.On.g x6.toNat).n:Int)).g (p_h.Tree.g x6.toNat).Parent.toNat))))
        else none
       else
        k3 (x4.upd x6.toNat ((p_h.On.g x6.toNat).n:Int))
     else none
    else none
   else
    if x5=true then
     some 3
    else
     some 0
   ) (Sl.rep (p_h.On.n:Int).toNat 0:Sl Int) false 0
 else none
theorem MD {N:Nat}{p_h:B1}   {y:Int}(h:X2 N p_h=some y) :FunO S FG [.p (.agg (B2 p_h))] [] (pN y) ([]) []:=by
 unfold X2 at h;refine A1 hS LL ?_;refine N3 hS trivial 2 2000 (B2 p_h) ?_;obtain⟨c1,h⟩:=D8 h;refine RU hS c1 h (fun x4 x5 x6=>⟨[(17,pN x6),(16,pN (p_h.On.n:Int)),(15,.p (vSl 1 (cL 1 (cI .i64)) p_h.On)),(4,pB x5),(3,.vec 14000),(1,.p (.ptr (B2 p_h)))],[(14000,.vec C4 1 x4.n (fun i=>cI .i64 (x4.g i)) false)]⟩) (ids:=[(14000,14000)]) (fun _ _ _ _ _ self3 x4 x5 x6 hb5 h=>?_);refine kI hS h (fun h=>?_) (fun h=>?_)
 ·obtain⟨c35,h⟩:=D8 h;refine I6 hS (And.intro (And.intro c35.1.1 c35.1.2) (And.intro (rfl:(1:Nat)=1) (And.intro c35.2 (by decide:(1:Nat)<=1)))) 27 ⟨[(17,pN x6),(16,pN (p_h.On.n:Int)),(15,.p (vSl 1 (cL 1 (cI .i64)) p_h.On)),(6,.p (vSl 1 (cI .i64) (p_h.On.g x6.toNat))),(5,pN x6),(4,pB x5),(3,.vec 14000),(1,.p (.ptr (B2 p_h)))],[(14000,.vec C4 1 (x4.upd x6.toNat ((p_h.On.g x6.toNat).n:Int)).n (fun i=>cI .i64 ((x4.upd x6.toNat ((p_h.On.g x6.toNat).n:Int)).g i)) false)]⟩ (ids:=[(14000,14000)]) ?_ (hle:=klR [(7,.fn x4.n (x4.upd x6.toNat ((p_h.On.g x6.toNat).n:Int)).n (fun l=>if l=x6.toNat then splice ((fun i=>cI .i64 (x4.g i)) l) 0 [pI .i64 ((p_h.On.g x6.toNat).n:Int)]else (fun i=>cI .i64 (x4.g i)) l) (fun i=>cI .i64 ((x4.upd x6.toNat ((p_h.On.g x6.toNat).n:Int)).g i)))] (al1 ⟨rfl,Ao9 (c:=cI .i64) (v:=x4) (x:=((p_h.On.g x6.toNat).n:Int)) same (fun _=>by first|rfl|(dsimp only;split<;>rfl))⟩ al0));obtain⟨c36,h⟩:=D8 h;refine HF hS c36 (A4 hS) h 0 (fun z3=>⟨[(17,pN x6),(16,pN (p_h.On.n:Int)),(15,.p (vSl 1 (cL 1 (cI .i64)) p_h.On)),(6,.p (vSl 1 (cI .i64) (p_h.On.g x6.toNat))),(5,pN x6),(4,pB x5),(3,.vec 14000),(1,.p (.ptr (B2 p_h)))],[(14000,.vec C4 1 z3.n (fun i=>cI .i64 (z3.g i)) false)]⟩) (fun M3 k3 hb6 h=>?_) (fun z3 h=>?_)
  ·refine kI hS h (fun h=>?_) (fun h=>?_)
   ·refine Lw hS trivial ?_;obtain⟨c41,h⟩:=D8 h;refine I3 (And.intro (And.intro (And.intro (And.intro (And.intro c41.1.1.1.1.1 c41.1.1.1.1.2) c41.1.1.1.2) c41.1.1.2) c41.1.2) (And.intro (rfl:(1:Nat)=1) (And.intro c41.2 (by decide:(1:Nat)<=1)))) ?_;exact hb6 _ [(14000,14000)] _ ((x4.upd x6.toNat ((p_h.On.g x6.toNat).n:Int)).upd x6.toNat (wrap .i64 (((x4.upd x6.toNat ((p_h.On.g x6.toNat).n:Int)).g x6.toNat)+((x4.upd x6.toNat ((p_h.On.g x6.toNat).n:Int)).g (p_h.Tree.g x6.toNat).Parent.toNat)))) trivial h (hle:=klR [(7,.fn (x4.upd x6.toNat ((p_h.On.g x6.toNat).n:Int)).n ((x4.upd x6.toNat ((p_h.On.g x6.toNat).n:Int)).upd x6.toNat (wrap .i64 (((x4.upd x6.toNat ((p_h.On.g x6.toNat).n:Int)).g x6.toNat)+((x4.upd x6.toNat ((p_h.On.g x6.toNat).n:Int)).g (p_h.Tree.g x6.toNat).Parent.toNat)))).n (fun l=>if l=x6.toNat then splice ((fun i=>cI .i64 ((x4.upd x6.toNat ((p_h.On.g x6.toNat).n:Int)).g i)) l) 0 [pI .i64 (wrap .i64 (((x4.upd x6.toNat ((p_h.On.g x6.toNat).n:Int)).g x6.toNat)+((x4.upd x6.toNat ((p_h.On.g x6.toNat).n:Int)).g (p_h.Tree.g x6.toNat).Parent.toNat)))]else (fun i=>cI .i64 ((x4.upd x6.toNat ((p_h.On.g x6.toNat).n:Int)).g i)) l) (fun i=>cI .i64 (((x4.upd x6.toNat ((p_h.On.g x6.toNat).n:Int)).upd x6.toNat (wrap .i64 (((x4.upd x6.toNat ((p_h.On.g x6.toNat).n:Int)).g x6.toNat)+((x4.upd x6.toNat ((p_h.On.g x6.toNat).n:Int)).g (p_h.Tree.g x6.toNat).Parent.toNat)))).g i)))] (al1 ⟨rfl,Ao9 (c:=cI .i64) (v:=x4.upd x6.toNat ((p_h.On.g x6.toNat).n:Int)) (x:=wrap .i64 (((x4.upd x6.toNat ((p_h.On.g x6.toNat).n:Int)).g x6.toNat)+((x4.upd x6.toNat ((p_h.On.g x6.toNat).n:Int)).g (p_h.Tree.g x6.toNat).Parent.toNat))) same (fun _=>by first|rfl|(dsimp only;split<;>rfl))⟩ al0))
   ·exact hb6 _ [(14000,14000)] _ (x4.upd x6.toNat ((p_h.On.g x6.toNat).n:Int)) trivial h
  ·obtain⟨c42,h⟩:=D8 h;refine D0 hS c42 (b:=decide (64<(z3.g x6.toNat))) (fun c43=>?_) (fun c43=>?_)
   ·replace h:=itT c43 h;cases h;exact kR hS
   ·replace h:=itF c43 h;refine G0 hS trivial h (fun x11 x12=>⟨[(52,pN x12),(51,pN ((p_h.On.g x6.toNat).n:Int)),(50,.p (vSl 1 (cI .i64) (p_h.On.g x6.toNat))),(17,pN x6),(16,pN (p_h.On.n:Int)),(15,.p (vSl 1 (cL 1 (cI .i64)) p_h.On)),(4,pB x11),(3,.vec 14000),(1,.p (.ptr (B2 p_h)))],[(14000,.vec C4 1 z3.n (fun i=>cI .i64 (z3.g i)) false)]⟩) (ids:=[(14000,14000)]) (fun _ _ _ _ _ self4 x11 x12 hb7 h=>?_);refine kI hS h (fun h=>?_) (fun h=>?_)
    ·obtain⟨c49,h⟩:=D8 h;refine kB hS (A4 hS) c49 trivial 10 (.o (.o (.a x11) (.a (decide (((p_h.On.g x6.toNat).g x12.toNat)<0)))) (.a (decide ((p_h.Laws.n:Int)<=((p_h.On.g x6.toNat).g x12.toNat))))) ?_;exact hb7 _ [(14000,14000)] _ ((x11||(decide (((p_h.On.g x6.toNat).g x12.toNat)<0)))||(decide ((p_h.Laws.n:Int)<=((p_h.On.g x6.toNat).g x12.toNat)))) (wrap .i64 (x12+1)) trivial h
    ·exact hb5 _ [(14000,14000)] _ z3 x11 (wrap .i64 (x6+1)) trivial h
 ·refine kI hS h (fun h=>?_) (fun h=>?_)
  ·cases h;exact kR hS
  ·cases h;exact kR hS
def J9 (N:Nat)(p_h:B1):Option Int:=
 (AP N p_h.Tree).bind fun y1=>
 if (y1 != 0)=true then
  some 16
 else
  if (decide (64<(p_h.Laws.n:Int)))=true then
   some 12
  else
   P6 N (fun self1 (x1:List (Str×Int)) (x2:Int)=>
    if (decide (x2<(p_h.Laws.n:Int)))=true then
     if ((0:Int)<=x2/\x2<(p_h.Laws.n:Int))then
      (W6 N (p_h.Laws.g x2.toNat)).bind fun y4=>
      if (y4 != 0)=true then
       some 17
      else
       AJ6 (CR eqS (p_h.Laws.g x2.toNat).Name x1) (
        self1 (PT eqS (p_h.Laws.g x2.toNat).Name (wrap .i64 (0+1)) x1) (wrap .i64 (x2+1))
        ) fun v3=>
        self1 (PT eqS (p_h.Laws.g x2.toNat).Name (wrap .i64 (v3+1)) x1) (wrap .i64 (x2+1))
     else none
    else
     if (decide (((Oq PV.str (pI .i64) x1).length:Int)<(p_h.Laws.n:Int)))=true then
      some 6
     else
      if ((p_h.On.n:Int) != (p_h.Tree.n:Int))=true then
       some 2
      else
       (X2 N p_h).bind fun y5=>
       some y5
    ) [] 0
theorem Di {N:Nat}{p_h:B1}   {y:Int}(h:J9 N p_h=some y) :FunO S FE [.p (.agg (B2 p_h))] [] (pN y) ([]) []:=by
 unfold J9 at h;refine A1 hS LF ?_;refine kC hS h (Tj hS hL) (fun y1 h=>?_);refine kI hS h (fun h=>?_) (fun h=>?_)
 ·cases h;exact kR hS
 ·refine kI hS h (fun h=>?_) (fun h=>?_)
  ·cases h;exact kR hS
  ·refine G0 hS trivial h (fun x1 x2=>⟨[(18,pN x2),(17,pN (p_h.Laws.n:Int)),(16,.p (vSl 18 A5 p_h.Laws)),(3,.mref 15000),(1,.reg 2000 0)],[(15000,.map (Oq PV.str (pI .i64) x1)),(2000,.cells ((B2 p_h).map .p))]⟩) (ids:=[(2000,2000),(15000,15000)]) (fun _ _ _ _ _ self1 x1 x2 hb1 h=>?_);refine kI hS h (fun h=>?_) (fun h=>?_)
   ·obtain⟨c10,h⟩:=D8 h;obtain⟨y4,e4,h⟩:=B7 h;refine B8 hS [] (And.intro c10 (by decide:(18:Nat)<=18)) (Hv hS hL e4) ?_;refine kI hS h (fun h=>?_) (fun h=>?_)
    ·cases h;exact kR hS
    ·rcases o3:CR eqS (p_h.Laws.g x2.toNat).Name x1 with _|v3
     ·replace h:=optN o3 h;refine KD hS trivial (kt:=EN) (e:=C4) (key:=PV.str (p_h.Laws.g x2.toNat).Name) (es:=Oq PV.str (pI .i64) x1) (x:=pI .i64 0) (b:=false) (fd:=none) ((Fy (kP:=PV.str) (vP:=pI .i64) (eq:=eqS) (fun _ _=>by kernel_rfl) (p_h.Laws.g x2.toNat).Name x1).trans (by rw[o3];rfl)) trivial ?_;refine PX hS trivial (kt:=EN) (key:=PV.str (p_h.Laws.g x2.toNat).Name) (y:=pI .i64 (wrap .i64 (0+1))) (es:=Oq PV.str (pI .i64) x1) (KC (kP:=PV.str) (vP:=pI .i64) (eq:=eqS) (fun _ _=>by kernel_rfl) (p_h.Laws.g x2.toNat).Name (wrap .i64 (0+1)) x1) trivial ?_;exact hb1 _ [(2000,2000),(15000,15000)] _ (PT eqS (p_h.Laws.g x2.toNat).Name (wrap .i64 (0+1)) x1) (wrap .i64 (x2+1)) trivial h
     ·replace h:=optS o3 h;refine KD hS trivial (kt:=EN) (e:=C4) (key:=PV.str (p_h.Laws.g x2.toNat).Name) (es:=Oq PV.str (pI .i64) x1) (x:=pI .i64 v3) (b:=true) (fd:=some (pI .i64 v3)) ((Fy (kP:=PV.str) (vP:=pI .i64) (eq:=eqS) (fun _ _=>by kernel_rfl) (p_h.Laws.g x2.toNat).Name x1).trans (by rw[o3];rfl)) trivial ?_;refine PX hS trivial (kt:=EN) (key:=PV.str (p_h.Laws.g x2.toNat).Name) (y:=pI .i64 (wrap .i64 (v3+1))) (es:=Oq PV.str (pI .i64) x1) (KC (kP:=PV.str) (vP:=pI .i64) (eq:=eqS) (fun _ _=>by kernel_rfl) (p_h.Laws.g x2.toNat).Name (wrap .i64 (v3+1)) x1) trivial ?_;exact hb1 _ [(2000,2000),(15000,15000)] _ (PT eqS (p_h.Laws.g x2.toNat).Name (wrap .i64 (v3+1)) x1) (wrap .i64 (x2+1)) trivial h
   ·refine kI hS h (fun h=>?_) (fun h=>?_)
    ·cases h;exact kR hS
    ·refine kI hS h (fun h=>?_) (fun h=>?_)
     ·cases h;exact kR hS
     ·refine kC hS h (MD hS hL) (fun y5 h=>?_);cases h;exact kR hS
def P9 (N:Nat)(p_h:B1)(p_v:Int):Option Bool:=
 some ((decide (0<=p_v))&&(decide (p_v<(p_h.Tree.n:Int))))
theorem Hg {N:Nat}{p_h:B1}{p_v:Int}   {y:Bool}(h:P9 N p_h p_v=some y) :FunO S GZ [.p (.agg (B2 p_h)),pN p_v] [] (pB y) ([]) []:=by unfold P9 at h;refine A1 hS Nq ?_;refine kB hS (A4 hS) trivial trivial 6 (.n (.a (decide (0<=p_v))) (.a (decide (p_v<(p_h.Tree.n:Int))))) ?_;cases h;exact kR hS
def I0 (N:Nat)(q0:Int)(q1:Sl DF):Option (List (Int)):=
 P6 N (fun self1 (x1:Int) (x2:Sl Int)=>
  if (decide (0<=x1))=true then
   if (((x2.n+(Sl.of [x1]:Sl Int).n)*8<=140737488355328/\x2.n+(Sl.of [x1]:Sl Int).n<=140737488355328)/\((0:Int)<=x1/\x1<(q1.n:Int)))then
    self1 (q1.g x1.toNat).Parent (x2.push x1)
   else none
  else
   U3 N (fun self2 (x3:Int)=>
    if (decide (0<=x3))=true then
     if (((0:Int)<=x3/\x3<(x2.n:Int))/\x3.toNat<x2.n)then
      U5 (x2.g x3.toNat) (
       self2 (wrap .i64 (x3-1))
       )
     else none
    else
     some []
    ) (wrap .i64 ((x2.n:Int)-1))
  ) q0 (Sl.nil:Sl Int)
theorem Ga {N:Nat}{q0:Int}{q1:Sl DF}{L:List (Int)}(h:I0 N q0 q1=some L) :Dn S Be [] [.reg 0 0,.reg 1 0] [.cells [pN q0],.cells [.p (vSl 2 U4 q1)]] (L.map (fun (x:Int)=>[pI .i64 x])):=by
 unfold I0 at h;refine EE hS LU ?_;refine PY hS trivial h (fun x1 x2 L1=>⟨[(4,.vec 5500),(2,.reg 1 0),(1,.reg 0 0),(0,.yf 2)],[(5500,.vec C4 1 x2.n (fun i=>cI .i64 (x2.g i)) false),(2,.yld (L1.map (fun (x:Int)=>[pI .i64 x])) true),(1,.cells [.p (vSl 2 U4 q1)]),(0,.cells [pN x1])]⟩) (ids:=[(0,0),(1,1),(2,2)]) (fun _ _ _ _ _ self1 x1 x2 L1 hb1 h=>?_);refine kI hS h (fun h=>?_) (fun h=>?_)
 ·obtain⟨c4,h⟩:=D8 h;exact hb1 _ [(0,0),(1,1),(2,2),(5500,17000)] _ (q1.g x1.toNat).Parent (x2.push x1) L1 (And.intro (And.intro (rfl:true=true) c4.1) c4.2) h (hle:=klR [(0,.fn (x2.n+1) (x2.push x1).n (R9 x2.n (fun i=>cI .i64 (x2.g i)) (D4 [pI .i64 0] [(0,cI .i64 x1)])) (fun i=>cI .i64 ((x2.push x1).g i)))] (al1 ⟨rfl,Fc (c:=cI .i64) (v:=x2) (x:=x1) (z:=[(pI .i64 0)]) same rfl rfl⟩ al0))
 ·refine ED hS trivial h (fun x3 L2=>⟨[(5,pN x3),(4,.vec 5500),(0,.yf 2)],[(5500,.vec C4 1 x2.n (fun i=>cI .i64 (x2.g i)) false),(2,.yld (L2.map (fun (x:Int)=>[pI .i64 x])) true),(1,.cells [.p (vSl 2 U4 q1)]),(0,.cells [pN x1])]⟩) (ids:=[(0,0),(1,1),(2,2),(5500,5500)]) (fun _ _ _ _ _ self2 x3 L2 hb2 h=>?_);refine kI hS h (fun h=>?_) (fun h=>?_)
  ·obtain⟨c14,h⟩:=D8 h;obtain⟨L5,rfl,hcL5⟩:=Lx h;replace h:=hcL5;refine CU hS c14 (ys:=(fun (x:Int)=>[pI .i64 x]) (x2.g x3.toNat)) (rest:=L5.map (fun (x:Int)=>[pI .i64 x])) ?_ ?_
   ·refine D0 hS trivial (b:=false) (fun c15=>?_) (fun c15=>?_)
    ·exact Bool.noConfusion ((rfl:false=false).symm.trans c15)
    ·exact hb2 _ [(0,0),(1,1),(2,2),(5500,5500)] _ (wrap .i64 (x3-1)) L5 trivial h
   ·refine D0 hS trivial (b:=true) (fun c16=>?_) (fun c16=>?_)
    ·exact A6 hS trivial (a:=.tup []) (objs:=[(.cells [pN x1]),.cells [.p (vSl 2 U4 q1)],.yld [] false]) ⟨[],[(2,.yld [] false),(1,.cells [.p (vSl 2 U4 q1)]),(0,.cells [pN x1])]⟩ [0,1,2] (ids:=[(0,0),(1,1),(2,2)]) ⟨false,rfl,rfl,_,rfl⟩
    ·exact Bool.noConfusion ((rfl:true=true).symm.trans c16)
  ·obtain rfl:=B5 h;exact A6 hS trivial (a:=.tup []) (objs:=[(.cells [pN x1]),.cells [.p (vSl 2 U4 q1)],.yld [] true]) ⟨[],[(2,.yld [] true),(1,.cells [.p (vSl 2 U4 q1)]),(0,.cells [pN x1])]⟩ [0,1,2] (ids:=[(0,0),(1,1),(2,2)]) ⟨true,rfl,rfl,_,rfl⟩
def S5 (N:Nat)(p_t:Sl DF)(p_v:Int):Option (Int×(Sl DF)):=
 some (p_v,p_t)
theorem IB {N:Nat}{p_t:Sl DF}{p_v:Int}   {y:Int×(Sl DF)}(h:S5 N p_t p_v=some y) :FunO S HY [.p (vSl 2 U4 p_t),pN p_v] [] (.clo Be [] [.reg 0 0,.reg 1 0]) ([.cells [pN y.1],.cells [.p (vSl 2 U4 y.2)]]) []:=by unfold S5 at h;refine A1 hS Qg ?_;obtain rfl:=B5 h;exact A6 hS trivial ⟨[(4,.clo Be [] [.reg 4000 0,.reg 3000 0])],[(4000,.cells [pN p_v]),(3000,.cells [.p (vSl 2 U4 p_t)])]⟩ [4000,3000] (ids:=[(3000,3000),(4000,4000)]) ⟨rfl,rfl,rfl⟩
def T8 (N:Nat)(p_h:B1)(p_v:Int):Option ((Sl Int)×Int):=
 (J9 N p_h).bind fun y1=>
 if (y1 != 0)=true then
  some ((Sl.nil:Sl Int),y1)
 else
  (P9 N p_h p_v).bind fun y2=>
  if (!y2)=true then
   some ((Sl.nil:Sl Int),3)
  else
   (S5 N p_h.Tree p_v).bind fun y3=>
   (I0 N y3.1 y3.2).bind fun L1=>
   K0 L1 (fun self1 (x1:Int) (z1:Sl Int)=>
    if (((0:Int)<=x1/\x1<(p_h.On.n:Int))/\((z1.n+(p_h.On.g x1.toNat).n)*8<=140737488355328/\z1.n+(p_h.On.g x1.toNat).n<=140737488355328))then
     self1 (z1.app (p_h.On.g x1.toNat))
    else none
    ) (fun (z1:Sl Int)=>
     some (z1,0)
    ) (Sl.nil:Sl Int)
theorem NK {N:Nat}{p_h:B1}{p_v:Int}   {y:(Sl Int)×Int}(h:T8 N p_h p_v=some y) :FunO S GX [.p (.agg (B2 p_h)),pN p_v] [] (.tup [.vec 0,pN y.2]) ([.vec C4 1 y.1.n (fun i=>cI .i64 (y.1.g i)) true]) []:=by
 unfold T8 at h;refine A1 hS No ?_;refine N3 hS trivial 4 3000 (B2 p_h) ?_;obtain⟨y1,e1,h⟩:=B7 h;refine B8 hS [] (by decide:(3:Nat)<=3) (Di hS hL e1) ?_;refine kI hS h (fun h=>?_) (fun h=>?_)
 ·obtain rfl:=B5 h;exact A6 hS trivial ⟨[(5,pN y1),(4,.vec 5700)],[(5700,.vec C4 1 (Sl.nil:Sl Int).n (fun i=>cI .i64 ((Sl.nil:Sl Int).g i)) true)]⟩ [5700] (ids:=[]) ⟨rfl,rfl,rfl⟩
 ·obtain⟨y2,e2,h⟩:=B7 h;refine B8 hS [] (by decide:(3:Nat)<=3) (Hg hS hL e2) ?_;refine kI hS h (fun h=>?_) (fun h=>?_)
  ·obtain rfl:=B5 h;exact A6 hS trivial ⟨[(5,pN 3),(4,.vec 5700)],[(5700,.vec C4 1 (Sl.nil:Sl Int).n (fun i=>cI .i64 ((Sl.nil:Sl Int).g i)) true)]⟩ [5700] (ids:=[]) ⟨rfl,rfl,rfl⟩
  ·refine kC hS h (IB hS hL) (fun y3 h=>?_);obtain⟨L1,e4,h⟩:=B7 h;refine FB hS trivial [22000,22001] [7,2] 901 (fun z1=>⟨[(7,.reg 8000 0),(2,.p (.ptr (B2 p_h)))],[(8500,.vec C4 1 z1.n (fun i=>cI .i64 (z1.g i)) false),(8000,.cells [.vec 8500])]⟩) (idl:=[(8000,8000)]) h (Ga hS hL e4) (fun _=>by kernel_rfl) (fun _=>by kernel_rfl) (fun _=>by kernel_rfl) (fun _=>by kernel_rfl) (fun x1 _ self1 z1 hb1 h=>?_) (fun z1 h=>?_)
   ·refine Hs hS trivial ?_;refine E1 hS trivial [2,4,5] ?_;obtain⟨c5,h⟩:=D8 h;refine I3 c5 ?_;exact hb1 _ [(901,901),(8000,8000),(8500,30000)] _ (z1.app (p_h.On.g x1.toNat)) trivial h (hle:=klR [(0,.fn (z1.n+(p_h.On.g x1.toNat).n) (z1.app (p_h.On.g x1.toNat)).n (R9 z1.n (fun i=>cI .i64 (z1.g i)) (fun i=>cI .i64 ((p_h.On.g x1.toNat).g i))) (fun i=>cI .i64 ((z1.app (p_h.On.g x1.toNat)).g i)))] (al1 ⟨rfl,Ya (c:=cI .i64) (v:=z1) (w:=p_h.On.g x1.toNat) same rfl same rfl⟩ al0))
   ·obtain rfl:=B5 h;exact A6 hS trivial ⟨[(5,pN 0),(4,.vec 8500)],[(8500,.vec C4 1 z1.n (fun i=>cI .i64 (z1.g i)) true)]⟩ [8500] (ids:=[(8500,8500)]) ⟨rfl,rfl,rfl⟩
def O5 (rec:Pat->Option Pat)(N:Nat)(p_p:Pat):Option Pat:=
 P6 N (fun self1 (x1:Sl Pat) (x2:Int)=>
  if (decide (x2<(p_p.L.n:Int)))=true then
   if ((0:Int)<=x2/\x2<(p_p.L.n:Int))then
    (rec (p_p.L.g x2.toNat)).bind fun y3=>
    if ((x1.n+(Sl.of [y3]:Sl Pat).n)*64<=140737488355328/\x1.n+(Sl.of [y3]:Sl Pat).n<=140737488355328)then
     self1 (x1.push y3) (wrap .i64 (x2+1))
    else none
   else none
  else
   some (Pat.mk p_p.Kind p_p.Is p_p.Not p_p.Min p_p.Max x1.n x1.g)
  ) (Sl.nil:Sl Pat) 0
def N8:Nat->Pat->Option Pat
 |0=>fun _=>none
 |N+1=>O5 (N8 N) N
theorem IC {N:Nat}{rec:Pat->Option Pat}(hrec:∀{p_p:Pat}{y:Pat},rec p_p=some y->FunO S X8 [.p (.agg (B3 p_p))] [] (.p (.agg (B3 y))) ([]) []){p_p:Pat}{y:Pat}(h:O5 rec N p_p=some y) :FunO S X8 [.p (.agg (B3 p_p))] [] (.p (.agg (B3 y))) ([]) []:=by
 unfold O5 at h;refine A1 hS Jg ?_;refine I6 hS trivial 8 ⟨[(7,.p (vSl 7 B3 p_p.L)),(3,.p I5),(2,.reg 3000 0),(1,.reg 2000 0)],[(3000,.cells [pN 0,pU 0,pU 0,.p (.v (.bool false)),pN 0,pN 0,.p I5]),(2000,.cells ((B3 p_p).map .p))]⟩ (ids:=[(2000,2000),(3000,3000)]) ?_ (hle:=klR [(0,.fn p_p.L.n p_p.L.n (AR p_p) (fun i=>B3 (p_p.L.g i)))] (al1 ⟨rfl,K5 p_p⟩ al0));refine G0 hS trivial h (fun x1 x2=>⟨[(9,pN x2),(8,pN (p_p.L.n:Int)),(7,.p (vSl 7 B3 p_p.L)),(3,.vec 4500),(2,.reg 3000 0),(1,.reg 2000 0)],[(4500,.vec Eg 7 x1.n (fun i=>B3 (x1.g i)) false),(3000,.cells [pN 0,pU 0,pU 0,.p (.v (.bool false)),pN 0,pN 0,.p I5]),(2000,.cells ((B3 p_p).map .p))]⟩) (ids:=[(2000,2000),(3000,3000)]) (fun _ _ _ _ _ self1 x1 x2 hb1 h=>?_);refine kI hS h (fun h=>?_) (fun h=>?_)
 ·obtain⟨c6,h⟩:=D8 h;obtain⟨y3,e3,h⟩:=B7 h;refine B8 hS [] (And.intro c6 (by decide:(7:Nat)<=7)) (hrec e3) ?_;obtain⟨c7,h⟩:=D8 h;exact hb1 _ [(2000,2000),(3000,3000),(4500,18000)] _ (x1.push y3) (wrap .i64 (x2+1)) (And.intro (rfl:true=true) c7) h (hle:=klR [(3,.fn (x1.n+1) (x1.push y3).n (R9 x1.n (fun i=>B3 (x1.g i)) (D4 [pI .i64 0,pI .u32 0,pI .u32 0,.v (.bool false),pI .i64 0,pI .i64 0,I5] [(0,B3 y3)])) (fun i=>B3 ((x1.push y3).g i)))] (al1 ⟨rfl,Fc (c:=B3) (v:=x1) (x:=y3) (z:=[(pI .i64 0),pI .u32 0,pI .u32 0,.v (.bool false),pI .i64 0,pI .i64 0,I5]) same rfl rfl⟩ al0))
 ·obtain rfl:=B5 h;exact A6 hS trivial ⟨[(2,.reg 3000 0)],[(3000,.cells [pN p_p.Kind,pU p_p.Is.Plus,pU p_p.Is.Minus,pB p_p.Not,pN p_p.Min,pN p_p.Max,.p (.sl false 7 x1.n (AR (Pat.mk p_p.Kind p_p.Is p_p.Not p_p.Min p_p.Max x1.n x1.g)))])]⟩ [] (ids:=[(3000,3000)]) ⟨rfl,rfl,rfl⟩
theorem Eq {N:Nat}{p_p:Pat}{y:Pat}(h:N8 N p_p=some y) :FunO S X8 [.p (.agg (B3 p_p))] [] (.p (.agg (B3 y))) ([]) []:=by
 induction N generalizing p_p y with
 |zero=>cases (show (none:Option Pat)=some y from h)
 |succ N ih=>exact IC hS hL (fun e=>ih e) h
def T0 (N:Nat)(p_l:Law):Option Law:=
 (N8 N p_l.Left).bind fun y1=>
 (N8 N p_l.Right).bind fun y2=>
 (A3 N p_l.If).bind fun y3=>
 (F4 N p_l.Out).bind fun y4=>
 some (⟨p_l.Name,y1,y2,y3,y4,p_l.Mode⟩:Law)
theorem Ks {N:Nat}{p_l:Law}   {y:Law}(h:T0 N p_l=some y) :FunO S Fi [.p (.agg (A5 p_l))] [] (.p (.agg (A5 y))) ([]) []:=by unfold T0 at h;refine A1 hS Km ?_;refine E1 hS trivial [2,5] ?_;obtain⟨y1,e1,h⟩:=B7 h;refine S7 trivial (Eq hS hL e1) ?_;obtain⟨y2,e2,h⟩:=B7 h;refine S7 trivial (Eq hS hL e2) ?_;refine I3 trivial ?_;refine E1 hS trivial [2,5] ?_;obtain⟨y3,e3,h⟩:=B7 h;refine S7 trivial (Y1 hS hL e3) ?_;obtain⟨y4,e4,h⟩:=B7 h;refine S7 trivial (AT hS hL e4) ?_;refine I3 trivial ?_;cases h;exact kR hS
def J2 (N:Nat)(p_h:B1)(p_l:Sl Int):Option (Sl Law):=
 P6 N (fun self1 (x1:Sl Law) (x2:Int)=>
  if (decide (x2<(p_l.n:Int)))=true then
   if (((0:Int)<=x2/\x2<(p_l.n:Int))/\((0:Int)<=(p_l.g x2.toNat)/\(p_l.g x2.toNat)<(p_h.Laws.n:Int)))then
    (T0 N (p_h.Laws.g (p_l.g x2.toNat).toNat)).bind fun y3=>
    if ((x1.n+(Sl.of [y3]:Sl Law).n)*200<=140737488355328/\x1.n+(Sl.of [y3]:Sl Law).n<=140737488355328)then
     self1 (x1.push y3) (wrap .i64 (x2+1))
    else none
   else none
  else
   some x1
  ) (Sl.nil:Sl Law) 0
theorem Hh {N:Nat}{p_h:B1}{p_l:Sl Int}   {y:Sl Law}(h:J2 N p_h p_l=some y) :FunO S GY [.p (.agg (B2 p_h)),.p (vSl 1 (cI .i64) p_l)] [] (.p (vSl 18 A5 y)) ([]) []:=by
 unfold J2 at h;refine A1 hS Np ?_;refine G0 hS trivial h (fun x1 x2=>⟨[(10,pN x2),(9,pN (p_l.n:Int)),(8,.p (vSl 1 (cI .i64) p_l)),(5,.vec 6500),(2,.reg 3000 0)],[(6500,.vec H2 18 x1.n (fun i=>A5 (x1.g i)) false),(3000,.cells ((B2 p_h).map .p))]⟩) (ids:=[(3000,3000)]) (fun _ _ _ _ _ self1 x1 x2 hb1 h=>?_);refine kI hS h (fun h=>?_) (fun h=>?_)
 ·obtain⟨c6,h⟩:=D8 h;obtain⟨y3,e3,h⟩:=B7 h;refine B8 hS [] (And.intro (And.intro c6.1 c6.2) (by decide:(18:Nat)<=18)) (Ks hS hL e3) ?_;obtain⟨c7,h⟩:=D8 h;exact hb1 _ [(3000,3000),(6500,23000)] _ (x1.push y3) (wrap .i64 (x2+1)) (And.intro (rfl:true=true) c7) h (hle:=klR [(3,.fn (x1.n+1) (x1.push y3).n (R9 x1.n (fun i=>A5 (x1.g i)) (D4 [.str [],pI .i64 0,pI .u32 0,pI .u32 0,.v (.bool false),pI .i64 0,pI .i64 0,I5,pI .i64 0,pI .u32 0,pI .u32 0,.v (.bool false),pI .i64 0,pI .i64 0,I5,I5,I5,pI .i64 0] [(0,A5 y3)])) (fun i=>A5 ((x1.push y3).g i)))] (al1 ⟨rfl,Fc (c:=A5) (v:=x1) (x:=y3) (z:=[(.str []),pI .i64 0,pI .u32 0,pI .u32 0,.v (.bool false),pI .i64 0,pI .i64 0,I5,pI .i64 0,pI .u32 0,pI .u32 0,.v (.bool false),pI .i64 0,pI .i64 0,I5,I5,I5,pI .i64 0]) same rfl rfl⟩ al0))
 ·obtain rfl:=B5 h;exact A6 hS trivial ⟨[(4,.p (vSl 18 A5 x1))],[]⟩ [] (ids:=[]) ⟨rfl,rfl,rfl⟩
def T9 (N:Nat)(p_h:B1)(p_v:Int):Option ((Sl Law)×Int):=
 (T8 N p_h p_v).bind fun y1=>
 (J2 N p_h y1.1).bind fun y2=>
 some (y2,y1.2)
theorem NL {N:Nat}{p_h:B1}{p_v:Int}   {y:(Sl Law)×Int}(h:T9 N p_h p_v=some y) :FunO S GU [.p (.agg (B2 p_h)),pN p_v] [] (.tup [.p (vSl 18 A5 y.1),pN y.2]) ([]) []:=by unfold T9 at h;refine A1 hS Nl ?_;refine kC hS h (NK hS hL) (fun y1 h=>?_);refine kC hS h (Hh hS hL) (fun y2 h=>?_);cases h;exact kR hS
def Bo (N:Nat)(p_h:B1)(p_w:Sl Sound):Option Int:=
 (J9 N p_h).bind fun y1=>
 if (y1 != 0)=true then
  some y1
 else
  (S1 N p_w).bind fun y2=>
  some y2
theorem ME {N:Nat}{p_h:B1}{p_w:Sl Sound}   {y:Int}(h:Bo N p_h p_w=some y) :FunO S FH [.p (.agg (B2 p_h)),.p (vSl 2 A0 p_w)] [] (pN y) ([]) []:=by
 unfold Bo at h;refine A1 hS LM ?_;refine kC hS h (Di hS hL) (fun y1 h=>?_);refine kI hS h (fun h=>?_) (fun h=>?_)
 ·cases h;exact kR hS
 ·refine kC hS h (Dx hS hL) (fun y2 h=>?_);cases h;exact kR hS
def AQ (N:Nat)(p_h:B1)(p_w:Sl Sound)(p_v:Int):Option ((Sl Sound)×Int):=
 (Bo N p_h p_w).bind fun y1=>
 if (y1 != 0)=true then
  some ((Sl.nil:Sl Sound),y1)
 else
  (P9 N p_h p_v).bind fun y2=>
  if (!y2)=true then
   some ((Sl.nil:Sl Sound),3)
  else
   (S5 N p_h.Tree p_v).bind fun y3=>
   (I0 N y3.1 y3.2).bind fun L1=>
   K0 L1 (fun self1 (x1:Int) (z1:Sl Sound)=>
    if ((0:Int)<=x1/\x1<(p_h.On.n:Int))then
     (J2 N p_h (p_h.On.g x1.toNat)).bind fun y8=>
     (F3 N y8 z1).bind fun y9=>
     if (y9.2 != 0)=true then
      some ((Sl.nil:Sl Sound),y9.2)
     else
      self1 y9.1
    else none
    ) (fun (z1:Sl Sound)=>
     some (z1,0)
    ) p_w
theorem Tk {N:Nat}{p_h:B1}{p_w:Sl Sound}{p_v:Int}   {y:(Sl Sound)×Int}(h:AQ N p_h p_w p_v=some y) :FunO S JM [.p (.agg (B2 p_h)),.p (vSl 2 A0 p_w),pN p_v] [] (.tup [.p (vSl 2 A0 y.1),pN y.2]) ([]) []:=by
 unfold AQ at h;refine A1 hS Sn ?_;refine N3 hS trivial 4 4000 (B2 p_h) ?_;obtain⟨y1,e1,h⟩:=B7 h;refine B8 hS [] (by decide:(3:Nat)<=3) (ME hS hL e1) ?_;refine kI hS h (fun h=>?_) (fun h=>?_)
 ·obtain rfl:=B5 h;exact A6 hS trivial ⟨[(7,.reg 8000 0),(6,.reg 7000 0)],[(8000,.cells [pN y1]),(7000,.cells [.p (vSl 2 A0 (Sl.nil:Sl Sound))])]⟩ [] (ids:=[(7000,7000),(8000,8000)]) ⟨rfl,rfl,rfl⟩
 ·obtain⟨y2,e2,h⟩:=B7 h;refine B8 hS [] (by decide:(3:Nat)<=3) (Hg hS hL e2) ?_;refine kI hS h (fun h=>?_) (fun h=>?_)
  ·obtain rfl:=B5 h;exact A6 hS trivial ⟨[(7,.reg 8000 0),(6,.reg 7000 0)],[(8000,.cells [pN 3]),(7000,.cells [.p (vSl 2 A0 (Sl.nil:Sl Sound))])]⟩ [] (ids:=[(7000,7000),(8000,8000)]) ⟨rfl,rfl,rfl⟩
  ·refine kC hS h (IB hS hL) (fun y3 h=>?_);obtain⟨L1,e4,h⟩:=B7 h;refine FB hS trivial [25000,25001] [7,6,4,3] 901 (fun z1=>⟨[(7,.reg 8000 0),(6,.reg 7000 0),(4,.reg 5000 0),(3,.p (.ptr (B2 p_h)))],[(8000,.cells [pN 0]),(7000,.cells [.p I5]),(5000,.cells [.p (vSl 2 A0 z1)])]⟩) (idl:=[(5000,5000),(7000,7000),(8000,8000)]) h (Ga hS hL e4) (fun _=>by kernel_rfl) (fun _=>by kernel_rfl) (fun _=>by kernel_rfl) (fun _=>by kernel_rfl) (fun x1 _ self1 z1 hb1 h=>?_) (fun z1 h=>?_)
   ·refine Hs hS trivial ?_;refine E1 hS trivial [0,2,4,5,6,8] ?_;obtain⟨c7,h⟩:=D8 h;obtain⟨y8,e9,h⟩:=B7 h;refine S7 (And.intro (by decide:(3:Nat)<=3) c7) (Hh hS hL e9) ?_;obtain⟨y9,e10,h⟩:=B7 h;refine S7 trivial (FT hS hL e10) ?_;refine I3 trivial ?_;refine kI hS h (fun h=>?_) (fun h=>?_)
    ·refine KE hS trivial ⟨[(7,.reg 8000 0),(6,.reg 7000 0),(4,.reg 5000 0),(3,.p (.ptr (B2 p_h)))],[(8000,.cells [pN y9.2]),(7000,.cells [.p I5]),(5000,.cells [.p (vSl 2 A0 y9.1)])]⟩ (ids:=[(901,901),(5000,5000),(7000,7000),(8000,8000)]) ?_;obtain rfl:=B5 h;exact A6 hS trivial ⟨[(7,.reg 8000 0),(6,.reg 7000 0)],[(8000,.cells [pN y9.2]),(7000,.cells [.p (vSl 2 A0 (Sl.nil:Sl Sound))])]⟩ [] (ids:=[(7000,7000),(8000,8000)]) ⟨rfl,rfl,rfl⟩
    ·exact hb1 _ [(901,901),(5000,5000),(7000,7000),(8000,8000)] _ y9.1 trivial h
   ·cases h;exact kR hS
def Av (N:Nat)(p_h:B1)(p_w:Sl Sound)(p_attested:Sl Sound)(p_v:Int):Option ((Sl E3)×Int):=
 (J9 N p_h).bind fun y1=>
 if (y1 != 0)=true then
  some ((Sl.nil:Sl E3),y1)
 else
  (J1 N (Sl.nil:Sl Law) (Sl.of [p_w,p_attested]:Sl (Sl Sound))).bind fun y2=>
  if (y2 != 0)=true then
   some ((Sl.nil:Sl E3),y2)
  else
   if ((decide (p_v<0))||(decide ((p_h.Tree.n:Int)<=p_v)))=true then
    some ((Sl.nil:Sl E3),3)
   else
    P6 N (fun self1 (x1:Nat->Bool) (x2:Int)=>
     if (decide (0<=x2))=true then
      if ((((0:Int)<=x2/\x2<63)/\(0+x2.toNat*1)<63)/\((0:Int)<=x2/\x2<(p_h.Tree.n:Int)))then
       self1 (IM x1 (0+x2.toNat*1) true) (p_h.Tree.g x2.toNat).Parent
      else none
     else
      (T9 N p_h p_v).bind fun y3=>
      P6 N (fun self2 (x3:Sl E3) (x4:Int)=>
       if (decide (x4<(p_h.Tree.n:Int)))=true then
        if (((0:Int)<=x4/\x4<63)/\(0+x4.toNat*1)<63)then
         if (x1 (0+x4.toNat*1))=true then
          self2 x3 (wrap .i64 (x4+1))
         else
          (AQ N p_h p_w x4).bind fun y10=>
          if (y10.2 != 0)=true then
           self2 x3 (wrap .i64 (x4+1))
          else
           (T7 N y3.1 (Sl.of [(⟨y10.1,p_attested⟩:Bq)]:Sl Bq)).bind fun y11=>
           (I1 N y11.1 y11.2).bind fun L3=>
           (Z0 N L3).bind fun y12=>
           if y12.2=true then
            if ((x3.n+(Sl.of [(⟨x4,y12.1.First,y12.1.Last⟩:E3)]:Sl E3).n)*24<=140737488355328/\x3.n+(Sl.of [(⟨x4,y12.1.First,y12.1.Last⟩:E3)]:Sl E3).n<=140737488355328)then
             self2 (x3.push (⟨x4,y12.1.First,y12.1.Last⟩:E3)) (wrap .i64 (x4+1))
            else none
           else
            self2 x3 (wrap .i64 (x4+1))
        else none
       else
        some (x3,0)
       ) (Sl.nil:Sl E3) 0
     ) (fun _=>false) p_v
theorem NM {N:Nat}{p_h:B1}{p_w:Sl Sound}{p_attested:Sl Sound}{p_v:Int}   {y:(Sl E3)×Int}(h:Av N p_h p_w p_attested p_v=some y) :FunO S GQ [.p (.agg (B2 p_h)),.p (vSl 2 A0 p_w),.p (vSl 2 A0 p_attested),pN p_v] [] (.tup [.vec 0,pN y.2]) ([.vec V7 3 y.1.n (fun i=>H4 (y.1.g i)) true]) []:=by
 unfold Av at h;refine A1 hS Nh ?_;refine kC hS h (Di hS hL) (fun y1 h=>?_);refine kI hS h (fun h=>?_) (fun h=>?_)
 ·obtain rfl:=B5 h;exact A6 hS trivial ⟨[(9,pN y1),(8,.vec 9700)],[(9700,.vec V7 3 (Sl.nil:Sl E3).n (fun i=>H4 ((Sl.nil:Sl E3).g i)) true)]⟩ [9700] (ids:=[]) ⟨rfl,rfl,rfl⟩
 ·refine Z5 hS (rfl:true=true) ⟨[(29,.vec 30000),(4,.reg 5000 0),(3,pN p_v),(2,.p (vSl 2 A0 p_attested)),(1,.p (vSl 2 A0 p_w))],[(30000,.vec A7 1 (Sl.of [p_w,p_attested]:Sl (Sl Sound)).n (fun i=>cL 2 A0 ((Sl.of [p_w,p_attested]:Sl (Sl Sound)).g i)) false),(5000,.cells ((B2 p_h).map .p))]⟩ (ids:=[(5000,5000),(30000,30000)]) ?_ (hle:=klR [(3,.fn 2 (Sl.of [p_w,p_attested]:Sl (Sl Sound)).n (D4 [I5] [(0,cL 2 A0 p_w),(1,cL 2 A0 p_attested)]) (fun i=>cL 2 A0 ((Sl.of [p_w,p_attested]:Sl (Sl Sound)).g i)))] (al1 ⟨rfl,(fun i hi=>match i,hi with|0,_=>rfl|1,_=>rfl|_+2,hi=>absurd hi (by omega))⟩ al0));obtain⟨y2,e2,h⟩:=B7 h;refine B8 hS [] trivial (FunO.le hS (args:=[.p I5,.p (vSl 1 (cL 2 A0) (Sl.of [p_w,p_attested]:Sl (Sl Sound)))]) (by exact⟨Ad1,⟨.inl rfl,trivial⟩⟩) (Y9 hS hL e2)) ?_;refine kI hS h (fun h=>?_) (fun h=>?_)
  ·obtain rfl:=B5 h;exact A6 hS trivial ⟨[(9,pN y2),(8,.vec 9700)],[(9700,.vec V7 3 (Sl.nil:Sl E3).n (fun i=>H4 ((Sl.nil:Sl E3).g i)) true)]⟩ [9700] (ids:=[]) ⟨rfl,rfl,rfl⟩
  ·refine kB hS (A4 hS) trivial trivial 6 (.o (.a (decide (p_v<0))) (.a (decide ((p_h.Tree.n:Int)<=p_v)))) ?_;refine kI hS h (fun h=>?_) (fun h=>?_)
   ·obtain rfl:=B5 h;exact A6 hS trivial ⟨[(9,pN 3),(8,.vec 9700)],[(9700,.vec V7 3 (Sl.nil:Sl E3).n (fun i=>H4 ((Sl.nil:Sl E3).g i)) true)]⟩ [9700] (ids:=[]) ⟨rfl,rfl,rfl⟩
   ·refine G0 hS trivial h (fun x1 x2=>⟨[(13,pN x2),(12,.reg 13000 0),(4,.reg 5000 0),(3,pN p_v),(2,.p (vSl 2 A0 p_attested)),(1,.p (vSl 2 A0 p_w))],[(13000,.arr 63 (fun i=>PV.bb (x1 i))),(5000,.cells ((B2 p_h).map .p))]⟩) (ids:=[(5000,5000),(13000,13000)]) (fun _ _ _ _ _ self1 x1 x2 hb1 h=>?_) (hle:=klR [(4,.fn 63 63 (fun i=>[(fun i=>(List.replicate 63 (PV.bb false)).getD i default) i]) (fun i=>[PV.bb ((fun _=>false) i)]))] (al1 ⟨rfl,Bd (z:=PV.bb false) rfl⟩ al0));refine kI hS h (fun h=>?_) (fun h=>?_)
    ·obtain⟨c7,h⟩:=D8 h;exact hb1 _ [(5000,5000),(13000,13000)] _ (IM x1 (0+x2.toNat*1) true) (p_h.Tree.g x2.toNat).Parent c7 h (hle:=klR [(4,.fn 63 63 (fun i=>[(fun i=>if i=(0+x2.toNat*1)then (.bb true)else (fun i=>PV.bb (x1 i)) i) i]) (fun i=>[PV.bb (IM x1 (0+x2.toNat*1) true i)]))] (al1 ⟨rfl,Ax4 (c:=PV.bb) (v:=x1) (x:=true) (fun _ _=>rfl) rfl⟩ al0))
    ·refine kC hS h (NL hS hL) (fun y3 h=>?_);refine G0 hS trivial h (fun x3 x4=>⟨[(63,pN x4),(62,pN (p_h.Tree.n:Int)),(16,.vec 17500),(14,.p (vSl 18 A5 y3.1)),(12,.reg 13000 0),(4,.reg 5000 0),(2,.p (vSl 2 A0 p_attested)),(1,.p (vSl 2 A0 p_w))],[(17500,.vec V7 3 x3.n (fun i=>H4 (x3.g i)) false),(13000,.arr 63 (fun i=>PV.bb (x1 i))),(5000,.cells ((B2 p_h).map .p))]⟩) (ids:=[(5000,5000),(13000,13000)]) (fun _ _ _ _ _ self2 x3 x4 hb2 h=>?_);refine kI hS h (fun h=>?_) (fun h=>?_)
     ·obtain⟨c19,h⟩:=D8 h;refine D0 hS c19 (b:=x1 (0+x4.toNat*1)) (fun c20=>?_) (fun c20=>?_)
      ·replace h:=itT c20 h;exact hb2 _ [(5000,5000),(13000,13000),(17500,17500)] _ x3 (wrap .i64 (x4+1)) trivial h
      ·replace h:=itF c20 h;refine kC hS h (Tk hS hL) (fun y10 h=>?_);refine kI hS h (fun h=>?_) (fun h=>?_)
       ·exact hb2 _ [(5000,5000),(13000,13000),(17500,17500)] _ x3 (wrap .i64 (x4+1)) trivial h
       ·refine Z5 hS (rfl:true=true) ⟨[(83,.vec 84000),(79,.p (vSl 18 A5 y3.1)),(63,pN x4),(62,pN (p_h.Tree.n:Int)),(17,pN x4),(16,.vec 17500),(14,.p (vSl 18 A5 y3.1)),(12,.reg 13000 0),(4,.reg 5000 0),(2,.p (vSl 2 A0 p_attested)),(1,.p (vSl 2 A0 p_w))],[(84000,.vec Gr 2 (Sl.of [(⟨y10.1,p_attested⟩:Bq)]:Sl Bq).n (fun i=>I8 ((Sl.of [(⟨y10.1,p_attested⟩:Bq)]:Sl Bq).g i)) false),(17500,.vec V7 3 x3.n (fun i=>H4 (x3.g i)) false),(13000,.arr 63 (fun i=>PV.bb (x1 i))),(5000,.cells ((B2 p_h).map .p))]⟩ (ids:=[(5000,5000),(13000,13000),(17500,17500),(84000,84000)]) ?_ (hle:=klR [(7,.fn 1 (Sl.of [(⟨y10.1,p_attested⟩:Bq)]:Sl Bq).n (D4 [I5,I5] [(0,I8 (⟨y10.1,p_attested⟩:Bq))]) (fun i=>I8 ((Sl.of [(⟨y10.1,p_attested⟩:Bq)]:Sl Bq).g i)))] (al1 ⟨rfl,(fun i hi=>match i,hi with|0,_=>rfl|_+1,hi=>absurd hi (by omega))⟩ al0));refine kC hS h (BO hS hL) (fun y11 h=>?_);obtain⟨L3,e14,h⟩:=B7 h;obtain⟨y12,e15,h⟩:=B7 h;refine B8 hS [85000,85001] trivial (Iw hS hL ⟨_,Ax,by decide +kernel,by decide +kernel⟩ (AA hS hL e14) e15) ?_;refine kI hS h (fun h=>?_) (fun h=>?_)
        ·obtain⟨c23,h⟩:=D8 h;exact hb2 _ [(5000,5000),(13000,13000),(17500,98000)] _ (x3.push (⟨x4,y12.1.First,y12.1.Last⟩:E3)) (wrap .i64 (x4+1)) (And.intro (rfl:true=true) c23) h (hle:=klR [(5,.fn (x3.n+1) (x3.push (⟨x4,y12.1.First,y12.1.Last⟩:E3)).n (R9 x3.n (fun i=>H4 (x3.g i)) (D4 [pI .i64 0,pI .i64 0,pI .i64 0] [(0,H4 (⟨x4,y12.1.First,y12.1.Last⟩:E3))])) (fun i=>H4 ((x3.push (⟨x4,y12.1.First,y12.1.Last⟩:E3)).g i)))] (al1 ⟨rfl,Fc (c:=H4) (v:=x3) (x:=(⟨x4,y12.1.First,y12.1.Last⟩:E3)) (z:=[(pI .i64 0),pI .i64 0,pI .i64 0]) same rfl rfl⟩ al0))
        ·exact hb2 _ [(5000,5000),(13000,13000),(17500,17500)] _ x3 (wrap .i64 (x4+1)) trivial h
     ·obtain rfl:=B5 h;exact A6 hS trivial ⟨[(9,pN 0),(8,.vec 17500)],[(17500,.vec V7 3 x3.n (fun i=>H4 (x3.g i)) true)]⟩ [17500] (ids:=[(17500,17500)]) ⟨rfl,rfl,rfl⟩
def Cf (N:Nat)(p_h:B1)(p_w:Sl Sound)(p_attested:Sl Sound)(p_v:Int):Option ((Sl E3)×Int):=
 (X1 N p_h).bind fun y1=>
 if (y1 != 0)=true then
  some ((Sl.nil:Sl E3),y1)
 else
  (Dh N (Sl.nil:Sl Law) p_w p_attested).bind fun y2=>
  if (y2 != 0)=true then
   some ((Sl.nil:Sl E3),y2)
  else
   if ((decide (p_v<0))||(decide ((p_h.Tree.n:Int)<=p_v)))=true then
    some ((Sl.nil:Sl E3),3)
   else
    (CJ N p_h p_v).bind fun y3=>
    (Eo N p_h.Tree p_v).bind fun y4=>
    P6 N (fun self3 (x3:Sl E3) (x4:Int)=>
     if (decide (x4<(p_h.Tree.n:Int)))=true then
      P6 N (fun self4 (x7:Bool) (x8:Int)=>
       if (decide (x8<(y4.1.n:Int)))=true then
        if (x7=false->(((0:Int)<=x8/\x8<(y4.1.n:Int))/\x8.toNat<y4.1.n))then
         self4 (x7||((y4.1.g x8.toNat)==x4)) (wrap .i64 (x8+1))
        else none
       else
        (IA N p_h p_w x4).bind fun y11=>
        if (x7||(y11.2 != 0))=true then
         self3 x3 (wrap .i64 (x4+1))
        else
         (Cc N y3.1 y11.1 p_attested).bind fun y12=>
         (Em N y12).bind fun y13=>
         if y13.2=true then
          if ((x3.n+(Sl.of [(⟨x4,y13.1.First,y13.1.Last⟩:E3)]:Sl E3).n)*24<=140737488355328/\x3.n+(Sl.of [(⟨x4,y13.1.First,y13.1.Last⟩:E3)]:Sl E3).n<=140737488355328)then
           self3 (x3.push (⟨x4,y13.1.First,y13.1.Last⟩:E3)) (wrap .i64 (x4+1))
          else none
         else
          self3 x3 (wrap .i64 (x4+1))
       ) false 0
     else
      some (x3,0)
     ) (Sl.nil:Sl E3) 0
theorem Tl {N:Nat}{p_h:B1}{p_w:Sl Sound}{p_attested:Sl Sound}{p_v:Int}   {y:(Sl E3)×Int}(h:Cf N p_h p_w p_attested p_v=some y) :FunO S JJ [.p (.agg (B2 p_h)),.p (vSl 2 A0 p_w),.p (vSl 2 A0 p_attested),pN p_v] [] (.tup [.vec 0,pN y.2]) ([.vec V7 3 y.1.n (fun i=>H4 (y.1.g i)) true]) []:=by
 unfold Cf at h;refine A1 hS Si ?_;refine kC hS h (Hx hS hL) (fun y1 h=>?_);refine kI hS h (fun h=>?_) (fun h=>?_)
 ·obtain rfl:=B5 h;exact A6 hS trivial ⟨[(9,pN y1),(8,.vec 9700)],[(9700,.vec V7 3 (Sl.nil:Sl E3).n (fun i=>H4 ((Sl.nil:Sl E3).g i)) true)]⟩ [9700] (ids:=[]) ⟨rfl,rfl,rfl⟩
 ·obtain⟨y2,e2,h⟩:=B7 h;refine B8 hS [] trivial (FunO.le hS (args:=[.p I5,.p (vSl 2 A0 p_w),.p (vSl 2 A0 p_attested)]) (by exact⟨Ad1,⟨.inl rfl,⟨.inl rfl,trivial⟩⟩⟩) (VB hS hL e2)) ?_;refine kI hS h (fun h=>?_) (fun h=>?_)
  ·obtain rfl:=B5 h;exact A6 hS trivial ⟨[(9,pN y2),(8,.vec 9700)],[(9700,.vec V7 3 (Sl.nil:Sl E3).n (fun i=>H4 ((Sl.nil:Sl E3).g i)) true)]⟩ [9700] (ids:=[]) ⟨rfl,rfl,rfl⟩
  ·refine kB hS (A4 hS) trivial trivial 6 (.o (.a (decide (p_v<0))) (.a (decide ((p_h.Tree.n:Int)<=p_v)))) ?_;refine kI hS h (fun h=>?_) (fun h=>?_)
   ·obtain rfl:=B5 h;exact A6 hS trivial ⟨[(9,pN 3),(8,.vec 9700)],[(9700,.vec V7 3 (Sl.nil:Sl E3).n (fun i=>H4 ((Sl.nil:Sl E3).g i)) true)]⟩ [9700] (ids:=[]) ⟨rfl,rfl,rfl⟩
   ·refine kC hS h (Ph hS hL) (fun y3 h=>?_);refine kC hS h (Za hS hL) (fun y4 h=>?_);refine G0 hS trivial h (fun x3 x4=>⟨[(16,pN x4),(15,.vec 16500),(13,.vec 54000),(11,.vec 47000),(4,.reg 5000 0),(2,.p (vSl 2 A0 p_attested)),(1,.p (vSl 2 A0 p_w))],[(54000,.vec C4 1 y4.1.n (fun i=>cI .i64 (y4.1.g i)) true),(47000,.vec H2 18 y3.1.n (fun i=>A5 (y3.1.g i)) true),(16500,.vec V7 3 x3.n (fun i=>H4 (x3.g i)) false),(5000,.cells ((B2 p_h).map .p))]⟩) (ids:=[(5000,5000),(47000,47000),(54000,54000)]) (fun _ _ _ _ _ self3 x3 x4 hb3 h=>?_);refine kI hS h (fun h=>?_) (fun h=>?_)
    ·refine G0 hS trivial h (fun x7 x8=>⟨[(18,pN x8),(17,pB x7),(16,pN x4),(15,.vec 16500),(13,.vec 54000),(11,.vec 47000),(4,.reg 5000 0),(2,.p (vSl 2 A0 p_attested)),(1,.p (vSl 2 A0 p_w))],[(54000,.vec C4 1 y4.1.n (fun i=>cI .i64 (y4.1.g i)) true),(47000,.vec H2 18 y3.1.n (fun i=>A5 (y3.1.g i)) true),(16500,.vec V7 3 x3.n (fun i=>H4 (x3.g i)) false),(5000,.cells ((B2 p_h).map .p))]⟩) (ids:=[(5000,5000),(16500,16500),(47000,47000),(54000,54000)]) (fun _ _ _ _ _ self4 x7 x8 hb4 h=>?_);refine kI hS h (fun h=>?_) (fun h=>?_)
     ·obtain⟨c25,h⟩:=D8 h;refine kB hS (A4 hS) trivial c25 7 (.o (.a x7) (.a ((y4.1.g x8.toNat)==x4))) ?_;exact hb4 _ [(5000,5000),(16500,16500),(47000,47000),(54000,54000)] _ (x7||((y4.1.g x8.toNat)==x4)) (wrap .i64 (x8+1)) trivial h
     ·refine kC hS h (Ar9 hS hL) (fun y11 h=>?_);refine kB hS (A4 hS) trivial trivial 3 (.o (.a x7) (.a (y11.2 != 0))) ?_;refine kI hS h (fun h=>?_) (fun h=>?_)
      ·exact hb3 _ [(5000,5000),(16500,16500),(47000,47000),(54000,54000)] _ x3 (wrap .i64 (x4+1)) trivial h
      ·refine kC hS h (Tg hS hL) (fun y12 h=>?_);refine kC hS h (YX hS hL) (fun y13 h=>?_);refine kI hS h (fun h=>?_) (fun h=>?_)
       ·obtain⟨c28,h⟩:=D8 h;exact hb3 _ [(5000,5000),(16500,108000),(47000,47000),(54000,54000)] _ (x3.push (⟨x4,y13.1.First,y13.1.Last⟩:E3)) (wrap .i64 (x4+1)) (And.intro (rfl:true=true) c28) h (hle:=klR [(5,.fn (x3.n+1) (x3.push (⟨x4,y13.1.First,y13.1.Last⟩:E3)).n (R9 x3.n (fun i=>H4 (x3.g i)) (D4 [pI .i64 0,pI .i64 0,pI .i64 0] [(0,H4 (⟨x4,y13.1.First,y13.1.Last⟩:E3))])) (fun i=>H4 ((x3.push (⟨x4,y13.1.First,y13.1.Last⟩:E3)).g i)))] (al1 ⟨rfl,Fc (c:=H4) (v:=x3) (x:=(⟨x4,y13.1.First,y13.1.Last⟩:E3)) (z:=[(pI .i64 0),pI .i64 0,pI .i64 0]) same rfl rfl⟩ al0))
       ·exact hb3 _ [(5000,5000),(16500,16500),(47000,47000),(54000,54000)] _ x3 (wrap .i64 (x4+1)) trivial h
    ·obtain rfl:=B5 h;exact A6 hS trivial ⟨[(9,pN 0),(8,.vec 16500)],[(16500,.vec V7 3 x3.n (fun i=>H4 (x3.g i)) true)]⟩ [16500] (ids:=[(16500,16500)]) ⟨rfl,rfl,rfl⟩
def Gb (N:Nat)(p_h:B1):Option Bool:=
 lt (fun (z1:Bool)=>
  if z1=true then
   some false
  else
   U3 N (fun self1 (x2:Int)=>
    if (decide (x2<(p_h.On.n:Int)))=true then
     if ((0:Int)<=x2/\x2<(p_h.On.n:Int))then
      if (decide (5<((p_h.On.g x2.toNat).n:Int)))=true then
       some false
      else
       self1 (wrap .i64 (x2+1))
     else none
    else
     some true
    ) 0
  ) fun k1=>
  if (decide (8<(p_h.Tree.n:Int)))=true then
   k1 true
  else
   if (decide (6<(p_h.Laws.n:Int)))=true then
    k1 true
   else
    if (decide (8<(p_h.On.n:Int)))=true then
     k1 true
    else
     (CC N p_h.Laws).bind fun y2=>
     k1 (decide (4<y2))
theorem Af5 {N:Nat}{p_h:B1}   {y:Bool}(h:Gb N p_h=some y) :FunO S Sh [.p (.agg (B2 p_h))] [] (pB y) ([]) []:=by
 unfold Gb at h;refine A1 hS Ad7 ?_;refine HF hS trivial (A4 hS) h 0 (fun z1=>⟨[(25,pB z1),(1,.reg 2000 0)],[(2000,.cells ((B2 p_h).map .p))]⟩) (fun M1 k1 hb1 h=>?_) (fun z1 h=>?_)
 ·refine kG hS h (fun h=>?_) (fun h=>?_)
  ·exact hb1 _ [(2000,2000)] _ true trivial h
  ·refine kG hS h (fun h=>?_) (fun h=>?_)
   ·exact hb1 _ [(2000,2000)] _ true trivial h
   ·refine kG hS h (fun h=>?_) (fun h=>?_)
    ·exact hb1 _ [(2000,2000)] _ true trivial h
    ·refine kC hS h (YQ hS hL) (fun y2 h=>?_);exact hb1 _ [(2000,2000)] _ (decide (4<y2)) trivial h
 ·refine kI hS h (fun h=>?_) (fun h=>?_)
  ·cases h;exact kR hS
  ·refine K4 hS trivial h (fun x2=>⟨[(3,pN x2),(1,.reg 2000 0)],[(2000,.cells ((B2 p_h).map .p))]⟩) (ids:=[(2000,2000)]) (fun _ _ _ _ _ self1 x2 hb2 h=>?_);refine kI hS h (fun h=>?_) (fun h=>?_)
   ·obtain⟨c18,h⟩:=D8 h;refine D0 hS c18 (b:=decide (5<((p_h.On.g x2.toNat).n:Int))) (fun c19=>?_) (fun c19=>?_)
    ·replace h:=itT c19 h;cases h;exact kR hS
    ·replace h:=itF c19 h;exact hb2 _ [(2000,2000)] _ (wrap .i64 (x2+1)) trivial h
   ·cases h;exact kR hS
def Z1 (N:Nat)(p_h:B1)(p_w:Q9)(p_v:Int):Option Bool:=
 (Gb N p_h).bind fun y1=>
 if (!y1)=true then
  (BH N ).bind fun y2=>
  some y2
 else
  (Av N p_h p_w.a0 p_w.a1 p_v).bind fun y3=>
  (Cf N p_h p_w.a0 p_w.a1 p_v).bind fun y4=>
  if (((y3.1.n:Int) != (y4.1.n:Int))||(y3.2 != y4.2))=true then
   some false
  else
   U3 N (fun self1 (x1:Int)=>
    if (decide (x1<(y3.1.n:Int)))=true then
     if (((((0:Int)<=x1/\x1<(y3.1.n:Int))/\x1.toNat<y3.1.n)/\((0:Int)<=x1/\x1<(y4.1.n:Int)))/\x1.toNat<y4.1.n)then
      if ((((y3.1.g x1.toNat).a0==(y4.1.g x1.toNat).a0)&&(((y3.1.g x1.toNat).a1==(y4.1.g x1.toNat).a1)&&((y3.1.g x1.toNat).a2==(y4.1.g x1.toNat).a2))) != true)=true then
       some false
      else
       self1 (wrap .i64 (x1+1))
     else none
    else
     (BH N ).bind fun y5=>
     some y5
    ) 0
theorem IO {N:Nat}{p_h:B1}{p_w:Q9}{p_v:Int}   {y:Bool}(h:Z1 N p_h p_w p_v=some y) :FunO S Bv [.p (.agg (B2 p_h)),.p (.agg (X4 p_w)),pN p_v] [] (pB y) ([]) []:=by
 unfold Z1 at h;refine A1 hS DS ?_;refine N3 hS trivial 4 4000 (B2 p_h) ?_;refine N3 hS trivial 6 5000 [vSl 2 A0 p_w.a0,vSl 2 A0 p_w.a1] ?_;obtain⟨y1,e1,h⟩:=B7 h;refine B8 hS [] (by decide:(3:Nat)<=3) (Af5 hS hL e1) ?_;refine kI hS h (fun h=>?_) (fun h=>?_)
 ·refine kC hS h (MB hS hL) (fun y2 h=>?_);cases h;exact kR hS
 ·obtain⟨y3,e3,h⟩:=B7 h;refine B8 hS [] (And.intro (And.intro (by decide:(3:Nat)<=3) (by decide:(0:Int)<=0/\(0:Int)<2)) (by decide:(0:Int)<=1/\(1:Int)<2)) (NM hS hL e3) ?_;obtain⟨y4,e4,h⟩:=B7 h;refine B8 hS [] (And.intro (And.intro (by decide:(3:Nat)<=3) (by decide:(0:Int)<=0/\(0:Int)<2)) (by decide:(0:Int)<=1/\(1:Int)<2)) (Tl hS hL e4) ?_;refine kB hS (A4 hS) trivial trivial 4 (.o (.a ((y3.1.n:Int) != (y4.1.n:Int))) (.a (y3.2 != y4.2))) ?_;refine kI hS h (fun h=>?_) (fun h=>?_)
  ·cases h;exact kR hS
  ·refine K4 hS trivial h (fun x1=>⟨[(11,pN x1),(9,.vec 34000),(7,.vec 24000)],[(34000,.vec V7 3 y4.1.n (fun i=>H4 (y4.1.g i)) true),(24000,.vec V7 3 y3.1.n (fun i=>H4 (y3.1.g i)) true)]⟩) (ids:=[(24000,24000),(34000,34000)]) (fun _ _ _ _ _ self1 x1 hb1 h=>?_);refine kI hS h (fun h=>?_) (fun h=>?_)
   ·refine Lw hS trivial ?_;obtain⟨c10,h⟩:=D8 h;refine I3 (And.intro (And.intro (And.intro (And.intro (And.intro (And.intro c10.1.1.1 (by decide:(3:Nat)<=3)) c10.1.1.2) c10.1.2) (by decide:(3:Nat)<=3)) c10.2) (by decide +kernel:(!Program.eqGuardType Tryz.prog (Program.depth Tryz.prog) V7)=true)) ?_;refine kI hS h (fun h=>?_) (fun h=>?_)
    ·cases h;exact kR hS
    ·exact hb1 _ [(24000,24000),(34000,34000)] _ (wrap .i64 (x1+1)) trivial h
   ·refine kC hS h (MB hS hL) (fun y5 h=>?_);cases h;exact kR hS
end Go.AM
set_option linter.unusedVariables false
namespace Go.AM
open IntKind (wrap)
open Go.Proofs
theorem As0 {A R:Type}{body:(A->Option R)->A->Option R}(I:Nat->A->Prop)(n:Nat)(J3:R->Prop)
 (hstep:∀self i a,i<=n->I i a->(i<n->∀a',I (i+1) a' -> ∃r,self a' = some r/\J3 r)->∃r,body self a=some r/\J3 r) :
 ∀(N i:Nat) (a:A),i<=n->I i a->n-i<N->∃r,U3 N body a=some r/\J3 r
 |0,_,_,_,_,h=>by omega
 |N+1,i,a,hi,hI,h=>by rw[P0];exact hstep _ i a hi hI fun hlt a' hI'=>As0 I n J3 hstep N (i+1) a' hlt hI' (by omega)
theorem Cg {A R:Type}{body:(A->Option R)->A->Option R}(I:Nat->A->Prop)(n:Nat)(J3:R->Prop){N:Nat}(hN:n<N){a:A}(h0:I 0 a)
 (hstep:∀self i a,i<=n->I i a->(i<n->∀a',I (i+1) a' -> ∃r,self a' = some r/\J3 r)->∃r,body self a=some r/\J3 r):∃r,U3 N body a=some r/\J3 r:=
 As0 I n J3 hstep N 0 a (Ba0 _) h0 hN
theorem T1 {A B R:Type}{body:(A->B->Option R)->A->B->Option R}(I:Nat->A->B->Prop)(n:Nat)(J3:R->Prop){N:Nat}(hN:n<N){a:A}{b:B}(h0:I 0 a b)
 (hstep:∀self i a b,i<=n->I i a b->(i<n->∀a' b',I (i+1) a' b' -> ∃r,self a' b' = some r/\J3 r)->∃r,body self a b=some r/\J3 r):∃r,P6 N body a b=some r/\J3 r:=
 As0 (fun i x=>I i x.1 x.2) n J3 (fun self i x hi hI h=>hstep (fun a b=>self (a,b)) i x.1 x.2 hi hI fun hl a' b' hI'=>h hl (a',b') hI') N 0 (a,b) (Ba0 _) h0 hN
theorem Af6 {A B C R:Type}{body:(A->B->C->Option R)->A->B->C->Option R}(I:Nat->A->B->C->Prop)(n:Nat)(J3:R->Prop){N:Nat}(hN:n<N){a:A}{b:B}{c:C}(h0:I 0 a b c)
 (hstep:∀self i a b c,i<=n->I i a b c->(i<n->∀a' b' c',I (i+1) a' b' c' -> ∃r,self a' b' c' = some r/\J3 r)->∃r,body self a b c=some r/\J3 r):∃r,AC6 N body a b c=some r/\J3 r:=
 As0 (fun i x=>I i x.1 x.2.1 x.2.2) n J3 (fun self i x hi hI h=>hstep (fun a b c=>self (a,b,c)) i x.1 x.2.1 x.2.2 hi hI fun hl a' b' c' hI'=>h hl (a',b',c') hI') N 0 (a,b,c) (Ba0 _) h0 hN
theorem B4 {X R:Type}{Q:R->Prop}{o:Option X}{f:X->Option R}{x:X}(h:o=some x)(h2:∃r,f x=some r/\Q r):∃r,o.bind f=some r/\Q r:=by subst h;exact h2
theorem ltX {R A:Type}{Q:R->Prop}{k:A->Option R}{f:(A->Option R)->Option R}(h:∃r,f k=some r/\Q r):∃r,lt k f=some r/\Q r:=h
theorem ifT {R:Type}{Q:R->Prop}{p:Prop}[Decidable p]{a b:Option R}(h:p)(h2:∃r,a=some r/\Q r):∃r,(if p then a else b)=some r/\Q r:=by rw[if_pos h];exact h2
theorem ifF {R:Type}{Q:R->Prop}{p:Prop}[Decidable p]{a b:Option R}(h:¬p)(h2:∃r,b=some r/\Q r):∃r,(if p then a else b)=some r/\Q r:=by rw[if_neg h];exact h2
theorem F0 {n:Int}(h : -9223372036854775808<=n)(h' : n<=9223372036854775807):IntKind.i64.wrap n=n:=by
 by_cases h0:0<=n
 ·have h1:n % (2 ^ 64:Int)=n:=Bc4 h0 (by omega);unfold wrap;simp only[IntKind.bits,IntKind.signed,h1];rw[if_neg];simp;omega
 ·have h1:n % (2 ^ 64:Int)=n+2 ^ 64:=by rw[<- Int.add_emod_right];exact Bc4 (by omega) (by omega)
  unfold wrap;simp only[IntKind.bits,IntKind.signed,h1];rw[if_pos]
  ·omega
  ·simp;omega
theorem C0 {i:Nat}(h:i<1000000000000000000):IntKind.i64.wrap ((i:Int)+1)=((i+1:Nat):Int):=by rw[F0 (by omega) (by omega)];rfl
theorem AP6 {i:Nat}(h0:1<=i)(h:i<1000000000000000000):IntKind.i64.wrap ((i:Int)-1)=((i-1:Nat):Int):=by rw[F0 (by omega) (by omega)];omega
theorem Dp {i j:Nat}(h:i+j<1000000000000000000):IntKind.i64.wrap ((i:Int)+(j:Int))=((i+j:Nat):Int):=by rw[F0 (by omega) (by omega)];rfl
theorem WT {N n:Nat}(hn:n<=32)(hN:1000<=N):∃s,CA N (n:Int)=some s/\s.n=n+1/\TabR n (fun a b=>a=b) s.g:=by
 unfold CA;rw[C0 (by omega)];refine ifT (by omega) ?_;refine T1 (fun i x1 x2=>x2=(i:Int)/\x1.n=n+1/\∀a,a<i->x1.g a=U (1#64 <<< a)) (n+1) _ (by omega) ⟨rfl,by show ((n+1:Nat):Int).toNat=n+1;omega,fun a ha=>absurd ha (by omega)⟩ ?_;rintro self i x1 x2 hi ⟨rfl,h1,h2⟩ hs;by_cases hl:i<=n
 ·refine ifT (by simp;omega) (ifT ⟨⟨by omega,by omega,by omega⟩,by omega⟩ (hs (by omega) _ _ ⟨C0 (by omega),h1,fun a ha=>?_⟩));show (if a=(i:Int).toNat then shI .shl .u64 1 (i:Int)else x1.g a)=_;by_cases e:a=i
  ·subst e;rw[if_pos (by omega),SP _ (by omega)]
  ·rw[if_neg (by omega)];exact h2 a (by omega)
 ·refine ifF (by simp;omega) ⟨x1,rfl,h1,fun a ha=>⟨1#64 <<< a,h2 a (by omega),fun b hb=>?_⟩⟩;rw[FN (by omega) hb,decide_eq_true_eq];omega
theorem As1 {n:Nat}{f:Nat->Int}(h:∀a,a<=n->f a=0):TabR n (fun _ _=>False) f:=fun a ha=>⟨0#64,h a ha,fun b hb=>by simp⟩
theorem WU {N n:Nat}{R S:Nat->Nat->Prop}{x y:Sl Int}(hn:n<=32)(hN:1000<=N)(hx:x.n=n+1)(hy:y.n=n+1)(hR:TabR n R x.g)(hS:TabR n S y.g) :∃s,CB N x y=some s/\s.n=n+1/\TabR n (fun a b=>R a b \/ S a b) s.g:=by
 unfold CB;refine ifT (by omega) ?_;refine T1 (fun i x1 x2=>x2=(i:Int)/\x1.n=n+1/\∀a,a<i->x1.g a=E4 .or .u64 (x.g a) (y.g a)) (n+1) _ (by omega) ⟨rfl,by show (x.n:Int).toNat=n+1;omega,fun a ha=>absurd ha (by omega)⟩ ?_;rintro self i x1 x2 hi ⟨rfl,h1,h2⟩ hs;by_cases hl:i<=n
 ·refine ifT (by simp;omega) (ifT (by omega) (hs (by omega) _ _ ⟨C0 (by omega),h1,fun a ha=>?_⟩));show (if a=(i:Int).toNat then _ else x1.g a)=_;by_cases e:a=i
  ·subst e;rw[if_pos (by omega),AR8]
  ·rw[if_neg (by omega)];exact h2 a (by omega)
 ·refine ifF (by simp;omega) ⟨x1,rfl,h1,fun a ha=>?_⟩;obtain⟨u,e1,g1⟩:=hR a ha;obtain⟨v,e2,g2⟩:=hS a ha;refine⟨u ||| v,by rw[h2 a (by omega),e1,e2,AR4],fun b hb=>?_⟩;rw[AT2,AT6,g1 b hb,g2 b hb];constructor
  ·rintro (⟨h1,h2⟩ | ⟨h1,h2⟩)
   ·exact⟨h1,.inl h2⟩
   ·exact⟨h1,.inr h2⟩
  ·rintro⟨h1,h2|h2⟩
   ·exact .inl ⟨h1,h2⟩
   ·exact .inr ⟨h1,h2⟩
theorem Af7 {N n:Nat}{x y:Sl Int}(hn:n<=32)(hN:1000<=N)(hx:x.n=n+1)(hy:y.n=n+1) :∃b,Dc N x y=some b/\(b=true ↔ ∀a,a<=n->x.g a=y.g a):=by
 unfold Dc;refine Cg (fun i x1=>x1=(i:Int)/\∀a,a<i->x.g a=y.g a) (n+1) _ (by omega) ⟨rfl,fun a ha=>absurd ha (by omega)⟩ ?_;rintro self i x1 hi ⟨rfl,h2⟩ hs;by_cases hl:i<=n
 ·refine ifT (by simp;omega) (ifT (by omega) ?_);rw[AR8];by_cases e:x.g i=y.g i
  ·refine ifF (by simp[e]) (hs (by omega) _ ⟨C0 (by omega),fun a ha=>?_⟩);by_cases h:a=i
   ·subst h;exact e
   ·exact h2 a (by omega)
  ·refine ifT (by simp[e]) ⟨false,rfl,by simp;exact⟨i,hl,e⟩⟩
 ·exact ifF (by simp;omega) ⟨true,rfl,by simp;exact fun a ha=>h2 a (by omega)⟩
theorem Pj {N n:Nat}{R S:Nat->Nat->Prop}{x y:Sl Int}(hn:n<=32)(hN:1000<=N)(hx:x.n=n+1)(hy:y.n=n+1)(hR:TabR n R x.g)(hS:TabR n S y.g) :∃s,V9 N x y=some s/\s.n=n+1/\TabR n (fun a b=>∃c,c<=n/\R a c/\S c b) s.g:=by
 unfold V9;refine ifT (by omega) ?_
 let Row (z:BitVec 64) (a j:Nat):Prop:=∀b,b<64->(z.getLsbD b=true↔b<=n/\∃c,c<j/\c<=n/\R a c/\S c b)
 refine T1 (fun i x1 x2=>x2=(i:Int)/\x1.n=n+1/\(∀a,a<i->∃z,x1.g a=U z/\Row z a (n+1))/\∀a,i<=a->x1.g a=0) (n+1) _ (by omega) ⟨rfl,by show (x.n:Int).toNat=n+1;omega,fun a ha=>absurd ha (by omega),fun a _=>rfl⟩ ?_;rintro self i x1 x2 hi ⟨rfl,h1,h2,h3⟩ hs;by_cases hl:i<=n
 ·refine ifT (by simp;omega) ?_;refine T1 (fun j x7 x8=>x8=(j:Int)/\x7.n=n+1/\(∀a,a<i->∃z,x7.g a=U z/\Row z a (n+1))/\(∃z,x7.g i=U z/\Row z i j)/\∀a,i<a->x7.g a=0) (n+1) _ (by omega)
   ⟨rfl,h1,h2,⟨0#64,h3 i (AS4 _),fun b hb=>by simp⟩,fun a ha=>h3 a (by omega)⟩ ?_
  rintro self2 j x7 x8 hj ⟨rfl,g1,g2,⟨z,g3,g4⟩,g5⟩ hs2;by_cases hl2:j<=n
  ·refine ifT (by simp;omega) (ifT (by omega) ?_);rw[AR8,AR8];have hbit:=hR.bit hl (b:=j) (by omega);by_cases hc:R i j
   ·refine ifT (hbit.2 ⟨hl2,hc⟩) (ifT (by omega) (hs2 (by omega) _ _ ⟨C0 (by omega),g1,fun a ha=>?_,?_,fun a ha=>?_⟩))
    ·obtain⟨z',e,hz⟩:=g2 a ha;exact⟨z',by show (if a=i then _ else x7.g a)=_;rw[if_neg (by omega)];exact e,hz⟩
    ·obtain⟨v,e,hv⟩:=hS j hl2;refine⟨z ||| v,by show (if i=i then _ else _)=_;rw[if_pos rfl,g3,e,AR4],fun b hb=>?_⟩;rw[AT2,AT6,g4 b hb,hv b hb];constructor
     ·rintro (⟨k1,c,k2,k3⟩ | ⟨k1,k2⟩)
      ·exact⟨k1,c,by omega,k3⟩
      ·exact⟨k1,j,by omega,hl2,hc,k2⟩
     ·rintro⟨k1,c,k2,k3,k4,k5⟩;by_cases e:c=j
      ·subst e;exact .inr ⟨k1,k5⟩
      ·exact .inl ⟨k1,c,by omega,k3,k4,k5⟩
    ·show (if a=i then _ else x7.g a)=_;rw[if_neg (by omega)];exact g5 a ha
   ·refine ifF (fun h=>hc (hbit.1 h).2) (hs2 (by omega) _ _ ⟨C0 (by omega),g1,g2,⟨z,g3,fun b hb=>?_⟩,g5⟩);rw[g4 b hb];constructor
    ·rintro⟨k1,c,k2,k3⟩;exact⟨k1,c,by omega,k3⟩
    ·rintro⟨k1,c,k2,k3,k4,k5⟩;by_cases e:c=j
     ·subst e;exact absurd k4 hc
     ·exact⟨k1,c,by omega,k3,k4,k5⟩
  ·refine ifF (by simp;omega) (hs (by omega) _ _ ⟨C0 (by omega),g1,fun a ha=>?_,fun a ha=>g5 a (by omega)⟩);by_cases e:a=i
   ·subst e;obtain rfl:j=n+1:=by omega
    exact⟨z,g3,g4⟩
   ·exact g2 a (by omega)
 ·refine ifF (by simp;omega) ⟨x1,rfl,h1,fun a ha=>?_⟩;obtain⟨z,e,hz⟩:=h2 a (by omega);refine⟨z,e,fun b hb=>(hz b hb).trans ⟨fun⟨k1,c,_,k3⟩=>⟨k1,c,k3⟩,fun⟨k1,c,k3⟩=>⟨k1,c,by omega,k3⟩⟩⟩
end Go.AM
set_option linter.unusedVariables false
namespace Go.AM
open Go.Proofs
def okP:Nat->Pat->Prop
 |0,_=>False
 |d+1,p=>p.L.n<=40/\(p.Kind=5->p.L.n=1/\0<=p.Min/\p.Min<=32/\(p.Max = -1 \/ (p.Min<=p.Max/\p.Max<=32)))/\∀i,i<p.L.n->okP d (p.L.g i)
theorem Kt (w:Sl Sound)(p:Pat)(a b:Nat):PR w p a b↔(if p.Kind=0 then a=b
 else if p.Kind=1 then a<w.n/\b=a+1/\(Vg (w.g a) p.Is != p.Not)=true
 else if p.Kind=2 then a=0/\b=0
 else if p.Kind=6 then a=w.n/\b=w.n
 else if p.Kind=3 then YK w.n (fun i=>PR w (p.L.g i)) p.L.n a b
 else if p.Kind=4 then ∃i,i<p.L.n/\PR w (p.L.g i) a b
 else if p.Kind=5 then ∃k:Nat,p.Min<=k/\(p.Max = -1 \/ (k:Int)<=p.Max)/\Hd w.n (PR w (p.L.g 0)) k a b
 else False):=by
 cases p with
 |nil=>simp[PR,Pat.Kind]
 |mk kind is no mn mx m g=>exact Bc0
def R0 (w:Sl Sound)(p:Pat)(a b:Nat):Prop:=if p.Kind=0 then a=b
 else if p.Kind=1 then a<w.n/\b=a+1/\(Vg (w.g a) p.Is != p.Not)=true
 else if p.Kind=2 then a=0/\b=0
 else if p.Kind=6 then a=w.n/\b=w.n
 else False
theorem Ax8 {n:Nat}{R:Nat->Nat->Prop}(hR:Fwd n R){mn k:Nat}(hk:mn<k)(h:∀a b,a<=n->b<=n->Hd n R k a b->∃j,mn<=j/\j<k/\Hd n R j a b){a:Nat}(ha:a<=n) :∀m b,mn<=m->Hd n R m a b->∃j,mn<=j/\j<k/\Hd n R j a b
 |0,b,hm,hp=>⟨0,hm,by omega,hp⟩
 |m+1,b,hm,hp=>by
  by_cases hmk:m+1<k
  ·exact⟨m+1,hm,hmk,hp⟩
  ·obtain⟨c,hc,h1,h2⟩:=hp;have hb:=(hR c b hc h2).2;obtain⟨j,g1,g2,g3⟩:=Ax8 hR hk h ha m c (by omega) h1;by_cases e:j+1<k
   ·exact⟨j+1,by omega,e,c,hc,g3,h2⟩
   ·obtain rfl:k=j+1:=by omega
    exact h a b ha hb ⟨c,hc,g3,h2⟩
theorem MF {N:Nat}(hN:1000<=N){w:Sl Sound}(hw:w.n<=32):∀(d:Nat) (p:Pat),okP d p->∀M,N+d<=M->∃t,BC M p w=some t/\t.n=w.n+1/\TabR w.n (PR w p) t.g
 |0,p,h,M,hM=>h.elim
 |d+1,p,⟨hc,h5,hch⟩,0,hM=>by omega
 |d+1,p,⟨hc,h5,hch⟩,M+1,hM=>by
  have ih:=fun i hi=>MF hN hw d (p.L.g i) (hch i hi) M (by omega);show ∃t,Bh (BC M) M p w=some t/\_;unfold Bh;rw[C0 (by omega)];refine ifT (by omega) ?_;refine T1 (fun i x1 x2=>x2=(i:Int)/\x1.n=w.n+1/\(∀a,a<i->∃z:BitVec 64,x1.g a=U z/\∀b,b<64->(z.getLsbD b=true↔b<=w.n/\R0 w p a b))/\∀a,i<=a->x1.g a=0) (w.n+1) _ (by omega)
   ⟨rfl,by show ((w.n+1:Nat):Int).toNat=w.n+1;omega,fun a ha=>absurd ha (by omega),fun _ _=>rfl⟩ ?_
  rintro self i x1 x2 hi ⟨rfl,h1,h2,h3⟩ hs;have keep:(∀b,b<=w.n->¬R0 w p i b)->(∀a,a<i+1->∃z:BitVec 64,x1.g a=U z/\∀b,b<64->(z.getLsbD b=true↔b<=w.n/\R0 w p a b)):=by
   intro h a ha;by_cases e:a=i
   ·subst e;exact⟨0#64,h3 a (AS4 _),fun b hb=>by simp;exact h b⟩
   ·exact h2 a (by omega)
  have put:∀(z:BitVec 64) (v:Int),v=U z->(∀b,b<64->(z.getLsbD b=true↔b<=w.n/\R0 w p i b)) ->
   (∀a,a<i+1->∃z:BitVec 64,(x1.upd (i:Int).toNat v).g a=U z/\∀b,b<64->(z.getLsbD b=true↔b<=w.n/\R0 w p a b))/\∀a,i+1<=a->(x1.upd (i:Int).toNat v).g a=0:=by
   intro z v hv hz;refine⟨fun a ha=>?_,fun a ha=>?_⟩
   ·by_cases e:a=i
    ·subst e;exact⟨z,by show (if a=(a:Int).toNat then v else _)=_;rw[if_pos (by omega),hv],hz⟩
    ·obtain⟨z',e1,e2⟩:=h2 a (by omega);exact⟨z',by show (if a=(i:Int).toNat then v else x1.g a)=_;rw[if_neg (by omega)];exact e1,e2⟩
   ·show (if a=(i:Int).toNat then v else x1.g a)=0;rw[if_neg (by omega)];exact h3 a (by omega)
  by_cases hl:i<=w.n
  ·refine ifT (by simp;omega) ?_;by_cases k0:p.Kind=0
   ·refine ifT (by simp[k0]) (ifT (by omega) ?_);obtain⟨p1,p2⟩:=put (1#64 <<< i) _ (SP i (by omega)) (fun b hb=>by rw[FN (by omega) hb,decide_eq_true_eq];simp only[R0,k0,if_true];omega);exact hs (by omega) _ _ ⟨C0 (by omega),h1,p1,p2⟩
   refine ifF (by simp[k0]) ?_;by_cases k1:p.Kind=1
   ·refine ifT (by simp[k1]) ?_;have e0:∀b,R0 w p i b↔i<w.n/\b=i+1/\(Vg (w.g i) p.Is != p.Not)=true:=fun b=>by simp only[R0,k1];simp
    by_cases hlt:i<w.n
    ·refine ifT (by simp;omega) (ifT (by omega) ?_);refine B4 (x:=Vg (w.g i) p.Is) (by rw[AR8];rfl) ?_;by_cases hb:Vg (w.g i) p.Is=p.Not
     ·refine ifF (by simp[hb]) (hs (by omega) _ _ ⟨C0 (by omega),h1,keep fun b _=>?_,fun a ha=>h3 a (by omega)⟩);rw[e0];simp[hb]
     ·refine ifT (by simp[hb]) ?_;rw[C0 (by omega)];refine ifT (by omega) ?_;obtain⟨p1,p2⟩:=put (1#64 <<< (i+1)) _ (SP (i+1) (by omega)) (fun b hb'=>by
       rw[FN (by omega) hb',decide_eq_true_eq,e0]
       have:(Vg (w.g i) p.Is != p.Not)=true:=by simp[hb]
       simp only[this,and_true];omega)
      exact hs (by omega) _ _ ⟨rfl,h1,p1,p2⟩
    ·refine ifF (by simp;omega) (hs (by omega) _ _ ⟨C0 (by omega),h1,keep fun b _=>?_,fun a ha=>h3 a (by omega)⟩);rw[e0];omega
   refine ifF (by simp[k1]) ?_;by_cases k2:p.Kind=2
   ·refine ifT (by simp[k2]) ?_;have e0:∀b,R0 w p i b↔i=0/\b=0:=fun b=>by simp only[R0,k2];simp
    by_cases hz:i=0
    ·refine ifT (by simp;omega) (ifT (by omega) ?_);obtain⟨p1,p2⟩:=put 1#64 _ AP4 (fun b hb'=>by rw[Vf,decide_eq_true_eq,e0];omega);exact hs (by omega) _ _ ⟨C0 (by omega),h1,p1,p2⟩
    ·refine ifF (by simp;omega) (hs (by omega) _ _ ⟨C0 (by omega),h1,keep fun b _=>?_,fun a ha=>h3 a (by omega)⟩);rw[e0];omega
   refine ifF (by simp[k2]) ?_;by_cases k6:p.Kind=6
   ·refine ifT (by simp[k6]) ?_;have e0:∀b,R0 w p i b↔i=w.n/\b=w.n:=fun b=>by simp only[R0,k6];simp
    by_cases hz:i=w.n
    ·refine ifT (by simp;omega) (ifT (by omega) ?_);obtain⟨p1,p2⟩:=put (1#64 <<< i) _ (SP i (by omega)) (fun b hb=>by rw[FN (by omega) hb,decide_eq_true_eq,e0];omega);exact hs (by omega) _ _ ⟨C0 (by omega),h1,p1,p2⟩
    ·refine ifF (by simp;omega) (hs (by omega) _ _ ⟨C0 (by omega),h1,keep fun b _=>?_,fun a ha=>h3 a (by omega)⟩);rw[e0];omega
   ·refine ifF (by simp[k6]) (hs (by omega) _ _ ⟨C0 (by omega),h1,keep fun b _=>?_,fun a ha=>h3 a (by omega)⟩);simp[R0,k0,k1,k2,k6]
  ·refine ifF (by simp;omega) ?_;have t0:TabR w.n (R0 w p) x1.g:=fun a ha=>h2 a (by omega);by_cases k3:p.Kind=3
   ·refine ifT (by simp[k3]) ?_;obtain⟨s,es,hs1,hs2⟩:=WT (N:=M) hw (by omega);refine B4 es ?_;refine T1 (fun i (x3:Sl Int) x4=>x4=(i:Int)/\x3.n=w.n+1/\TabR w.n (YK w.n (fun i=>PR w (p.L.g i)) i) x3.g) p.L.n _ (by omega) ⟨rfl,hs1,hs2.congr fun a b _ _=>Bc0⟩ ?_;rintro self2 j x3 x4 hj ⟨rfl,g1,g2⟩ hs3;by_cases hl2:j<p.L.n
    ·obtain⟨t,et,ht1,ht2⟩:=ih j hl2;refine ifT (by simp;omega) (ifT (by omega) (B4 (by rw[AR8];exact et) ?_));obtain⟨f,ef,hf1,hf2⟩:=Pj (N:=M) hw (by omega) g1 ht1 g2 ht2;exact B4 ef (hs3 hl2 _ _ ⟨C0 (by omega),hf1,hf2⟩)
    ·obtain rfl:j=p.L.n:=by omega
     exact ifF (by simp) ⟨x3,rfl,g1,g2.congr fun a b _ _=>by rw[Kt];simp[k3]⟩
   refine ifF (by simp[k3]) ?_;by_cases k4:p.Kind=4
   ·refine ifT (by simp[k4]) ?_;refine T1 (fun i x3 x4=>x4=(i:Int)/\x3.n=w.n+1/\TabR w.n (fun a b=>∃q,q<i/\PR w (p.L.g q) a b) x3.g) p.L.n _ (by omega) ⟨rfl,h1,t0.congr fun a b _ _=>by simp[R0,k4]⟩ ?_;rintro self2 j x3 x4 hj ⟨rfl,g1,g2⟩ hs3;by_cases hl2:j<p.L.n
    ·obtain⟨t,et,ht1,ht2⟩:=ih j hl2;refine ifT (by simp;omega) (ifT (by omega) (B4 (by rw[AR8];exact et) ?_));obtain⟨f,ef,hf1,hf2⟩:=WU (N:=M) hw (by omega) g1 ht1 g2 ht2;refine B4 ef (hs3 hl2 _ _ ⟨C0 (by omega),hf1,hf2.congr fun a b _ _=>⟨?_,?_⟩⟩)
     ·rintro (⟨q,h1,h2⟩ | h)
      ·exact⟨q,by omega,h2⟩
      ·exact⟨j,by omega,h⟩
     ·rintro⟨q,h1,h2⟩;by_cases e:q=j
      ·subst e;exact .inr h2
      ·exact .inl ⟨q,by omega,h2⟩
    ·obtain rfl:j=p.L.n:=by omega
     exact ifF (by simp) ⟨x3,rfl,g1,g2.congr fun a b _ _=>by rw[Kt];simp[k4]⟩
   refine ifF (by simp[k4]) ?_;by_cases k5:p.Kind=5
   ·obtain⟨hn1,hm0,hm1,hmx⟩:=h5 k5;refine ifT (by simp[k5]) (ifT (by omega) ?_);obtain⟨one,eo,ho1,ho2⟩:=ih 0 (by omega);obtain⟨s,es,hs1,hs2⟩:=WT (N:=M) hw (by omega);refine B4 eo (B4 es ?_);have hF:=SS w (p.L.g 0);have fin:∀(t:Sl Int) (k:Nat),t.n=w.n+1->TabR w.n (fun a b=>∃j:Nat,p.Min<=j/\j<k/\Hd w.n (PR w (p.L.g 0)) j a b) t.g ->
     (∀a b,a<=w.n->b<=w.n->((∃j:Nat,p.Min<=j/\j<k/\Hd w.n (PR w (p.L.g 0)) j a b) ↔ ∃j:Nat,p.Min<=j/\(p.Max = -1 \/ (j:Int)<=p.Max)/\Hd w.n (PR w (p.L.g 0)) j a b)) ->
     ∃r,some t=some r/\r.n=w.n+1/\TabR w.n (PR w p) r.g:=by
     intro t k e1 e2 e3;exact⟨t,rfl,e1,e2.congr fun a b ha hb=>(e3 a b ha hb).trans (by rw[Kt];simp[k5])⟩
    refine Af6 (fun k (x8 x9:Sl Int) x10=>x10=(k:Int)/\x8.n=w.n+1/\x9.n=w.n+1/\TabR w.n (fun a b=>∃j:Nat,p.Min<=j/\j<k/\Hd w.n (PR w (p.L.g 0)) j a b) x8.g/\TabR w.n (Hd w.n (PR w (p.L.g 0)) k) x9.g/\(p.Max = -1 \/ (k:Int)<=p.Max)) 33 _ (by omega)
     ⟨rfl,h1,hs1,t0.congr fun a b _ _=>by simp[R0,k5],hs2.congr fun a b _ _=>Bc0,by omega⟩ ?_
    rintro self2 k x8 x9 x10 hk ⟨rfl,g1,g2,g3,g4,g5⟩ hs3;obtain⟨f,ef,hf1,hf2⟩:=Pj (N:=M) hw (by omega) g2 ho1 g4 ho2;have next:TabR w.n (Hd w.n (PR w (p.L.g 0)) (k+1)) f.g:=hf2
    by_cases hmin:p.Min<=(k:Int)
    ·refine ifT (by simpa using hmin) ?_;obtain⟨j,ej,hj1,hj2⟩:=WU (N:=M) hw (by omega) g1 g2 g3 g4;have hj3:TabR w.n (fun a b=>∃j:Nat,p.Min<=j/\j<k+1/\Hd w.n (PR w (p.L.g 0)) j a b) j.g:=hj2.congr fun a b _ _=>by
      constructor
      ·rintro (⟨q,h1,h2,h3⟩ | h)
       ·exact⟨q,h1,by omega,h3⟩
       ·exact⟨k,hmin,by omega,h⟩
      ·rintro⟨q,h1,h2,h3⟩;by_cases e:q=k
       ·subst e;exact .inr h3
       ·exact .inl ⟨q,h1,by omega,h3⟩
     refine B4 ej (ltX ?_);by_cases hmaxk:(k:Int)=p.Max
     ·refine ifT (by simp[hmaxk]) (ifT rfl (fin j (k+1) hj1 hj3 fun a b _ _=>⟨?_,?_⟩))
      ·rintro⟨q,h1,h2,h3⟩;exact⟨q,h1,.inr (by omega),h3⟩
      ·rintro⟨q,h1,h2,h3⟩;exact⟨q,h1,by omega,h3⟩
     ·refine ifF (by simp[hmaxk]) ?_;by_cases hgt:p.Min<(k:Int)
      ·refine ifT (by simpa using hgt) ?_;obtain⟨b,eb,hb⟩:=Af7 (N:=M) (x:=x8) (y:=j) hw (by omega) g1 hj1;refine B4 eb ?_;by_cases hbt:b=true
       ·refine ifT hbt (fin j (k+1) hj1 hj3 fun a b ha hb'=>⟨?_,?_⟩)
        ·rintro⟨q,h1,h2,h3⟩;exact⟨q,h1,by omega,h3⟩
        ·rintro⟨q,h1,h2,h3⟩;have heq:=hb.1 hbt;obtain⟨q',k1,k2,k3⟩:=Ax8 hF (mn:=p.Min.toNat) (k:=k) (by omega) (fun a b ha hb' hp=>by have e1:=hj3.bit ha (b:=b) (by omega);have e2:=g3.bit ha (b:=b) (by omega);rw[<- heq a ha]at e1;obtain⟨_,q,k1,k2,k3⟩:=e2.1 (e1.2 ⟨hb',k,hmin,by omega,hp⟩);exact⟨q,by omega,k2,k3⟩) ha q b (by omega) h3
         exact⟨q',by omega,by omega,k3⟩
       ·refine ifF hbt (B4 ef ?_);have hk33:k<33:=by
         refine Nat.lt_of_le_of_ne hk fun e=>hbt (hb.2 fun a ha=>?_);subst e;refine g3.uniq (hj3.congr fun a b ha hb'=>⟨?_,?_⟩) ha
         ·rintro⟨q,h1,h2,h3⟩;by_cases e:q=33
          ·subst e;exact⟨32,by omega,by omega,SQ hF ha hw h3⟩
          ·exact⟨q,h1,by omega,h3⟩
         ·rintro⟨q,h1,h2,h3⟩;exact⟨q,h1,by omega,h3⟩
        exact hs3 hk33 _ _ _ ⟨C0 (by omega),hj1,hf1,hj3,next,by omega⟩
      ·refine ifF (by simpa using hgt) (ifF (by simp) (B4 ef (hs3 (by omega) _ _ _ ⟨C0 (by omega),hj1,hf1,hj3,next,by omega⟩)))
    ·refine ifF (by simpa using hmin) (B4 ef (hs3 (by omega) _ _ _ ⟨C0 (by omega),g1,hf1,g3.congr fun a b _ _=>⟨?_,?_⟩,next,by omega⟩))
     ·rintro⟨q,h1,h2,h3⟩;omega
     ·rintro⟨q,h1,h2,h3⟩;omega
   ·refine ifF (by simp[k5]) ⟨x1,rfl,h1,t0.congr fun a b _ _=>?_⟩;rw[Kt];simp[R0,k3,k4,k5]
end Go.AM
set_option linter.unusedVariables false
namespace Go.AM
open IntKind (wrap)
open Go.Proofs
abbrev sOf (x y:BitVec 32):Sound:=⟨(x.toNat:Int),(y.toNat:Int)⟩
def okS (s:Sound):Prop:=∃p m:BitVec 32,s=sOf p m
theorem eq0 (x:BitVec 32):((x.toNat:Int)==0)=decide (x=0#32):=by
 rw[AU7];simp only[beq_iff_eq,decide_eq_true_eq];constructor
 ·intro h;apply AV7;show x.toNat=0;omega
 ·rintro rfl;rfl
theorem z32 (x:BitVec 32):x=0#32 ↔ ∀i,i<32->x.getLsbD i=false:=by
 constructor
 ·rintro rfl i hi;simp
 ·intro h;apply AX3;intro i hi;rw[h i hi];simp
theorem ID {x y:BitVec 32}(h:∀b,b<32->x.getLsbD b=y.getLsbD b):x=y:=AX3 h
theorem WV (x:BitVec 32)(i:Nat):(E4 .and .u32 (shI .shr .u32 (x.toNat:Int) (i:Int)) 1==1)=x.getLsbD i:=by
 rw[Aw8,show (1:Int)=((1#32).toNat:Int) from rfl,EA];have h:(x >>> i &&& 1#32)=(BitVec.ofBool (x.getLsbD i)).setWidth 32:=by
  apply AX3;intro j hj;simp only[AT3,Bf9,Bg6,Bh8];by_cases h0:j=0
  ·subst h0;simp
  ·have:(1#32).getLsbD j=false:=by rw[Bg1];simp[h0]
   simp[this,h0]
 rw[h];cases x.getLsbD i<;>rfl
theorem AF8 (i:Nat):shI .shl .u32 1 (i:Int)=((1#32 <<< i).toNat:Int):=by rw[show (1:Int)=((1#32).toNat:Int) from rfl,AM4]
theorem Af8 {i j:Nat}(hj:j<32):(1#32 <<< i).getLsbD j=decide (j=i):=by
 rw[Bg4,Bg1];by_cases h:j=i
 ·subst h;simp[hj]
 ·by_cases h2:j<i
  ·simp[h,h2]
  ·have:j-i≠0:=by omega
   simp[h,this]
theorem Gc (x:BitVec 32):x.toNat<16777216 ↔ ∀i,24<=i->i<32->x.getLsbD i=false:=by
 constructor
 ·intro h i hi hi2;exact Bh2 (AT8 h (Bb0 (n:=2) (i:=24) (by omega) hi))
 ·intro h;refine Nat.lt_pow_two_of_testBit (n:=24) _ fun i hi=>?_;by_cases h2:i<32
  ·exact h i hi h2
  ·exact Bh2 (AT8 x.isLt (Bb0 (by omega) (by omega)))
def vB (p m:BitVec 32):Bool:=decide (∀i:Fin 32,¬(p.getLsbD i=true/\m.getLsbD i=true)/\(24<=i.1->p.getLsbD i=false/\m.getLsbD i=false))
theorem Fl (p m:BitVec 32):vB p m=true ↔ ∀i,i<32->¬(p.getLsbD i=true/\m.getLsbD i=true)/\(24<=i->p.getLsbD i=false/\m.getLsbD i=false):=by rw[vB,decide_eq_true_eq];exact⟨fun h i hi=>h ⟨i,hi⟩,fun h i=>h i.1 i.2⟩
theorem WW (p m:BitVec 32):p &&& m=0#32 ↔ ∀i,i<32->¬(p.getLsbD i=true/\m.getLsbD i=true):=by rw[z32];refine forall_congr' fun i=>forall_congr' fun hi=>?_;rw[AT3,Bh9];cases p.getLsbD i<;>cases m.getLsbD i<;>simp
theorem AP7 (p m:BitVec 32):vB p m=true↔p &&& m=0#32/\(p ||| m).toNat<16777216:=by
 rw[Fl,WW,Gc];constructor
 ·intro h;refine⟨fun i hi=>(h i hi).1,fun i h1 h2=>?_⟩
  have:=(h i h2).2 h1
  rw[AT2,this.1,this.2];rfl
 ·rintro⟨h1,h2⟩ i hi;refine⟨h1 i hi,fun h24=>?_⟩
  have:=h2 i h24 hi
  rw[AT2,Bb1]at this;exact this
theorem AP8 (p m:BitVec 32):vB p m=true↔p &&& m=0#32/\p.toNat<16777216/\m.toNat<16777216:=by rw[Fl,WW,Gc,Gc];exact⟨fun h=>⟨fun i hi=>(h i hi).1,fun i h1 h2=>((h i h2).2 h1).1,fun i h1 h2=>((h i h2).2 h1).2⟩,fun⟨h1,h2,h3⟩ i hi=>⟨h1 i hi,fun h24=>⟨h2 i h24 hi,h3 i h24 hi⟩⟩⟩
theorem Bp {N:Nat}(p m:BitVec 32):F6 N (sOf p m)=some (vB p m):=by unfold F6;rw[EA,JE,eq0];congr 1;rw[AU7,AP7];simp only[AS3,decide_eq_true_eq];exact⟨fun h=>⟨h.1,by have:=h.2;omega⟩,fun h=>⟨h.1,by have:=h.2;omega⟩⟩
theorem shr24 (x:BitVec 32):(shI .shr .u32 (x.toNat:Int) 24==0)=decide (x.toNat<16777216):=by
 rw[show (24:Int)=((24:Nat):Int) from rfl,Aw8,AU7];simp only[beq_iff_eq,decide_eq_true_eq,Bd2,Bc9]
 have:=Bj0 (a:=x.toNat) (b:=2 ^ 24)
 omega
theorem Tm {N:Nat}(p m:BitVec 32):AL N (sOf p m)=some (vB p m):=by unfold AL;rw[EA,JE,eq0,shr24];congr 1;rw[AU7,AP7];simp only[AS3,decide_eq_true_eq]
theorem Tn {N:Nat}(p m:BitVec 32):N6 N (sOf p m)=some (vB p m):=Tm (N:=N) p m
theorem Pk {N:Nat}(p m:BitVec 32):P7 N (sOf p m)=some (vB p m):=by unfold P7;rw[EA,eq0];congr 1;rw[AU7,AP8];simp only[AS3,decide_eq_true_eq];exact⟨fun h=>⟨h.1.1,by have:=h.1.2;omega,by have:=h.2;omega⟩,fun h=>⟨⟨h.1,by have:=h.2.1;omega⟩,by have:=h.2.2;omega⟩⟩
theorem Z2 {N:Nat}(p m:BitVec 32)(hN:1000<=N):H0 N (sOf p m)=some (vB p m):=by
 suffices h:∃r,H0 N (sOf p m)=some r/\r=vB p m by obtain⟨r,h,rfl⟩:=h;exact h
 unfold H0;refine Cg (fun i x1=>x1=(i:Int)/\∀j,j<i->¬(p.getLsbD j=true/\m.getLsbD j=true)/\(24<=j->p.getLsbD j=false/\m.getLsbD j=false)) 32 _ (by omega) ⟨rfl,fun j hj=>absurd hj (by omega)⟩ ?_;rintro self i x1 hi ⟨rfl,h1⟩ hs;by_cases hl:i<32
 ·refine ifT (by simp;omega) (ifT (by omega) ?_);simp only[WV];have e24:decide ((24:Int)<=(i:Int))=decide (24<=i):=decide_eq_decide.2 (by omega);rw[e24];by_cases hb:¬(p.getLsbD i=true/\m.getLsbD i=true)/\(24<=i->p.getLsbD i=false/\m.getLsbD i=false)
  ·refine ifF ?_ (hs hl _ ⟨C0 (by omega),fun j hj=>?_⟩)
   ·intro h;obtain⟨h2,h3⟩:=hb;revert h h2 h3;by_cases h24:24<=i
    ·intro h h2 h3;obtain⟨a,b⟩:=h3 h24;simp[a,b]at h
    ·cases p.getLsbD i<;>cases m.getLsbD i<;>simp[h24]
   ·by_cases e:j=i
    ·subst e;exact hb
    ·exact h1 j (by omega)
  ·refine ifT ?_ ⟨false,rfl,?_⟩
   ·revert hb;by_cases h24:24<=i
    ·cases p.getLsbD i<;>cases m.getLsbD i<;>simp[h24]
    ·cases p.getLsbD i<;>cases m.getLsbD i<;>simp[h24]
   ·symm;rw[<- Be8,Fl];exact fun h=>hb (h i hl)
 ·refine ifF (by simp;omega) ⟨true,rfl,?_⟩;symm;rw[Fl];exact fun j hj=>h1 j (by omega)
def gB (p m:BitVec 32)(f:Nat):Int:=if p.getLsbD f=true then 1 else if m.getLsbD f=true then -1 else 0
theorem WX {N:Nat}(p m:BitVec 32)(hv:vB p m=true)(f:Nat)(hf:f<24)(hN:1000<=N):V8 N (sOf p m) (f:Int)=some (gB p m f):=by
 unfold V8;rw[Z2 p m hN];simp only[AS1,lt,Cv,WV,gB,hv];rw[if_pos (by omega:(0:Int)<=(f:Int)),if_pos (by omega:(0:Int)<=(f:Int))];have e:(decide ((0:Int)<=(f:Int))&&decide ((f:Int)<24))=true:=by simp;omega
 rw[e];cases h1:p.getLsbD f<;>cases h2:m.getLsbD f<;>simp
theorem gB_eq {p m a b:BitVec 32}(hv:vB p m=true)(hv' : vB a b=true)(f:Nat)(hf:f<32):(gB a b f≠0->gB p m f=gB a b f)↔((a.getLsbD f=true->p.getLsbD f=true)/\(b.getLsbD f=true->m.getLsbD f=true)):=by have h1:=((Fl p m).1 hv f hf).1;have h2:=((Fl a b).1 hv' f hf).1;revert h1 h2;simp only[gB];cases a.getLsbD f<;>cases b.getLsbD f<;>cases p.getLsbD f<;>cases m.getLsbD f<;>simp
def ZD (p m a b:BitVec 32):Bool:=vB p m&&(vB a b&&decide (∀i:Fin 32,(a.getLsbD i=true->p.getLsbD i=true)/\(b.getLsbD i=true->m.getLsbD i=true)))
theorem AF9 (a p:BitVec 32):a &&& ~~~ p=0#32 ↔ ∀i,i<32->(a.getLsbD i=true->p.getLsbD i=true):=by rw[z32];refine forall_congr' fun i=>forall_congr' fun hi=>?_;rw[AT3,AW9];cases a.getLsbD i<;>cases p.getLsbD i<;>simp[hi]
theorem AG0 {N:Nat}(p m a b:BitVec 32):I7 N (sOf p m) (sOf a b)=some (ZD p m a b):=by
 unfold I7;rw[Bp];simp only[AS1,lt,Bp,Ed,eq0,ZD];cases h1:vB p m
 ·simp
 cases h2:vB a b
 ·simp
 simp only[if_true,Bd5];have key:(decide (∀i:Fin 32,(a.getLsbD i=true->p.getLsbD i=true)/\(b.getLsbD i=true->m.getLsbD i=true)))=(decide (a &&& ~~~ p=0#32)&&decide (b &&& ~~~ m=0#32)):=by rw[AU7];simp only[AS3,decide_eq_true_eq,AF9];exact⟨fun h=>⟨fun i hi=>(h ⟨i,hi⟩).1,fun i hi=>(h ⟨i,hi⟩).2⟩,fun h i=>⟨h.1 i.1 i.2,h.2 i.1 i.2⟩⟩
 rw[key];by_cases h:a &&& ~~~ p=0#32
 ·simp[h]
 ·simp[h]
theorem AG1 {N:Nat}(p m a b:BitVec 32)(hN:1000<=N):O3 N (sOf p m) (sOf a b)=some (ZD p m a b):=by
 suffices h:∃r,O3 N (sOf p m) (sOf a b)=some r/\r=ZD p m a b by obtain⟨r,h,rfl⟩:=h;exact h
 unfold O3;rw[Z2 p m hN];refine B4 rfl (ltX ?_);cases h1:vB p m
 ·exact ifT (by simp) (ifT rfl ⟨false,rfl,by simp[ZD,h1]⟩)
 refine ifF (by simp) ?_;rw[Z2 a b hN];refine B4 rfl ?_;cases h2:vB a b
 ·exact ifT (by simp) ⟨false,rfl,by simp[ZD,h2]⟩
 refine ifF (by simp) ?_;refine Cg (fun i x3=>x3=(i:Int)/\∀j,j<i->((a.getLsbD j=true->p.getLsbD j=true)/\(b.getLsbD j=true->m.getLsbD j=true))) 24 _ (by omega) ⟨rfl,fun j hj=>absurd hj (by omega)⟩ ?_;rintro self i x3 hi ⟨rfl,h3⟩ hs;by_cases hl:i<24
 ·refine ifT (by simp;omega) (B4 (WX a b h2 i hl hN) (ltX ?_));have key:=gB_eq h1 h2 i (by omega);have fin:(¬(gB a b i≠0->gB p m i=gB a b i))->false=ZD p m a b:=fun hn=>by symm;simp only[ZD,h1,h2,Bd5];rw[<- Be8,decide_eq_true_eq];intro h;exact hn (key.2 (h ⟨i,by omega⟩))
  have go:(gB a b i≠0->gB p m i=gB a b i)->∃r,self (wrap .i64 ((i:Int)+1))=some r/\r=ZD p m a b:=fun hp=>hs hl _ ⟨C0 (by omega),fun j hj=>by
   by_cases e:j=i
   ·subst e;exact key.1 hp
   ·exact h3 j (by omega)⟩
  by_cases hz:gB a b i=0
  ·exact ifF (by simp[hz]) (ifF (by simp) (go fun h=>absurd hz h))
  ·refine ifT (by simp[hz]) (B4 (WX p m h1 i hl hN) ?_);by_cases he:gB p m i=gB a b i
   ·exact ifF (by simp[he]) (go fun _=>he)
   ·exact ifT (by simp[he]) ⟨false,rfl,fin fun h=>he (h hz)⟩
 ·refine ifF (by simp;omega) ⟨true,rfl,?_⟩;symm;simp only[ZD,h1,h2,Bd5,decide_eq_true_eq];intro j;by_cases hj:j.1<24
  ·exact h3 j.1 (by omega)
  ·have:=((Fl a b).1 h2 j.1 j.2).2 (by omega)
   exact⟨fun h=>by rw[this.1]at h;exact absurd h (by simp),fun h=>by rw[this.2]at h;exact absurd h (by simp)⟩
def QV (x y s:BitVec 32):BitVec 32:=(x &&& ~~~ s) ||| (y &&& s)
theorem Ax9 {N:Nat}(p m a b s:BitVec 32):Bz N (sOf p m) (sOf a b) (s.toNat:Int)=some (sOf (QV p a s) (QV m b s)):=by unfold Bz;simp only[Ed,EA,JE,QV]
def AP9 (x:BitVec 32)(f:Nat)(on:Bool):BitVec 32:=if on=true then (x &&& ~~~ (1#32 <<< f)) ||| (1#32 <<< f)else x &&& ~~~ (1#32 <<< f)
theorem Gw (x:BitVec 32)(f:Nat)(on:Bool){j:Nat}(hj:j<32):(AP9 x f on).getLsbD j=if j=f then on else x.getLsbD j:=by
 unfold AP9;cases on
 ·rw[if_neg (by simp),AT3,AW9,Af8 hj];by_cases e:j=f<;>simp[e,hj]
 ·rw[if_pos rfl,AT2,AT3,AW9,Af8 hj];by_cases e:j=f<;>simp[e,hj]
theorem Af9 {N:Nat}(p m:BitVec 32)(f:Nat)(v:Int):BU N (sOf p m) (f:Int) v=some (sOf (AP9 p f (v==1)) (AP9 m f (v == -1))):=by unfold BU;rw[if_pos (by omega)];simp only[AF8,Ed,JE];cases h1:v==1<;>cases h2:v == -1<;>simp[AP9]
def As2 (p m c a b:BitVec 32):Sound×Int:=if vB p m=true/\vB a b=true then (if c.toNat<16777216/\c &&& (a ||| b)=0#32 then (sOf (QV p a (c ||| (a ||| b))) (QV m b (c ||| (a ||| b))),0)else (⟨0,0⟩,2))else (⟨0,0⟩,14)
theorem Zd {N:Nat}(p m c a b:BitVec 32):N5 N (sOf p m) (c.toNat:Int) (sOf a b)=some (As2 p m c a b):=by
 unfold N5 As2;rw[Bp];simp only[AS1,lt,Bp,CY,JE,EA,Ax9];cases h1:vB p m
 ·simp
 cases h2:vB a b
 ·simp
 by_cases h3:c.toNat<16777216
 ·have e:((c &&& (a ||| b)).toNat:Int) != 0 ↔ ¬(c &&& (a ||| b)=0#32):=by
   have:=eq0 (c &&& (a ||| b))
   simp only[bne_iff_ne,ne_eq];rw[<- decide_eq_true_eq (p:=c &&& (a ||| b)=0#32),<- this];simp
  by_cases h4:c &&& (a ||| b)=0#32
  ·simp[h3,h4];omega
  ·have e':=e.2 h4;rw[if_neg (by simp<;>omega),e'];simp[h3,h4]
 ·simp[h3];omega
theorem Ze {N:Nat}(p m c a b:BitVec 32)(hN:1000<=N):P3 N (sOf p m) (c.toNat:Int) (sOf a b)=some (As2 p m c a b):=by
 suffices h:∃r,P3 N (sOf p m) (c.toNat:Int) (sOf a b)=some r/\r=As2 p m c a b by obtain⟨r,h,rfl⟩:=h;exact h
 unfold P3;rw[Z2 p m hN];refine B4 rfl (ltX ?_);cases h1:vB p m
 ·exact ifT (by simp) (ifT rfl ⟨_,rfl,by simp[As2,h1]⟩)
 refine ifF (by simp) ?_;rw[Z2 a b hN];refine B4 rfl ?_;cases h2:vB a b
 ·exact ifT (by simp) ⟨_,rfl,by simp[As2,h2]⟩
 refine ifF (by simp) ?_;rw[JE,EA];by_cases hc:c.toNat<16777216/\c &&& (a ||| b)=0#32
 ·obtain⟨hc1,hc2⟩:=hc;refine ifF (by rw[hc2];simp;omega) ?_;have hd:∀j,j<32->¬(c.getLsbD j=true/\(a.getLsbD j=true \/ b.getLsbD j=true)):=fun j hj=>by
   have:=(z32 _).1 hc2 j hj
   rw[AT3,AT2]at this;revert this;cases c.getLsbD j<;>cases a.getLsbD j<;>cases b.getLsbD j<;>simp
  refine Af6 (fun i x2 x3 x4=>x4=(i:Int)/\∃P M:BitVec 32,x2=(P.toNat:Int)/\x3=(M.toNat:Int)/\∀j,j<32 ->
   P.getLsbD j=(if j<i/\(c.getLsbD j=true \/ a.getLsbD j=true \/ b.getLsbD j=true)then a.getLsbD j else p.getLsbD j)/\M.getLsbD j=(if j<i/\(c.getLsbD j=true \/ a.getLsbD j=true \/ b.getLsbD j=true)then b.getLsbD j else m.getLsbD j)) 24 _ (by omega)
   ⟨rfl,p,m,rfl,rfl,fun j hj=>by simp⟩ ?_
  rintro self i x2 x3 x4 hi ⟨rfl,P,M,rfl,rfl,hPM⟩ hs;by_cases hl:i<24
  ·refine ifT (by simp;omega) (ifT (by omega) ?_);rw[WV];have hG:=WX (N:=N) a b h2 i hl hN;have hab:=((Fl a b).1 h2 i (by omega)).1;have hdi:=hd i (by omega);by_cases hci:c.getLsbD i=true
   ·refine ifT hci (B4 (Af9 P M i 0) (B4 hG ?_));have ea:a.getLsbD i=false:=by cases e:a.getLsbD i<;>simp_all
    have eb:b.getLsbD i=false:=by cases e:b.getLsbD i<;>simp_all
    refine ifF (by simp[gB,ea,eb]) (hs hl _ _ _ ⟨C0 (by omega),_,_,rfl,rfl,fun j hj=>?_⟩);rw[Gw _ _ _ hj,Gw _ _ _ hj];by_cases e:j=i
    ·subst e;simp[hci,ea,eb]
    ·have:=hPM j hj
     have e2:j<i+1↔j<i:=by omega
     simp only[e,if_false,e2];exact this
   ·refine ifF hci (B4 hG ?_);by_cases hz:gB a b i=0
    ·have ea:a.getLsbD i=false:=by revert hz;simp only[gB];cases a.getLsbD i<;>simp
     have eb:b.getLsbD i=false:=by revert hz;simp only[gB,ea];cases b.getLsbD i<;>simp
     refine ifF (by simp[hz]) (hs hl _ _ _ ⟨C0 (by omega),P,M,rfl,rfl,fun j hj=>?_⟩);by_cases e:j=i
     ·subst e;have:=hPM j hj;simpa[hci,ea,eb]using this
     ·have:=hPM j hj
      have e2:j<i+1↔j<i:=by omega
      simp only[e2];exact this
    ·refine ifT (by simp[hz]) (B4 hG (B4 (Af9 P M i _) (hs hl _ _ _ ⟨C0 (by omega),_,_,rfl,rfl,fun j hj=>?_⟩)));rw[Gw _ _ _ hj,Gw _ _ _ hj];by_cases e:j=i
     ·subst e;revert hz hab;simp only[gB];cases a.getLsbD j<;>cases b.getLsbD j<;>simp
     ·have:=hPM j hj
      have e2:j<i+1↔j<i:=by omega
      simp only[e,if_false,e2];exact this
  ·obtain rfl:i=24:=by omega
   refine ifF (by simp) ⟨_,rfl,?_⟩;simp only[As2,h1,h2,hc1,hc2,and_self,if_true];have hp:=(Fl p m).1 h1;have hA:=(Fl a b).1 h2;have hcs:=(Gc c).1 hc1;have eP:P=QV p a (c ||| (a ||| b)):=ID fun j hj=>by
    rw[(hPM j hj).1,QV,AT2,AT3,AT3,AW9,AT2,AT2];by_cases h24:j<24
    ·cases c.getLsbD j<;>cases a.getLsbD j<;>cases b.getLsbD j<;>cases p.getLsbD j<;>simp[h24,hj]
    ·have g1:=(hp j hj).2 (by omega);have g2:=(hA j hj).2 (by omega);simp[h24,g1.1,g2.1]
   have eM:M=QV m b (c ||| (a ||| b)):=ID fun j hj=>by
    rw[(hPM j hj).2,QV,AT2,AT3,AT3,AW9,AT2,AT2];by_cases h24:j<24
    ·cases c.getLsbD j<;>cases a.getLsbD j<;>cases b.getLsbD j<;>cases m.getLsbD j<;>simp[h24,hj]
    ·have g1:=(hp j hj).2 (by omega);have g2:=(hA j hj).2 (by omega);simp[h24,g1.2,g2.2]
   rw[eP,eM]
 ·refine ifT ?_ ⟨_,rfl,?_⟩
  ·rw[AT6,decide_eq_true_eq,bne_iff_ne];by_cases h:c.toNat<16777216
   ·right
    intro h0;exact hc ⟨h,AV7 (by show _=0;omega)⟩
   ·left;omega
  ·simp only[As2,h1,h2,and_self,if_true];rw[if_neg hc]
def As3 (p m a b s:BitVec 32):Sound×Int:=if vB p m=true/\vB a b=true then (if s.toNat<16777216 then (sOf (QV p a s) (QV m b s),0)else (⟨0,0⟩,2))else (⟨0,0⟩,14)
theorem As4 {N:Nat}(p m a b s:BitVec 32):S0 N (sOf p m) (sOf a b) (s.toNat:Int)=some (As3 p m a b s):=by
 unfold S0 As3;rw[Bp];simp only[AS1,lt,Bp,Ax9];cases h1:vB p m
 ·simp
 cases h2:vB a b
 ·simp
 by_cases h3:s.toNat<16777216
 ·simp[h3];omega
 ·simp[h3];omega
theorem As5 {N:Nat}(p m a b s:BitVec 32)(hN:1000<=N):Y2 N (sOf p m) (sOf a b) (s.toNat:Int)=some (As3 p m a b s):=by
 suffices h:∃r,Y2 N (sOf p m) (sOf a b) (s.toNat:Int)=some r/\r=As3 p m a b s by obtain⟨r,h,rfl⟩:=h;exact h
 unfold Y2;rw[Z2 p m hN];refine B4 rfl (ltX ?_);cases h1:vB p m
 ·exact ifT (by simp) (ifT rfl ⟨_,rfl,by simp[As3,h1]⟩)
 refine ifF (by simp) ?_;rw[Z2 a b hN];refine B4 rfl ?_;cases h2:vB a b
 ·exact ifT (by simp) ⟨_,rfl,by simp[As3,h2]⟩
 refine ifF (by simp) ?_;by_cases hc:s.toNat<16777216
 ·refine ifF (by simp;omega) ?_;refine Af6 (fun i x2 x3 x4=>x4=(i:Int)/\∃P M:BitVec 32,x2=(P.toNat:Int)/\x3=(M.toNat:Int)/\∀j,j<32 ->
   P.getLsbD j=(if j<i/\s.getLsbD j=true then a.getLsbD j else p.getLsbD j)/\M.getLsbD j=(if j<i/\s.getLsbD j=true then b.getLsbD j else m.getLsbD j)) 24 _ (by omega)
   ⟨rfl,p,m,rfl,rfl,fun j hj=>by simp⟩ ?_
  rintro self i x2 x3 x4 hi ⟨rfl,P,M,rfl,rfl,hPM⟩ hs;by_cases hl:i<24
  ·refine ifT (by simp;omega) (ifT (by omega) ?_);rw[WV];have hab:=((Fl a b).1 h2 i (by omega)).1;by_cases hci:s.getLsbD i=true
   ·refine ifT hci (B4 (WX (N:=N) a b h2 i hl hN) (B4 (Af9 P M i _) (hs hl _ _ _ ⟨C0 (by omega),_,_,rfl,rfl,fun j hj=>?_⟩)));rw[Gw _ _ _ hj,Gw _ _ _ hj];by_cases e:j=i
    ·subst e;revert hab;simp only[gB,hci];cases a.getLsbD j<;>cases b.getLsbD j<;>simp
    ·have:=hPM j hj
     have e2:j<i+1↔j<i:=by omega
     simp only[e,if_false,e2];exact this
   ·refine ifF hci (hs hl _ _ _ ⟨C0 (by omega),P,M,rfl,rfl,fun j hj=>?_⟩);by_cases e:j=i
    ·subst e;have:=hPM j hj;simpa[hci]using this
    ·have:=hPM j hj
     have e2:j<i+1↔j<i:=by omega
     simp only[e2];exact this
  ·obtain rfl:i=24:=by omega
   refine ifF (by simp) ⟨_,rfl,?_⟩;simp only[As3,h1,h2,hc,and_self,if_true];have hcs:=(Gc s).1 hc;have eP:P=QV p a s:=ID fun j hj=>by
    rw[(hPM j hj).1,QV,AT2,AT3,AT3,AW9];by_cases h24:j<24
    ·cases s.getLsbD j<;>cases a.getLsbD j<;>cases p.getLsbD j<;>simp[h24,hj]
    ·rw[if_neg (by simp[h24]),hcs j (by omega) hj];simp[hj]
   have eM:M=QV m b s:=ID fun j hj=>by
    rw[(hPM j hj).2,QV,AT2,AT3,AT3,AW9];by_cases h24:j<24
    ·cases s.getLsbD j<;>cases b.getLsbD j<;>cases m.getLsbD j<;>simp[h24,hj]
    ·rw[if_neg (by simp[h24]),hcs j (by omega) hj];simp[hj]
   rw[eP,eM]
 ·exact ifT (by simp;omega) ⟨_,rfl,by simp[As3,h1,h2,hc]⟩
end Go.AM
set_option linter.unusedVariables false
namespace Go.AM
open Go.Proofs
def vS (s:Sound):Prop:=∃p m:BitVec 32,s=sOf p m/\vB p m=true
def GA (p:Pat):Prop:=
 (0<=p.Kind/\p.Kind<=6)/\(p.Kind≠1->(p.Is.Plus=0/\p.Is.Minus=0)/\p.Not=false)/\(p.Kind≠3->p.Kind≠4->p.Kind≠5->p.L.n=0)/\(p.Kind≠5->p.Min=0/\p.Max=0) /\
 (p.Kind=5->p.L.n=1/\0<=p.Min/\p.Min<=32/\(p.Max = -1 \/ (p.Min<=p.Max/\p.Max<=32)))/\vS p.Is
theorem VF {s:Sound}{p m:BitVec 32}(h:s=sOf p m):vS s↔vB p m=true:=by
 constructor
 ·rintro⟨q,r,e,hv⟩;rw[h]at e;have e1:(p.toNat:Int)=q.toNat:=congrArg Sound.Plus e;have e2:(m.toNat:Int)=r.toNat:=congrArg Sound.Minus e;rw[AV7 (show p.toNat=q.toNat by omega),AV7 (show m.toNat=r.toNat by omega)];exact hv
 ·exact fun hv=>⟨p,m,h,hv⟩
def okPS:Pat->Prop
 |.nil=>True
 |.mk _ is _ _ _ n g=>okS is/\∀i,i<n->okPS (g i)
theorem okPS.is {p:Pat}(h:okPS p):okS p.Is:=by
 cases p with
 |nil=>exact⟨0#32,0#32,rfl⟩
 |mk _ is _ _ _ n g=>exact h.1
theorem okPS.L {p:Pat}(h:okPS p){i:Nat}(hi:i<p.L.n):okPS (p.L.g i):=by
 cases p with
 |nil=>exact absurd hi (by show ¬i<0;omega)
 |mk _ is _ _ _ n g=>exact h.2 i hi
def chk:Nat->List Pat->Prop
 |0,l=>l=[]
 |_+1,[]=>True
 |k+1,p::l=>GA p/\chk k (p.L.toList++l)
theorem Ag0:∀k,chk k []
 |0=>rfl
 |_+1=>trivial
theorem MG:∀(k:Nat) (l:List Pat),chk k l->l.length<=k
 |0,l,h=>by rw[show l=[] from h];exact AS4 _
 |k+1,[],_=>Ba0 _
 |k+1,p::l,⟨_,h⟩=>by
  have:=MG k _ h
  rw[AW5]at this;simp only[AV1];omega
theorem WY:∀(d:Nat) (p:Pat),okP d p->okP (d+1) p
 |0,_,h=>h.elim
 |d+1,p,⟨h1,h2,h3⟩=>⟨h1,h2,fun i hi=>WY d _ (h3 i hi)⟩
theorem Pl {α : Type}{s:Sl α}{i:Nat}(h:i<s.n):s.g i∈s.toList:=AY4.2 ⟨i,AW2.2 h,rfl⟩
theorem U0 {α : Type}(s:Sl α):s.toList.length=s.n:=by simp[Sl.toList]
theorem MH:∀(k:Nat) (l:List Pat),k<=40->chk k l->∀p∈l,okP k p
 |0,l,_,h,p,hp=>by rw[show l=[] from h]at hp;cases hp
 |k+1,[],_,_,p,hp=>by cases hp
 |k+1,q::l,hk,⟨hn,h⟩,p,hp=>by
  have ih:=MH k _ (by omega) h;rcases AW0.1 hp with rfl|hp
  ·have hl:=MG k _ h;rw[AW5,U0]at hl;exact⟨by omega,fun h5=>hn.2.2.2.2.1 h5,fun i hi=>ih _ (AU2 _ (Pl hi))⟩
  ·exact WY k p (ih p (AT1 _ hp))
theorem As6 {N:Nat}{p:Pat}(hp:okS p.Is):∃e,Eh N p=some e/\(e=0↔GA p):=by
 obtain⟨a,b,he⟩:=hp;have hv:=VF he;unfold Eh GA;by_cases h1:0<=p.Kind/\p.Kind<=6
 case neg=>exact ifT (by simp;omega) ⟨2,rfl,by simp;omega⟩
 refine ifF (by simp;omega) ?_;have e0:((p.Is.Plus==0)&&(p.Is.Minus==0))=decide (p.Is.Plus=0/\p.Is.Minus=0):=by rw[AU7];simp
 rw[e0];by_cases h2:p.Kind≠1->(p.Is.Plus=0/\p.Is.Minus=0)/\p.Not=false
 case neg=>
  refine ifT ?_ ⟨2,rfl,by simp[h2]⟩;simp only[AS3,AT6,bne_iff_ne,ne_eq,Be8,decide_eq_false_iff_not];rw[Classical.not_imp]at h2;refine⟨h2.1,?_⟩;by_cases h:p.Is.Plus=0/\p.Is.Minus=0
  ·right
   cases hn:p.Not
   ·exact absurd ⟨h,hn⟩ h2.2
   ·rfl
  ·exact .inl h
 refine ifF ?_ (ltX ?_)
 ·simp only[AS3,AT6,bne_iff_ne,ne_eq,Be8,decide_eq_false_iff_not];rintro⟨g1,g2⟩;obtain⟨g3,g4⟩:=h2 g1;rcases g2 with g2|g2
  ·exact g2 g3
  ·rw[g4]at g2;cases g2
 have rest:(p.Kind≠3->p.Kind≠4->p.Kind≠5->p.L.n=0)->∃e,(if ((p.Kind != 5)&&((p.Min != 0)||(p.Max != 0)))=true then some (2:Int)else
  lt (fun (z2:Bool)=>if z2=true then some 2 else (P7 N p.Is).bind fun y1=>if (!y1)=true then some 14 else some 0) fun k2=>
   if (p.Kind==5)=true then if (((p.L.n:Nat):Int) != 1)=true then k2 true else if (decide (p.Min<0))=true then k2 true else if (decide (32<p.Min))=true then k2 true else
    if (p.Max != (-1))=true then if (decide (p.Max<p.Min))=true then k2 true else k2 (decide (32<p.Max))else k2 false else k2 false)=some e /\
  (e=0↔(0<=p.Kind/\p.Kind<=6)/\(p.Kind≠1->(p.Is.Plus=0/\p.Is.Minus=0)/\p.Not=false)/\(p.Kind≠3->p.Kind≠4->p.Kind≠5->p.L.n=0)/\(p.Kind≠5->p.Min=0/\p.Max=0) /\
   (p.Kind=5->p.L.n=1/\0<=p.Min/\p.Min<=32/\(p.Max = -1 \/ (p.Min<=p.Max/\p.Max<=32)))/\vS p.Is):=by
  intro h3;by_cases h4:p.Kind≠5->p.Min=0/\p.Max=0
  case neg=>refine ifT ?_ ⟨2,rfl,by simp[h4]⟩;rw[Classical.not_imp]at h4;simp only[AS3,AT6,bne_iff_ne,ne_eq];omega
  refine ifF ?_ (ltX ?_)
  ·simp only[AS3,AT6,bne_iff_ne,ne_eq];rintro⟨g1,g2⟩
   have:=h4 g1
   omega
  have last:(p.Kind=5->p.L.n=1/\0<=p.Min/\p.Min<=32/\(p.Max = -1 \/ (p.Min<=p.Max/\p.Max<=32)))->∃e,(if false=true then some (2:Int)else (P7 N p.Is).bind fun y1=>if (!y1)=true then some 14 else some 0)=some e /\
   (e=0↔(0<=p.Kind/\p.Kind<=6)/\(p.Kind≠1->(p.Is.Plus=0/\p.Is.Minus=0)/\p.Not=false)/\(p.Kind≠3->p.Kind≠4->p.Kind≠5->p.L.n=0)/\(p.Kind≠5->p.Min=0/\p.Max=0) /\
    (p.Kind=5->p.L.n=1/\0<=p.Min/\p.Min<=32/\(p.Max = -1 \/ (p.Min<=p.Max/\p.Max<=32)))/\vS p.Is):=by
   intro h5;refine ifF (by simp) ?_;rw[hv,he,Pk];refine B4 rfl ?_;cases hvb:vB a b
   ·exact ifT rfl ⟨14,rfl,by simp⟩
   ·exact ifF (by simp) ⟨0,rfl,by rw[<- he];exact⟨fun _=>⟨h1,h2,h3,h4,h5,rfl⟩,fun _=>rfl⟩⟩
  have bad:¬(p.Kind=5->p.L.n=1/\0<=p.Min/\p.Min<=32/\(p.Max = -1 \/ (p.Min<=p.Max/\p.Max<=32)))->∃e,(if true=true then some (2:Int)else (P7 N p.Is).bind fun y1=>if (!y1)=true then some 14 else some 0)=some e /\
   (e=0↔(0<=p.Kind/\p.Kind<=6)/\(p.Kind≠1->(p.Is.Plus=0/\p.Is.Minus=0)/\p.Not=false)/\(p.Kind≠3->p.Kind≠4->p.Kind≠5->p.L.n=0)/\(p.Kind≠5->p.Min=0/\p.Max=0) /\
    (p.Kind=5->p.L.n=1/\0<=p.Min/\p.Min<=32/\(p.Max = -1 \/ (p.Min<=p.Max/\p.Max<=32)))/\vS p.Is):=fun h5=>ifT rfl ⟨2,rfl,⟨fun h=>absurd h (by decide),fun h=>absurd h.2.2.2.2.1 h5⟩⟩
  by_cases k5:p.Kind=5
  ·refine ifT (by simp[k5]) ?_;by_cases g1:p.L.n=1
   case neg=>exact ifT (by simp;omega) (bad fun h=>g1 (h k5).1)
   refine ifF (by simp;omega) ?_;by_cases g2:p.Min<0
   ·exact ifT (by simpa using g2) (bad fun h=>by have:=h k5;omega)
   refine ifF (by simpa using g2) ?_;by_cases g3:32<p.Min
   ·exact ifT (by simpa using g3) (bad fun h=>by have:=h k5;omega)
   refine ifF (by simpa using g3) ?_;by_cases g4:p.Max = -1
   ·exact ifF (by simp[g4]) (last fun _=>⟨g1,by omega,by omega,.inl g4⟩)
   refine ifT (by simp[g4]) ?_;by_cases g5:p.Max<p.Min
   ·exact ifT (by simpa using g5) (bad fun h=>by have:=h k5;omega)
   refine ifF (by simpa using g5) ?_;by_cases g6:32<p.Max
   ·rw[decide_eq_true g6];exact bad fun h=>by have:=h k5;omega
   ·rw[decide_eq_false g6];exact last fun _=>⟨g1,by omega,by omega,.inr ⟨by omega,by omega⟩⟩
  ·exact ifF (by simp[k5]) (last fun h=>absurd h k5)
 by_cases k3:p.Kind=3
 ·exact ifF (by simp[k3]) (ifF (by simp) (rest fun h=>absurd k3 h))
 refine ifT (by simp[k3]) ?_;by_cases k4:p.Kind=4
 ·exact ifF (by simp[k4]) (ifF (by simp) (rest fun _ h=>absurd k4 h))
 refine ifT (by simp[k4]) ?_;by_cases k5:p.Kind=5
 ·exact ifF (by simp[k5]) (ifF (by simp) (rest fun _ _ h=>absurd k5 h))
 refine ifT (by simp[k5]) ?_;by_cases hn:p.L.n=0
 ·exact ifF (by simp;omega) (rest fun _ _ _=>hn)
 ·exact ifT (by simp;omega) ⟨2,rfl,⟨fun h=>absurd h (by decide),fun h=>absurd (h.2.2.1 k3 k4 k5) hn⟩⟩
theorem ET {α : Type}(s:Sl α){i:Nat}(h:i<s.n):s.toList.drop i=s.g i::s.toList.drop (i+1):=by
 have hl:i<s.toList.length:=by rw[U0];exact h
 rw[Ba7 hl];simp[Sl.toList]
theorem Dj {α : Type}(s:Sl α):s.toList.drop s.n=[]:=AY5 (by rw[U0];exact AS4 _)
theorem Ag1 {N:Nat}(hN:1000<=N):∀(d:Nat),d<=40->∀(p:Pat),okPS p->∀M,N+d+1<=M->∃r,CD M p ((40-d:Nat):Int)=some r /\
 ∃k:Nat,r.1=(k:Int)/\40-d<=k/\k<=40/\(r.2=0->40-d<k/\∀l,chk d (p::l)↔chk (40-k) l)/\(r.2≠0->∀l,¬chk d (p::l))
 |d,hd,p,hp,0,hM=>by omega
 |0,hd,p,hp,M+1,hM=>by show ∃r,W1 (CD M) M p _=some r/\_;unfold W1;exact ifT (by simp) ⟨_,rfl,40,rfl,by omega,by omega,fun h=>absurd h (by decide),fun _ l h=>by cases h⟩
 |d+1,hd,p,hp,M+1,hM=>by
  show ∃r,W1 (CD M) M p _=some r/\_;unfold W1;refine ifF (by simp;omega) ?_;obtain⟨e,he,hn⟩:=As6 (N:=M) hp.is;refine B4 he ?_;by_cases h0:e=0
  case neg=>exact ifT (by simp[h0]) ⟨_,rfl,40-(d+1),rfl,AS4 _,by omega,fun h=>absurd h h0,fun _ l h=>h0 (hn.2 h.1)⟩
  refine ifF (by simp[h0]) ?_;have hnode:=hn.1 h0;rw[C0 (by omega)];refine T1 (fun i x1 x2=>x2=(i:Int)/\∃k:Nat,x1=(k:Int)/\40-(d+1)+1+i<=k/\k<=40/\i<=p.L.n/\∀l,chk (d+1) (p::l)↔chk (40-k) (p.L.toList.drop i++l)) 41 _ (by omega)
   ⟨rfl,40-(d+1)+1,rfl,by omega,by omega,by omega,fun l=>by rw[show 40-(40-(d+1)+1)=d by omega];exact⟨fun h=>h.2,fun h=>⟨hnode,h⟩⟩⟩ ?_
  rintro self i x1 x2 hi ⟨rfl,k,rfl,h1,h2,h3,h4⟩ hs;by_cases hl:i<p.L.n
  ·refine ifT (by simp;omega) (ifT (by omega) ?_);obtain⟨r,hr,k',r1,r2,r3,r4,r5⟩:=Ag1 hN (40-k) (by omega) (p.L.g i) (hp.L hl) M (by omega);rw[show ((40-(40-k):Nat):Int)=(k:Int) by omega]at hr;refine B4 (by rw[AR8];exact hr) ?_;by_cases hz:r.2=0
   ·refine ifF (by simp[hz]) (hs (by omega) _ _ ⟨C0 (by omega),k',r1,by have:=(r4 hz).1;omega,r3,by omega,fun l=>?_⟩);rw[h4,ET _ hl,AV9];exact (r4 hz).2 _
   ·refine ifT (by simp[hz]) ⟨_,rfl,k',r1,by omega,r3,fun h=>absurd h hz,fun _ l hc=>?_⟩;rw[h4,ET _ hl,AV9]at hc;exact r5 hz _ hc
  ·obtain rfl:i=p.L.n:=by omega
   refine ifF (by simp) ⟨_,rfl,k,rfl,by omega,h2,fun _=>⟨by omega,fun l=>?_⟩,fun h=>absurd rfl h⟩;rw[h4,Dj];rfl
theorem MI {N:Nat}(hN:2000<=N){p:Pat}(hp:okPS p):∃e,AD N p=some e/\(e=0↔chk 40 [p]):=by
 obtain⟨r,hr,k,h1,h2,h3,h4,h5⟩:=Ag1 (N:=1500) (by omega) 40 (AS4 _) p hp N (by omega);unfold AD;refine B4 hr ⟨_,rfl,fun h=>?_,fun h=>?_⟩
 ·exact ((h4 h).2 []).2 (Ag0 _)
 ·by_cases hz:r.2=0
  ·exact hz
  ·exact absurd h (h5 hz [])
end Go.AM
set_option linter.unusedVariables false
namespace Go.AM
open Go.Proofs
theorem Ag2 (x:BitVec 64)(h:x≠0#64):Lib.ctz 64 x.toNat<64/\x.getLsbD (Lib.ctz 64 x.toNat)=true/\∀j,j<Lib.ctz 64 x.toNat->x.getLsbD j=false:=by
 have h0:x.toNat≠0:=fun e=>h (AV7 (by simpa using e));obtain⟨m,hm,hlt⟩:=Lib.ctzFrom_spec 64 x.toNat (by omega) x.isLt;have e:Lib.ctz 64 x.toNat=Lib.ctzFrom 64 x.toNat:=by unfold Lib.ctz;rw[if_neg h0]
 rw[e];refine⟨hlt,?_,fun j hj=>?_⟩
 ·show x.toNat.testBit _=true;rw[hm,Bg7];simp[<- hm,Nat.testBit_zero]
 ·show x.toNat.testBit _=false;rw[hm,Bg7];simp[<- hm];omega
def EU (x:BitVec 64)(i:Nat):List Int:=((List.range' i (64-i)).filter fun j=>x.getLsbD j).map fun (j:Nat)=>(j:Int)
theorem Jm {x:BitVec 64}{i:Nat}(h:∀j,j<64->x.getLsbD j=false):EU x i=[]:=by
 unfold EU;rw[Bh3.2 fun j hj=>by
  have:=List.mem_range'.1 hj
  simp;exact h j (by omega)]
 rfl
theorem Pm {x:BitVec 64}{t:Nat}:∀(k i:Nat),t=i+k->t<64->x.getLsbD t=true->(∀j,j<t->x.getLsbD j=false)->EU x i=(t:Int)::EU x (t+1)
 |0,i,h,ht,hb,hl=>by
  obtain rfl:t=i:=by omega
  unfold EU;rw[show 64-t=(64-(t+1))+1 by omega,Ba6,Bd8 hb];rfl
 |k+1,i,h,ht,hb,hl=>by rw[<- Pm k (i+1) (by omega) ht hb hl];unfold EU;rw[show 64-i=(64-(i+1))+1 by omega,Ba6,Bd9 (by simp;exact hl i (by omega))]
theorem VG {x y:BitVec 64}{i:Nat}(h:∀j,i<=j->x.getLsbD j=y.getLsbD j):EU x i=EU y i:=by unfold EU;rw[List.filter_congr fun j hj=>h j (by have:=List.mem_range'.1 hj;omega)]
def AR5 (M:Nat)(self:Int->Option (List Int))(x1:Int):Option (List Int):=
 if (x1 != 0)=true then
  (F5 M x1).bind fun y3=>
  if (0:Int)<=y3 then
   U5 y3 (
    self (E4 .andNot .u64 x1 (shI .shl .u64 1 y3))
    )
  else none
 else
  some []
theorem Ag3 {x:BitVec 64}{M:Nat}{self:Int->Option (List Int)}(hx:x≠0#64):AR5 M self (U x)=U5 ((Lib.ctz 64 x.toNat:Nat):Int) (self (U (x &&& ~~~(1#64 <<< Lib.ctz 64 x.toNat)))):=by
 have h0:x.toNat≠0:=fun e=>hx (AV7 (by simpa using e));have hlt:=x.isLt;unfold AR5;rw[if_pos (by simp;omega)]
 have:F5 M (U x)=some ((Lib.ctz 64 x.toNat:Nat):Int):=by unfold F5;rw[if_pos ⟨show (0:Int)<=(x.toNat:Int) by omega,show (x.toNat:Int)<18446744073709551616 by omega⟩];rfl
 rw[this,AS1,if_pos (by omega),SP _ (Ag2 x hx).1,Ar3]
theorem Tp {M:Nat}{self:Int->Option (List Int)}:AR5 M self (U 0#64)=some []:=rfl
theorem AG2 (M:Nat):∀(k i:Nat) (x:BitVec 64),64-i<=k->(∀j,j<i->x.getLsbD j=false)->∀N,k<N->U3 N (AR5 M) (U x)=some (EU x i):=by
 intro k
 induction k with
 |zero=>
  intro i x hk hl N hN;have hz:x=0#64:=AX3 fun j hj=>by simp;exact hl j (by omega)
  subst hz
  match N,hN with
  |N+1,_=>rw[Jm fun j hj=>by simp,P0,Tp]
 |succ k ih=>
  intro i x hk hl N hN
  match N,hN with
  |N+1,hN=>
   by_cases hx:x=0#64
   ·subst hx;rw[Jm fun j hj=>by simp,P0,Tp]
   ·obtain⟨h1,h2,h3⟩:=Ag2 x hx;have hi:i<=Lib.ctz 64 x.toNat:=by
     by_cases hh:Lib.ctz 64 x.toNat<i
     ·rw[hl _ hh]at h2;cases h2
     ·omega
    rw[Pm (Lib.ctz 64 x.toNat-i) i (by omega) h1 h2 h3,P0,Ag3 hx];generalize Lib.ctz 64 x.toNat=t at h1 h2 h3 hi;have hb:∀j,j<64->(x &&& ~~~(1#64 <<< t)).getLsbD j=(x.getLsbD j && !decide (j=t)):=fun j hj=>by rw[AT3,AW9,FN h1 hj];simp[hj]
    have hc:EU x (t+1)=EU (x &&& ~~~(1#64 <<< t)) (t+1):=VG fun j hj=>by
     by_cases hj2:j<64
     ·rw[hb j hj2];have:¬j=t:=by omega
      simp[this]
     ·rw[Bi5 _ _ (by omega),Bi5 _ _ (by omega)]
    rw[ih (t+1) (x &&& ~~~(1#64 <<< t)) (by omega) (fun j hj=>by
     rw[hb j (by omega)];by_cases e:j=t
     ·simp[e]
     ·rw[h3 j (by omega)];rfl) N (by omega),<- hc]
    rfl
theorem Hy (x:BitVec 64){N:Nat}(hN:100<=N):O8 N (U x)=some (EU x 0):=
 AG2 N 64 0 x (by omega) (fun j hj=>absurd hj (by omega)) N (by omega)
theorem mem_bitsF {x:BitVec 64}{i:Nat}{y:Int}:y∈EU x i ↔ ∃j:Nat,y=(j:Int)/\i<=j/\j<64/\x.getLsbD j=true:=by
 unfold EU;simp only[AY4,Bd7,Bc5];constructor
 ·rintro⟨j,⟨h1,h2⟩,rfl⟩;exact⟨j,rfl,h1.1,by omega,h2⟩
 ·rintro⟨j,rfl,h1,h2,h3⟩;exact⟨j,⟨⟨h1,by omega⟩,h3⟩,rfl⟩
theorem As7 {T A R:Type}{body:(A->Option R)->T->A->Option R}{k:A->Option R}{J3:R->Prop}(J:List T->A->Prop)(hnil:∀a,J [] a->∃r,k a=some r/\J3 r)
 (hcons:∀t L a self,J (t::L) a->(∀a',J L a' -> ∃r,self a' = some r/\J3 r)->∃r,body self t a=some r/\J3 r):∀(L:List T) (a:A),J L a->∃r,K0 L body k a=some r/\J3 r
 |[],a,h=>hnil a h
 |t::L,a,h=>hcons t L a _ h fun a' h'=>As7 J hnil hcons L a' h'
def TabA (n:Nat)(R:Nat->Nat->Prop)(f:Nat->Int):Prop:=TabR n R f/\∀a,n<a->f a=0
theorem TabA.congr {n:Nat}{R R' : Nat->Nat->Prop}{f:Nat->Int}(h:TabA n R f)(hr:∀a b,a<=n->b<=n->(R a b↔R' a b)):TabA n R' f:=⟨h.1.congr hr,h.2⟩
theorem zeroA (n:Nat):TabA n (fun _ _=>False) (fun _=>0):=⟨As1 fun _ _=>rfl,fun _ _=>rfl⟩
theorem DA (f:Nat->Int)(i:Nat)(v:Int)(a:Nat):IM f i v a=if a=i then v else f a:=rfl
theorem Ay0 {N n:Nat}{R S:Nat->Nat->Prop}{x y:Nat->Int}(hn:n<=32)(hN:1000<=N)(hR:TabA n R x)(hS:TabA n S y) :∃s,K7 N x y=some s/\TabA n (fun a b=>R a b \/ S a b) s:=by
 unfold K7;refine T1 (fun i x1 x2=>x2=(i:Int)/\∀a,x1 a=if a<i then E4 .or .u64 (x a) (y a)else x a) 33 _ (by omega) ⟨rfl,fun a=>by rw[if_neg (by omega)]⟩ ?_;rintro self i x1 x2 hi ⟨rfl,h2⟩ hs;by_cases hl:i<33
 ·refine ifT (by simp;omega) (ifT (by omega) (ifT (by omega) (hs (by omega) _ _ ⟨C0 (by omega),fun a=>?_⟩)));rw[DA,AR8,AV3,AY7];by_cases e:a=i
  ·subst e;rw[if_pos rfl,if_pos (by omega),h2 a,if_neg (by omega)]
  ·rw[if_neg e,h2 a];by_cases e2:a<i
   ·rw[if_pos e2,if_pos (by omega)]
   ·rw[if_neg e2,if_neg (by omega)]
 ·refine ifF (by simp;omega) ⟨x1,rfl,fun a ha=>?_,fun a ha=>?_⟩
  ·obtain⟨u,e1,g1⟩:=hR.1 a ha;obtain⟨v,e2,g2⟩:=hS.1 a ha;refine⟨u ||| v,by rw[h2 a,if_pos (by omega),e1,e2,AR4],fun b hb=>?_⟩;rw[AT2,AT6,g1 b hb,g2 b hb];constructor
   ·rintro (⟨h1,h2⟩ | ⟨h1,h2⟩)
    ·exact⟨h1,.inl h2⟩
    ·exact⟨h1,.inr h2⟩
   ·rintro⟨h1,h2|h2⟩
    ·exact .inl ⟨h1,h2⟩
    ·exact .inr ⟨h1,h2⟩
  ·rw[h2 a];split
   ·rw[hR.2 a ha,hS.2 a ha];rfl
   ·exact hR.2 a ha
theorem Gd {N n:Nat}(hn:n<=32)(hN:1000<=N):∃s,O4 N (n:Int)=some s/\TabA n (fun a b=>a=b) s:=by
 unfold O4;rw[C0 (by omega)];refine T1 (fun i x1 x2=>x2=(i:Int)/\∀a,x1 a=if a<i then U (1#64 <<< a)else 0) (n+1) _ (by omega) ⟨rfl,fun a=>rfl⟩ ?_;rintro self i x1 x2 hi ⟨rfl,h2⟩ hs;by_cases hl:i<=n
 ·refine ifT (by simp;omega) (ifT (by omega) (hs (by omega) _ _ ⟨C0 (by omega),fun a=>?_⟩));rw[DA,AR8,AV3,AY7];by_cases e:a=i
  ·subst e;rw[if_pos rfl,if_pos (by omega),SP _ (by omega)]
  ·rw[if_neg e,h2 a];by_cases e2:a<i
   ·rw[if_pos e2,if_pos (by omega)]
   ·rw[if_neg e2,if_neg (by omega)]
 ·refine ifF (by simp;omega) ⟨x1,rfl,fun a ha=>⟨1#64 <<< a,by rw[h2 a,if_pos (by omega)],fun b hb=>?_⟩,fun a ha=>by rw[h2 a,if_neg (by omega)]⟩;rw[FN (by omega) hb,decide_eq_true_eq];omega
theorem KI {N n:Nat}{R S:Nat->Nat->Prop}{x y:Nat->Int}(hn:n<=32)(hN:1000<=N)(hR:TabA n R x)(hS:TabA n S y) :∃s,D6 N x y=some s/\TabA n (fun a b=>∃c,c<=n/\R a c/\S c b) s:=by
 unfold D6;refine T1 (fun i x3 x4=>x4=(i:Int)/\(∀a,a<i->a<=n->∃z:BitVec 64,x3 a=U z/\∀b,b<64->(z.getLsbD b=true↔b<=n/\∃c,c<=n/\R a c/\S c b))/\∀a,i<=a \/ n<a->x3 a=0) 33 _ (by omega)
  ⟨rfl,fun a ha=>absurd ha (by omega),fun a _=>rfl⟩ ?_
 rintro self i x3 x4 hi ⟨rfl,h2,h3⟩ hs;by_cases hl:i<33
 ·refine ifT (by simp;omega) (ifT (by omega) ?_);rw[AR8,AV3,AY7];refine B4 (x:=x i) rfl ?_;by_cases hin:i<=n
  ·obtain⟨u,e1,g1⟩:=hR.1 i hin;refine B4 (x:=EU u 0) (by rw[e1];exact Hy u (by omega)) ?_;refine As7 (fun L z=>(∀a,a≠i->z a=x3 a)/\(∀t∈L,∃c:Nat,t=(c:Int)/\c<=n/\R i c)/\∃v:BitVec 64,z i=U v/\∀b,b<64->((v.getLsbD b=true \/ ∃c:Nat,(c:Int)∈L/\b<=n/\S c b)↔(b<=n/\∃c,c<=n/\R i c/\S c b))) ?_ ?_ _ _ ?_
   ·rintro z ⟨k1,k2,v,k3,k4⟩;refine hs (by omega) _ _ ⟨C0 (by omega),fun a ha han=>?_,fun a ha=>?_⟩
    ·by_cases e:a=i
     ·subst e;exact⟨v,k3,fun b hb=>by rw[<- k4 b hb];simp⟩
     ·obtain⟨z',p1,p2⟩:=h2 a (by omega) han;exact⟨z',by rw[k1 a e];exact p1,p2⟩
    ·rw[k1 a (by omega)];exact h3 a (by omega)
   ·rintro t L z self2 ⟨k1,k2,v,k3,k4⟩ hs2;obtain⟨c,rfl,hc,hRc⟩:=k2 t (by simp);refine ifT (by omega) (hs2 _ ⟨fun a ha=>?_,fun t ht=>k2 t (by simp[ht]),?_⟩)
    ·rw[DA,if_neg (by omega)];exact k1 a ha
    ·obtain⟨yc,e2,g2⟩:=hS.1 c hc;refine⟨v ||| yc,?_,fun b hb=>?_⟩
     ·rw[DA,if_pos (by omega)];simp only[AR8,AV3,AY7];rw[k3,e2,AR4]
     ·rw[<- k4 b hb,AT2,AT6,g2 b hb];constructor
      ·rintro ((h|⟨h,h'⟩)|⟨c',h,h'⟩)
       ·exact .inl h
       ·exact .inr ⟨c,by simp,h,h'⟩
       ·exact .inr ⟨c',by simp[h],h'⟩
      ·rintro (h|⟨c',h,h',h''⟩)
       ·exact .inl (.inl h)
       ·rcases AW0.1 h with h|h
        ·have:c' = c:=by omega
         subst this;exact .inl (.inr ⟨h',h''⟩)
        ·exact .inr ⟨c',h,h',h''⟩
   ·refine⟨fun _ _=>rfl,fun t ht=>?_,0#64,h3 i (.inl (AS4 _)),fun b hb=>?_⟩
    ·obtain⟨j,rfl,_,hj,hb⟩:=mem_bitsF.1 ht;exact⟨j,rfl,((g1 j hj).1 hb).1,((g1 j hj).1 hb).2⟩
    ·simp only[Bf6,AS6,false_or];constructor
     ·rintro⟨c,hc,h,h'⟩;obtain⟨j,hj,_,hj2,hb2⟩:=mem_bitsF.1 hc;obtain rfl:c=j:=by omega
      exact⟨h,c,((g1 c hj2).1 hb2).1,((g1 c hj2).1 hb2).2,h'⟩
     ·rintro⟨h,c,hc,h',h''⟩;exact⟨c,mem_bitsF.2 ⟨c,rfl,by omega,by omega,(g1 c (by omega)).2 ⟨hc,h'⟩⟩,h,h''⟩
  ·refine B4 (x:=[]) (by rw[hR.2 i (by omega)];exact (Hy 0#64 (by omega)).trans (by rw[Jm fun j hj=>by simp])) ?_;exact hs (by omega) _ _ ⟨C0 (by omega),fun a ha han=>h2 a (by omega) han,fun a ha=>h3 a (by omega)⟩
 ·exact ifF (by simp;omega) ⟨x3,rfl,fun a ha=>h2 a (by omega) ha,fun a ha=>h3 a (.inr ha)⟩
theorem As8 (N:Nat)(x:Nat->Int):H3 N x=D6 N x x:=rfl
end Go.AM
set_option linter.unusedVariables false
namespace Go.AM
open Go.Proofs
theorem AQ0:∀m:Fin 33,(E4 .and .i64 ((m.val:Nat):Int) 1==1)=decide (m.val % 2=1)/\shI .shr .i64 ((m.val:Nat):Int) 1=((m.val / 2:Nat):Int):=by decide +kernel
theorem Tq {N n:Nat}{R:Nat->Nat->Prop}{x:Nat->Int}(hn:n<=32)(hN:1000<=N)(hf:Fwd n R)(hR:TabA n R x){k:Nat}(hk:k<=32) :∃s,E9 N x (k:Int) (n:Int)=some s/\TabA n (Hd n R k) s:=by
 unfold E9;obtain⟨y1,e1,h1⟩:=Gd (N:=N) hn hN;refine B4 e1 ?_;refine Af6 (fun i x1 x2 x3=>x1=((k / 2 ^ i:Nat):Int)/\TabA n (Hd n R (2 ^ i)) x2/\TabA n (Hd n R (k % 2 ^ i)) x3) 6 _ (by omega) ⟨by simp,?_,?_⟩ ?_
 ·exact hR.congr fun a b ha hb=>⟨fun h=>⟨a,ha,rfl,h⟩,fun⟨c,hc,(h:a=c),h'⟩=>h ▸ h'⟩
 ·rw[Nat.pow_zero,Nat.mod_one];exact h1
 ·rintro self i x1 x2 x3 hi ⟨rfl,h2,h3⟩ hs;have hm:k / 2 ^ i<=32:=AX0 (Nat.div_le_self _ _) hk;obtain⟨b1,b2⟩:=AQ0 ⟨k / 2 ^ i,by omega⟩;simp only at b1 b2;have hdiv:k / 2 ^ i / 2=k / 2 ^ (i+1):=by rw[Nat.div_div_eq_div_mul,Nat.pow_succ]
  have hmod:k % 2 ^ (i+1)=k % 2 ^ i+2 ^ i*(k / 2 ^ i % 2):=Nat.mod_pow_succ;have hsq:∃s,H3 N x2=some s/\TabA n (Hd n R (2 ^ (i+1))) s:=by obtain⟨s,e,h⟩:=KI hn hN h2 h2;refine⟨s,(As8 N x2).trans e,h.congr fun a b ha hb=>?_⟩;rw[show 2 ^ (i+1)=2 ^ i+2 ^ i by rw[Nat.pow_succ];omega];exact (Dw hf (2 ^ i) ha (2 ^ i) b).symm
  obtain⟨sq,esq,hsq⟩:=hsq;by_cases hz:k / 2 ^ i=0
  ·refine ifF (by simp[hz]) ⟨x3,rfl,?_⟩
   have:k % 2 ^ i=k:=Ba5 (by
    have:=Bj0.1 hz
    rcases this with h|h
    ·exact absurd h (Nat.ne_of_gt (Nat.two_pow_pos i))
    ·exact h)
   rw[this]at h3;exact h3
  ·have hi6:i<6:=by
    by_cases h:i<6
    ·exact h
    ·exact absurd (AZ6 (Bj9 hk (AT8 (by decide:32<2 ^ 6) (Bb0 (by omega) (by omega))))) hz
   refine ifT (decide_eq_true (Int.natCast_pos.2 (Nat.pos_of_ne_zero hz))) ?_;by_cases ho:k / 2 ^ i % 2=1
   ·refine ifT (by rw[b1];simp[ho]) ?_;obtain⟨t,et,ht⟩:=KI hn hN h3 h2;refine B4 et (B4 esq (hs hi6 _ _ _ ⟨by rw[b2,hdiv],hsq,ht.congr fun a b ha hb=>?_⟩));rw[hmod,ho,AY7];exact (Dw hf (k % 2 ^ i) ha (2 ^ i) b).symm
   ·refine ifF (by rw[b1];simp[ho]) (B4 esq (hs hi6 _ _ _ ⟨by rw[b2,hdiv],hsq,?_⟩));rw[hmod,show k / 2 ^ i % 2=0 by omega,Nat.mul_zero,Bg0];exact h3
theorem AG3 {s c:Sound}(hs:okS s)(hc:okS c):((E4 .or .u32 (E4 .andNot .u32 c.Plus s.Plus) (E4 .andNot .u32 c.Minus s.Minus))==0)=Vg s c:=by
 obtain⟨p,m,rfl⟩:=hs;obtain⟨a,b,rfl⟩:=hc;have e:∀x y:BitVec 32,((E4 .and .u32 (x.toNat:Int) (y.toNat:Int))==(y.toNat:Int))=decide (y &&& ~~~ x=0#32):=by
  intro x y;rw[EA,AU7];simp only[beq_iff_eq,decide_eq_true_eq];constructor
  ·intro h;have h:x &&& y=y:=AV7 (by omega);refine (z32 _).2 fun i hi=>?_
   have:=congrArg (·.getLsbD i) h
   simp only[AT3,AW9,hi,decide_true,Bd5]at this⊢;cases hx:x.getLsbD i<;>cases hy:y.getLsbD i<;>simp_all
  ·intro h
   have:x &&& y=y:=ID fun i hi=>by
    have:=(z32 _).1 h i hi
    simp only[AT3,AW9,hi,decide_true,Bd5]at this⊢;cases hx:x.getLsbD i<;>cases hy:y.getLsbD i<;>simp_all
   rw[this]
 unfold Vg;simp only[e,Ed,JE,eq0];rw[AU7];simp only[AS3,decide_eq_true_eq];constructor
 ·intro h;have h:=(z32 _).1 h;exact⟨(z32 _).2 fun i hi=>by have:=h i hi;rw[AT2,Bb1]at this;exact this.1,(z32 _).2 fun i hi=>by have:=h i hi;rw[AT2,Bb1]at this;exact this.2⟩
 ·rintro⟨h1,h2⟩;rw[h1,h2];rfl
theorem Ag4 {N:Nat}(hN:1000<=N){w:Sl Sound}(hw:w.n<=32)(hws:∀i,i<w.n->okS (w.g i)){c:Sound}(hc:okS c)(no:Bool) :∃f,W4 N ⟨c,no⟩ w=some f/\TabA w.n (fun a b=>a<w.n/\b=a+1/\(Vg (w.g a) c != no)=true) f:=by
 unfold W4;refine T1 (fun i x1 x2=>x2=(i:Int)/\∀a,x1 a=if a<i/\(Vg (w.g a) c != no)=true then U (1#64 <<< (a+1))else 0) w.n _ (by omega) ⟨rfl,fun a=>by rw[if_neg (by omega)]⟩ ?_;rintro self i x1 x2 hi ⟨rfl,h2⟩ hs;by_cases hl:i<w.n
 ·refine ifT (by simp;omega) (ifT (by omega) ?_);rw[AR8,AG3 (hws i hl) hc];by_cases hb:(Vg (w.g i) c != no)=true
  ·refine ifT (by revert hb;cases Vg (w.g i) c<;>cases no<;>simp) ?_;rw[C0 (by omega)];refine ifT (by omega) (hs hl _ _ ⟨rfl,fun a=>?_⟩);rw[DA,AV3,AY7,SP _ (by omega)];by_cases e:a=i
   ·subst e;rw[if_pos rfl,if_pos ⟨by omega,hb⟩]
   ·rw[if_neg e,h2 a];by_cases e2:a<i
    ·simp only[e2,show a<i+1 by omega,true_and]
    ·rw[if_neg (by omega),if_neg (by omega)]
  ·refine ifF (by revert hb;cases Vg (w.g i) c<;>cases no<;>simp) (hs hl _ _ ⟨C0 (by omega),fun a=>?_⟩);rw[h2 a];by_cases e:a=i
   ·subst e;rw[if_neg (by omega),if_neg (fun h=>hb h.2)]
   ·by_cases e2:a<i
    ·simp only[e2,show a<i+1 by omega,true_and]
    ·rw[if_neg (by omega),if_neg (by omega)]
 ·refine ifF (by simp;omega) ⟨x1,rfl,fun a ha=>?_,fun a ha=>by rw[h2 a,if_neg (by omega)]⟩;by_cases hb:a<w.n/\(Vg (w.g a) c != no)=true
  ·refine⟨1#64 <<< (a+1),by rw[h2 a,if_pos ⟨by omega,hb.2⟩],fun b hb2=>?_⟩;rw[FN (by omega) hb2,decide_eq_true_eq];exact⟨fun h=>⟨by omega,hb.1,h,hb.2⟩,fun h=>h.2.2.1⟩
  ·refine⟨0#64,by rw[h2 a,if_neg (fun h=>hb ⟨by omega,h.2⟩)];rfl,fun b hb2=>?_⟩;simp only[Bf6,AS6,false_iff];rintro⟨_,h1,h2,h3⟩;exact hb ⟨h1,h3⟩
theorem Ag5 {n a0 b0:Nat}(ha:a0<=n)(hb:b0<=n)(hn:n<=32):TabA n (fun a b=>a=a0/\b=b0) (IM (fun _=>0) a0 (U (1#64 <<< b0))):=by
 refine⟨fun a ha2=>?_,fun a ha2=>by rw[DA,if_neg (by omega)]⟩;by_cases e:a=a0
 ·refine⟨1#64 <<< b0,by rw[DA,if_pos e],fun b hb2=>?_⟩;rw[FN (by omega) hb2,decide_eq_true_eq];omega
 ·refine⟨0#64,by rw[DA,if_neg e];rfl,fun b hb2=>?_⟩;simp only[Bf6,AS6,false_iff];exact fun h=>e h.2.1
theorem WZ {N:Nat}{w:Sl Sound}(hw:w.n<=32)(e:Bool):∃f,Ao N ⟨e⟩ w=some f/\TabA w.n (fun a b=>a=(if e=true then w.n else 0)/\b=(if e=true then w.n else 0)) f:=by
 unfold Ao;cases e
 ·refine ifF (by simp) (ifT (by decide) ⟨_,rfl,?_⟩);exact Ag5 (n:=w.n) (a0:=0) (b0:=0) (by omega) (by omega) hw
 ·refine ifT rfl (ifT (by omega) ⟨_,rfl,?_⟩);rw[AR8,AV3,AY7,SP _ (by omega)];exact Ag5 (AS4 _) (AS4 _) hw
theorem AG4 {N:Nat}(hN:1000<=N){w:Sl Sound}(hw:w.n<=32){rec:Part->Sl Sound->Option (Nat->Int)}{m:Nat}(hm:m<=40){g:Nat->Part}{Q:Nat->Nat->Nat->Prop}
 (hc:∀i,i<m->∃f,rec (g i) w=some f/\TabA w.n (Q i) f):∃f,Bj rec N ⟨⟨m,g⟩⟩ w=some f/\TabA w.n (YK w.n Q m) f:=by
 unfold Bj;obtain⟨y1,e1,h1⟩:=Gd (N:=N) hw hN;refine B4 e1 ?_;refine T1 (fun i x1 x2=>x2=(i:Int)/\i<=m/\TabA w.n (YK w.n Q i) x1) m _ (by omega) ⟨rfl,by omega,h1⟩ ?_;rintro self i x1 x2 hi ⟨rfl,hm2,h2⟩ hs;by_cases hl:i<m
 ·refine ifT (by simp;omega) (ifT (by show (0:Int)<=i/\(i:Int)<m;omega) ?_);obtain⟨f,e2,h3⟩:=hc i hl;refine B4 (by rw[AR8];exact e2) ?_;obtain⟨s,e3,h4⟩:=KI hw hN h2 h3;exact B4 e3 (hs hl _ _ ⟨C0 (by omega),hl,h4⟩)
 ·obtain rfl:i=m:=by omega
  exact ifF (by simp) ⟨x1,rfl,h2⟩
theorem AG5 {N:Nat}(hN:1000<=N){w:Sl Sound}(hw:w.n<=32){rec:Part->Sl Sound->Option (Nat->Int)}{m:Nat}(hm:m<=40){g:Nat->Part}{Q:Nat->Nat->Nat->Prop}
 (hc:∀i,i<m->∃f,rec (g i) w=some f/\TabA w.n (Q i) f):∃f,Bk rec N ⟨⟨m,g⟩⟩ w=some f/\TabA w.n (fun a b=>∃i,i<m/\Q i a b) f:=by
 unfold Bk;refine T1 (fun i x1 x2=>x2=(i:Int)/\i<=m/\TabA w.n (fun a b=>∃j,j<i/\Q j a b) x1) m _ (by omega) ⟨rfl,by omega,(zeroA _).congr fun a b _ _=>⟨False.elim,fun⟨j,h,_⟩=>absurd h (by omega)⟩⟩ ?_;rintro self i x1 x2 hi ⟨rfl,hm2,h2⟩ hs;by_cases hl:i<m
 ·refine ifT (by simp;omega) (ifT (by show (0:Int)<=i/\(i:Int)<m;omega) ?_);obtain⟨f,e2,h3⟩:=hc i hl;refine B4 (by rw[AR8];exact e2) ?_;obtain⟨s,e3,h4⟩:=Ay0 hw hN h2 h3;refine B4 e3 (hs hl _ _ ⟨C0 (by omega),hl,h4.congr fun a b _ _=>⟨?_,?_⟩⟩)
  ·rintro (⟨j,h,h'⟩ | h)
   ·exact⟨j,by omega,h'⟩
   ·exact⟨i,by omega,h⟩
  ·rintro⟨j,h,h'⟩;by_cases e:j=i
   ·subst e;exact .inr h'
   ·exact .inl ⟨j,by omega,h'⟩
 ·obtain rfl:i=m:=by omega
  exact ifF (by simp) ⟨x1,rfl,h2⟩
end Go.AM
set_option linter.unusedVariables false
namespace Go.AM
open Go.Proofs
theorem AG6 {N:Nat}(hN:1000<=N){w:Sl Sound}(hw:w.n<=32){rec:Part->Sl Sound->Option (Nat->Int)}{pt:Part}{Q:Nat->Nat->Prop}(hf:Fwd w.n Q){f:Nat->Int}(hr:rec pt w=some f)(hQ:TabA w.n Q f)
 {mn mx:Int}(h0:0<=mn) (h1:mn<=32) (h2:mx = -1 \/ (mn<=mx/\mx<=32)) :
 ∃s,Bl rec N ⟨pt,mn,mx⟩ w=some s/\TabA w.n (fun a b=>∃k:Nat,mn<=k/\(mx = -1 \/ (k:Int)<=mx)/\Hd w.n Q k a b) s:=by
 obtain⟨m,rfl⟩:∃m:Nat,mn=(m:Int):=⟨mn.toNat,by omega⟩;unfold Bl;refine B4 hr ?_;obtain⟨y2,e2,t2⟩:=Tq hw hN hf hQ (k:=m) (by omega);refine B4 e2 ?_;obtain⟨y3,e3,t3⟩:=Gd (N:=N) hw hN;refine B4 e3 ?_;obtain⟨y4,e4,t4⟩:=Ay0 hw hN hQ t3;refine B4 e4 ?_;have hf' : Fwd w.n (fun a b=>Q a b \/ a=b):=fun a b ha h=>by
  rcases h with h|h
  ·exact hf a b ha h
  ·omega
 have key:∀(K:Nat),K<=32->∃s,((E9 N y4 (K:Int) (w.n:Int)).bind fun y5=>(D6 N y2 y5).bind fun y6=>some y6)=some s/\TabA w.n (fun a b=>∃j,j<=K/\Hd w.n Q (m+j) a b) s:=by
  intro K hK;obtain⟨y5,e5,t5⟩:=Tq hw hN hf' t4 (k:=K) hK;refine B4 e5 ?_;obtain⟨y6,e6,t6⟩:=KI hw hN t2 t5;refine B4 e6 ⟨y6,rfl,t6.congr fun a b ha hb=>?_⟩;constructor
  ·rintro⟨c,hc,g1,g2⟩;obtain⟨j,hj,g3⟩:=(Mn hf hc K b).1 g2;exact⟨j,hj,(Dw hf m ha j b).2 ⟨c,hc,g1,g3⟩⟩
  ·rintro⟨j,hj,g⟩;obtain⟨c,hc,g1,g3⟩:=(Dw hf m ha j b).1 g;exact⟨c,hc,g1,(Mn hf hc K b).2 ⟨j,hj,g3⟩⟩
 by_cases hx:mx<0
 ·refine ifT (decide_eq_true hx) ?_;obtain⟨s,e,t⟩:=key w.n hw;refine⟨s,e,t.congr fun a b ha hb=>?_⟩;constructor
  ·rintro⟨j,hj,g⟩;exact⟨m+j,by omega,.inl (by omega),g⟩
  ·rintro⟨k,hk,_,g⟩;obtain⟨c,hc,g1,g3⟩:=(Dw hf m ha (k-m) b).1 (by rw[show m+(k-m)=k by omega];exact g);obtain⟨j,hj,g4⟩:=SR hf hc (k-m) g3;exact⟨j,hj,(Dw hf m ha j b).2 ⟨c,hc,g1,g4⟩⟩
 ·refine ifF (by simpa using hx) ?_;obtain⟨M,rfl⟩:∃M:Nat,mx=(M:Int):=⟨mx.toNat,by omega⟩;have hw2:IntKind.i64.wrap ((M:Int)-(m:Int))=((M-m:Nat):Int):=by rw[F0 (by omega) (by omega)];omega
  rw[show IntKind.i64.wrap ((⟨pt,(m:Int),(M:Int)⟩:AP1).max-(⟨pt,(m:Int),(M:Int)⟩:AP1).min)=((M-m:Nat):Int) from hw2];obtain⟨s,e,t⟩:=key (M-m) (by omega);refine⟨s,e,t.congr fun a b ha hb=>?_⟩;constructor
  ·rintro⟨j,hj,g⟩;exact⟨m+j,by omega,.inr (by omega),g⟩
  ·rintro⟨k,hk,hk2,g⟩;exact⟨k-m,by omega,by rw[show m+(k-m)=k by omega];exact g⟩
def okQ:Nat->Pat->Prop
 |0,_=>False
 |d+1,p=>GA p/\p.L.n<=40/\∀i,i<p.L.n->okQ d (p.L.g i)
theorem Xa:∀(d:Nat) (p:Pat),okQ d p->okQ (d+1) p
 |0,_,h=>h.elim
 |d+1,p,⟨h1,h2,h3⟩=>⟨h1,h2,fun i hi=>Xa d _ (h3 i hi)⟩
theorem Ag6:∀(k:Nat) (l:List Pat),k<=40->chk k l->∀p∈l,okQ k p
 |0,l,_,h,p,hp=>by rw[show l=[] from h]at hp;cases hp
 |k+1,[],_,_,p,hp=>by cases hp
 |k+1,q::l,hk,⟨hn,h⟩,p,hp=>by
  have ih:=Ag6 k _ (by omega) h;rcases AW0.1 hp with rfl|hp
  ·have hl:=MG k _ h;rw[AW5,U0]at hl;exact⟨hn,by omega,fun i hi=>ih _ (AU2 _ (Pl hi))⟩
  ·exact Xa k p (ih p (AT1 _ hp))
theorem vS.ok {s:Sound}(h:vS s):okS s:=by obtain⟨p,m,e,_⟩:=h;exact⟨p,m,e⟩
def AG7 (K:Nat)(p:Pat)(pt:Part):Prop:=∀(w:Sl Sound),w.n<=32->(∀i,i<w.n->okS (w.g i))->∀M,K<=M->∃f,Aq M pt w=some f/\TabA w.n (PR w p) f
theorem MJ {N:Nat}(hN:1000<=N):∀(d:Nat),d<=40->∀(p:Pat),okQ d p->∀M,N+d<=M->∃pt,Ap M p=some pt/\AG7 (N+d) p pt
 |0,_,p,h,_,_=>h.elim
 |d+1,hd,p,⟨hn,hc,hch⟩,0,hM=>by omega
 |d+1,hd,p,⟨hn,hc,hch⟩,M+1,hM=>by
  show ∃pt,S8 (Ap M) M p=some pt/\_;unfold S8;refine T1 (fun i x1 x2=>x2=(i:Int)/\i<=p.L.n/\x1.n=i/\∀j,j<i->AG7 (N+d) (p.L.g j) (x1.g j)) p.L.n _ (by omega) ⟨rfl,by omega,rfl,fun j hj=>absurd hj (by omega)⟩ ?_;rintro self i x1 x2 hi ⟨rfl,h1,h2,h3⟩ hs;by_cases hl:i<p.L.n
  ·refine ifT (by simp;omega) (ifT (by omega) ?_);obtain⟨pt,e,hg⟩:=MJ hN d (by omega) (p.L.g i) (hch i hl) M (by omega);refine B4 (by rw[AR8];exact e) ?_;refine ifT (by show (x1.n+1)*16<=_/\x1.n+1<=_;omega) (hs hl _ _ ⟨C0 (by omega),hl,by show x1.n+1=i+1;omega,fun j hj=>?_⟩);by_cases e2:j=i
   ·subst e2
    have:(x1.push pt).g j=pt:=by simp[Sl.push,h2]
    rw[this];exact hg
   ·have:(x1.push pt).g j=x1.g j:=by simp[Sl.push];omega
    rw[this];exact h3 j (by omega)
  ·obtain rfl:i=p.L.n:=by omega
   have fin:∀(pt:Part),(∀(w:Sl Sound),w.n<=32->(∀i,i<w.n->okS (w.g i))->∀M,N+d<=M->∃f,Aq (M+1) pt w=some f/\TabA w.n (PR w p) f)->∃r,some pt=some r/\AG7 (N+(d+1)) p r:=by intro pt h;refine⟨pt,rfl,fun w hw hws M' hM'=>?_⟩;obtain⟨M'',rfl⟩:∃M'',M' = M'' + 1:=⟨M' - 1,by omega⟩;exact h w hw hws M'' (by omega)
   refine ifF (by simp) ?_;obtain⟨⟨k0,k6⟩,n1,n2,n3,n4,n5⟩:=hn;by_cases k1:p.Kind=1
   ·refine ifT (by simp[k1]) (fin _ fun w hw hws M' hM'=>?_);obtain⟨f,e,h⟩:=Ag4 (N:=M') (by omega) hw hws n5.ok p.Not;refine⟨f,e,h.congr fun a b _ _=>?_⟩;rw[Kt];simp[k1]
   refine ifF (by simp[k1]) ?_;by_cases k2:p.Kind=2
   ·refine ifT (by simp[k2]) (fin _ fun w hw hws M' hM'=>?_);obtain⟨f,e,h⟩:=WZ (N:=M') hw false;refine⟨f,e,h.congr fun a b _ _=>?_⟩;rw[Kt];simp[k2]
   refine ifF (by simp[k2]) ?_;by_cases k6:p.Kind=6
   ·refine ifT (by simp[k6]) (fin _ fun w hw hws M' hM'=>?_);obtain⟨f,e,h⟩:=WZ (N:=M') hw true;refine⟨f,e,h.congr fun a b _ _=>?_⟩;rw[Kt];simp[k6]
   refine ifF (by simp[k6]) ?_;by_cases k4:p.Kind=4
   ·refine ifT (by simp[k4]) (fin _ fun w hw hws M' hM'=>?_);obtain⟨f,e,h⟩:=AG5 (N:=M') (by omega) hw (rec:=Aq M') (m:=x1.n) (g:=x1.g) (Q:=fun i=>PR w (p.L.g i)) (by omega) fun i hi=>h3 i (by omega) w hw hws M' (by omega);refine⟨f,e,h.congr fun a b _ _=>?_⟩;rw[Kt,h2];simp[k4]
   refine ifF (by simp[k4]) ?_;by_cases k5:p.Kind=5
   ·obtain⟨g1,g2,g3,g4⟩:=n4 k5;refine ifT (by simp[k5]) (ifT (by omega) (fin _ fun w hw hws M' hM'=>?_));obtain⟨f,e,h⟩:=h3 0 (by omega) w hw hws M' (by omega);obtain⟨s,e2,h4⟩:=AG6 (N:=M') (by omega) hw (rec:=Aq M') (SS w (p.L.g 0)) e h g2 g3 g4;refine⟨s,e2,h4.congr fun a b _ _=>?_⟩;rw[Kt];simp[k5]
   ·refine ifF (by simp[k5]) (fin _ fun w hw hws M' hM'=>?_);obtain⟨f,e,h⟩:=AG4 (N:=M') (by omega) hw (rec:=Aq M') (m:=x1.n) (g:=x1.g) (Q:=fun i=>PR w (p.L.g i)) (by omega) fun i hi=>h3 i (by omega) w hw hws M' (by omega);refine⟨f,e,h.congr fun a b _ _=>?_⟩;rw[Kt,h2];by_cases k3:p.Kind=3
    ·simp[k3]
    ·have k0' : p.Kind=0:=by omega
     rw[n2 k3 k4 k5];simp[k0',YK]
end Go.AM
set_option linter.unusedVariables false
namespace Go.AM
open IntKind (wrap)
open Go.Proofs
theorem Zf {N:Nat}{p:Pat}(hp:okS p.Is):∃e,Al N p=some e/\(e=0↔GA p):=by
 obtain⟨a,b,he⟩:=hp;have hv:=VF he;have V:N6 N p.Is=some (vB a b):=by rw[he];exact Tn a b
 have e0:((p.Is.Plus==0)&&(p.Is.Minus==0))=decide (p.Is.Plus=0/\p.Is.Minus=0):=by rw[AU7];simp
 have fin:(GA p↔vS p.Is)->∃e,((N6 N p.Is).bind fun y1=>if (!y1)=true then some (14:Int)else some 0)=some e/\(e=0↔GA p):=by
  intro hX;rw[V];refine B4 rfl ?_;rw[hX,hv];cases vB a b
  ·exact ifT rfl ⟨14,rfl,by simp⟩
  ·exact ifF (by simp) ⟨0,rfl,by simp⟩
 have bad:∀{x:Int},x≠0->¬GA p->∃e,some x=some e/\(e=0↔GA p):=fun hx h=>⟨_,rfl,fun h2=>absurd h2 hx,fun h2=>absurd h2 h⟩;unfold Al;by_cases hk:p.Kind=0 \/ p.Kind=2 \/ p.Kind=6
 ·refine ifT (by rcases hk with h|h|h<;>simp[h]) (ltX ?_);rw[e0];by_cases g1:p.Is.Plus=0/\p.Is.Minus=0
  case neg=>exact ifT (by simp[g1]) (ifT rfl (bad (by decide) fun h=>g1 (h.2.1 (by omega)).1))
  refine ifF (by simp[g1]) ?_;by_cases g2:p.Not=true
  ·exact ifT g2 (ifT rfl (bad (by decide) fun h=>by have:=(h.2.1 (by omega)).2;rw[g2]at this;cases this))
  refine ifF g2 ?_;by_cases g3:p.Min=0
  case neg=>exact ifT (by simp[g3]) (ifT rfl (bad (by decide) fun h=>g3 (h.2.2.2.1 (by omega)).1))
  refine ifF (by simp[g3]) ?_;by_cases g4:p.Max=0
  case neg=>exact ifT (by simp[g4]) (ifT rfl (bad (by decide) fun h=>g4 (h.2.2.2.1 (by omega)).2))
  refine ifF (by simp[g4]) ?_;by_cases g5:p.L.n=0
  case neg=>exact ifT (by simp;omega) (bad (by decide) fun h=>g5 (h.2.2.1 (by omega) (by omega) (by omega)))
  refine ifF (by simp;omega) (fin ?_);exact⟨fun h=>h.2.2.2.2.2,fun h=>⟨by omega,fun _=>⟨g1,by simpa using g2⟩,fun _ _ _=>g5,fun _=>⟨g3,g4⟩,fun h5=>by omega,h⟩⟩
 refine ifF (by simp only[not_or]at hk;simp[hk]) ?_;by_cases k1:p.Kind=1
 ·refine ifT (by simp[k1]) (ltX ?_);refine ifF (by simp) ?_;by_cases g3:p.Min=0
  case neg=>exact ifT (by simp[g3]) (ifT rfl (bad (by decide) fun h=>g3 (h.2.2.2.1 (by omega)).1))
  refine ifF (by simp[g3]) ?_;by_cases g4:p.Max=0
  case neg=>exact ifT (by simp[g4]) (ifT rfl (bad (by decide) fun h=>g4 (h.2.2.2.1 (by omega)).2))
  refine ifF (by simp[g4]) ?_;by_cases g5:p.L.n=0
  case neg=>exact ifT (by simp;omega) (bad (by decide) fun h=>g5 (h.2.2.1 (by omega) (by omega) (by omega)))
  refine ifF (by simp;omega) (fin ?_);exact⟨fun h=>h.2.2.2.2.2,fun h=>⟨by omega,fun h1=>absurd k1 h1,fun _ _ _=>g5,fun _=>⟨g3,g4⟩,fun h5=>by omega,h⟩⟩
 refine ifF (by simp[k1]) (ltX ?_);rw[e0];have tail:∀(x y:Int),(GA p↔(p.Is.Plus=0/\p.Is.Minus=0)/\p.Not=false/\x=0/\y=0/\vS p.Is)->∃e,(if (((((decide (p.Is.Plus=0/\p.Is.Minus=0) != true)||p.Not)||(x != 0))||(y != 0))||(decide (0<0)))=true then some (2:Int)else
  (N6 N p.Is).bind fun y3=>if (!y3)=true then some 14 else some 0)=some e/\(e=0↔GA p):=by
  intro x y hX;by_cases g:(p.Is.Plus=0/\p.Is.Minus=0)/\p.Not=false/\x=0/\y=0
  ·obtain⟨g1,g2,g3,g4⟩:=g;exact ifF (by simp[g1,g2,g3,g4]) (fin (hX.trans ⟨fun h=>h.2.2.2.2,fun h=>⟨g1,g2,g3,g4,h⟩⟩))
  ·refine ifT ?_ (bad (by decide) fun h=>g ⟨(hX.1 h).1,(hX.1 h).2.1,(hX.1 h).2.2.1,(hX.1 h).2.2.2.1⟩);simp only[AT6,bne_iff_ne,ne_eq,decide_eq_true_eq];by_cases g1:p.Is.Plus=0/\p.Is.Minus=0
   ·by_cases g2:p.Not=true
    ·simp[g2]
    ·by_cases g3:x=0
     ·have:¬y=0:=fun g4=>g ⟨g1,by simpa using g2,g3,g4⟩
      simp[this]
     ·simp[g3]
   ·simp[g1]
 by_cases k34:p.Kind=3 \/ p.Kind=4
 ·refine ifT (by rcases k34 with h|h<;>simp[h]) (tail _ _ ?_);constructor
  ·exact fun h=>⟨(h.2.1 k1).1,(h.2.1 k1).2,(h.2.2.2.1 (by omega)).1,(h.2.2.2.1 (by omega)).2,h.2.2.2.2.2⟩
  ·rintro⟨h1,h2,h3,h4,h5⟩;exact⟨by omega,fun _=>⟨h1,h2⟩,fun h h'=>by omega,fun _=>⟨h3,h4⟩,fun h=>by omega,h5⟩
 refine ifF (by simp only[not_or]at k34;simp[k34]) ?_;by_cases k5:p.Kind=5
 ·refine ifT (by simp[k5]) ?_;by_cases g:p.L.n=1/\0<=p.Min/\p.Min<=32/\(p.Max = -1 \/ (p.Min<=p.Max/\p.Max<=32))
  ·refine ifF (by simp only[AT6,AS3,bne_iff_ne,ne_eq,decide_eq_true_eq];omega) (tail 0 0 ?_);constructor
   ·exact fun h=>⟨(h.2.1 k1).1,(h.2.1 k1).2,rfl,rfl,h.2.2.2.2.2⟩
   ·rintro⟨h1,h2,h3,h4,h5⟩;exact⟨by omega,fun _=>⟨h1,h2⟩,fun _ _ h=>absurd k5 h,fun h=>absurd k5 h,fun _=>g,h5⟩
  ·exact ifT (by simp only[AT6,AS3,bne_iff_ne,ne_eq,decide_eq_true_eq];omega) (bad (by decide) fun h=>g (h.2.2.2.2.1 k5))
 ·exact ifF (by simp[k5]) (bad (by decide) fun h=>by have:=h.1;omega)
theorem Ag7 {x:Sl Pat}{m:Nat}(h:x.n=m+1):x.toList.reverse=x.g m::(x.take m).toList.reverse:=by unfold Sl.toList;rw[h,Bb3,Ba2,Ba3];rfl
theorem As9 (z:Sl Pat)(q:Pat):((z.push Pat.nil).upd z.n q).toList.reverse=q::z.toList.reverse:=by
 rw[Ag7 (m:=z.n) rfl];have e1:((z.push Pat.nil).upd z.n q).g z.n=q:=by simp
 have e2:(((z.push Pat.nil).upd z.n q).take z.n).toList=z.toList:=by
  unfold Sl.toList;refine AU6 fun i hi=>?_
  have:i<z.n:=AW2.1 hi
  show (if i=z.n then q else if i<z.n then z.g i else Pat.nil)=z.g i;rw[if_neg (by omega),if_pos this]
 rw[e1,e2]
theorem VH {N:Nat}(q:Sl Pat)(hq:q.n<N)(hs:q.n<1000000):C8 N q=some ((List.range q.n).reverse.map fun (i:Nat)=>((i:Int),q.g i)):=by
 unfold C8;have h:∀(m:Nat),m<=q.n->∀F,m<F->U3 F (fun (self1:Int->Option (List (Int×Pat))) (x1:Int)=>
  if (decide (0<=x1))=true then
   if ((0:Int)<=x1/\x1<(q.n:Int))then
    U5 (x1,q.g x1.toNat) (
     self1 (wrap .i64 (x1-1))
     )
   else none
  else
   some []) ((m:Int)-1)=some ((List.range m).reverse.map fun (i:Nat)=>((i:Int),q.g i)):=by
  intro m
  induction m with
  |zero=>
   intro _ F hF
   match F,hF with
   |F+1,_=>rfl
  |succ m ih=>
   intro hm F hF
   match F,hF with
   |F+1,hF=>rw[P0];rw[show ((m+1:Nat):Int)-1=(m:Int) by omega,if_pos (by simp),if_pos (by omega),F0 (by omega) (by omega),ih (by omega) F (by omega),AR8,Bb3,Ba3,Bh4,Bi0,AU8];rfl
 rw[F0 (by omega) (by omega)];exact h q.n (AS4 _) N hq
theorem AG8 {k:Nat}(hk:k<=40){c:Sl Pat}{l:List Pat}:chk k ((c.take (min 41 c.n)).toList++l)↔chk k (c.toList++l):=by
 by_cases h:c.n<=41
 ·rw[Be7 h]
 ·constructor
  ·intro h2
   have:=MG _ _ h2
   rw[AW5,U0]at this
   have:(c.take (min 41 c.n)).n=41:=AZ0 (by omega)
   omega
  ·intro h2
   have:=MG _ _ h2
   rw[AW5,U0]at this;omega
theorem QF {N:Nat}(hN:2000<=N){p:Pat}(hp:okPS p):∃e,W5 N p=some e/\(e=0↔chk 40 [p]):=by
 unfold W5;refine T1 (fun i x3 x4=>x4=(i:Int)/\x3.n<=1+41*i/\(∀q∈x3.toList.reverse,okPS q)/\(chk 40 [p]↔chk (40-i) x3.toList.reverse)) 40 _ (by omega)
  ⟨rfl,by show 1<=_;omega,fun q hq=>by rw[show (Sl.of [p]:Sl Pat).toList.reverse=[p] from rfl]at hq;rw[AZ5.1 hq];exact hp,Bc0⟩ ?_
 rintro self i x3 x4 hi ⟨rfl,h1,hok,h2⟩ hs;rcases hn:x3.n with _|m
 ·refine ifF (by simp) ⟨0,rfl,fun _=>h2.2 ?_,fun _=>rfl⟩
  have:x3.toList.reverse=[]:=by unfold Sl.toList;rw[hn];rfl
  rw[this];exact Ag0 _
 ·rw[Ag7 hn]at h2 hok;refine ifT (decide_eq_true (by omega)) ?_;by_cases h40:i=40
  ·subst h40;refine ifT (by simp) ⟨12,rfl,fun h=>absurd h (by decide),fun h=>?_⟩
   have:(x3.g m::(x3.take m).toList.reverse)=[]:=h2.1 h
   cases this
  refine ifF (by simp;omega) ?_;have hw:IntKind.i64.wrap (((m+1:Nat):Int)-1)=(m:Int):=by rw[F0 (by omega) (by omega)];omega
  simp only[hw,AR8];refine ifT (by omega) (ifT (by omega) ?_);obtain⟨e,he,hnode⟩:=Zf (N:=N) (hok (x3.g m) (by simp)).is;refine B4 he ?_;rw[show 40-i=(39-i)+1 by omega]at h2;by_cases h0:e=0
  case neg=>exact ifT (by simp[h0]) ⟨e,rfl,fun h=>absurd h h0,fun h=>absurd (hnode.2 (h2.1 h).1) h0⟩
  refine ifF (by simp[h0]) ?_;have hc:(if (41:Int)<((x3.g m).L.n:Int)then (41:Int)else ((x3.g m).L.n:Int))=((min 41 (x3.g m).L.n:Nat):Int):=by split<;>omega
  simp only[hc,AR8];refine ifT (by omega) (B4 rfl (B4 (VH _ (by show min 41 _<N;omega) (by show min 41 _<1000000;omega)) ?_));generalize hC:(x3.g m).L.take (min 41 (x3.g m).L.n)=C;have hCn:C.n<=41:=by rw[<- hC];exact Nat.min_le_left _ _
  refine As7 (fun L z=>∃j,j<=C.n/\L=((List.range j).reverse.map fun (i:Nat)=>((i:Int),C.g i))/\z.n=m+(C.n-j)/\z.toList.reverse=C.toList.drop j++(x3.take m).toList.reverse) ?_ ?_ _ _ ⟨C.n,AS4 _,rfl,by show m=_;omega,by rw[Dj];rfl⟩
  ·rintro z ⟨j,hj,hL,hz,hzr⟩;have hj0:j=0:=by
    cases j with
    |zero=>rfl
    |succ j=>simp[Bb3]at hL
   subst hj0;rw[Bg2]at hzr;refine hs (by omega) _ _ ⟨C0 (by omega),by omega,fun q hq=>?_,?_⟩
   ·rw[hzr]at hq;rcases Bi1.1 hq with h|h
    ·obtain⟨i',hi',rfl⟩:=AY4.1 h;have hi':=AW2.1 hi';rw[<- hC]at hi'⊢;exact (hok (x3.g m) (by simp)).L (AT8 hi' (Nat.min_le_right _ _))
    ·exact hok q (by simp[h])
   ·rw[hzr,h2,show 40-(i+1)=39-i by omega,<- hC,AG8 (by omega)];exact⟨fun h=>h.2,fun h=>⟨hnode.1 h0,h⟩⟩
  ·rintro t L z self2 ⟨j,hj,hL,hz,hzr⟩ hs2;cases j with
   |zero=>simp at hL
   |succ j=>rw[Bb3,Ba3,Bh4,Bi0,AU8]at hL;obtain⟨rfl,rfl⟩:=List.cons.inj hL;have e1:(z.n:Int).toNat=z.n:=AR8 _;refine ifT ⟨⟨⟨by show (z.n+1)*64<=_;omega,by show z.n+1<=_;omega⟩,by show (0:Int)<=_/\(z.n:Int)<((z.n+1:Nat):Int);omega⟩,by show z.n<z.n+1;omega⟩ ?_;refine hs2 _ ⟨j,by omega,rfl,by show z.n+1=_;omega,?_⟩;rw[As9,hzr,ET C (i:=j) (by omega),AV9]
end Go.AM
set_option linter.unusedVariables false
namespace Go.AM
open IntKind (wrap)
open Go.Proofs
def wOk (w:Sl Sound):Prop:=w.n<=32/\∀i,i<w.n->vS (w.g i)
theorem Kc {N:Nat}{w:Sl Sound}(hN:w.n<N)(hs:w.n<1000000){f:Sound->Option Bool}{b:Nat->Bool}(hf:∀i,i<w.n->f (w.g i)=some (b i)) :∃r,B6 N w f=some r/\(r=true ↔ ∃i,i<w.n/\b i=true):=by
 unfold B6 D5
 have:∃y,U3 N (fun (self1:Int->Option Int) (x1:Int)=>
  if (decide (x1<(w.n:Int)))=true then
   if ((0:Int)<=x1/\x1<(w.n:Int))then
    (f (w.g x1.toNat)).bind fun y3=>
    if y3=true then
     some x1
    else
     self1 (wrap .i64 (x1+1))
   else none
  else
   some (-1)) 0=some y/\(0<=y ↔ ∃i,i<w.n/\b i=true):=by
  refine Cg (fun i x1=>x1=(i:Int)/\∀j,j<i->b j=false) w.n _ hN ⟨rfl,fun j hj=>absurd hj (by omega)⟩ ?_;rintro self i x1 hi ⟨rfl,h⟩ hs2;by_cases hl:i<w.n
  ·refine ifT (by simp;omega) (ifT (by omega) (B4 (by rw[AR8];exact hf i hl) ?_));cases hb:b i
   ·refine ifF (by simp) (hs2 hl _ ⟨C0 (by omega),fun j hj=>?_⟩);by_cases e:j=i
    ·subst e;exact hb
    ·exact h j (by omega)
   ·exact ifT rfl ⟨i,rfl,fun _=>⟨i,hl,hb⟩,fun _=>by omega⟩
  ·refine ifF (by simp;omega) ⟨-1,rfl,fun h=>absurd h (by decide),?_⟩;rintro⟨j,hj,hb⟩;rw[h j (by omega)]at hb;cases hb
 obtain⟨y,e,hy⟩:=this;exact B4 e ⟨_,rfl,by rw[decide_eq_true_eq];exact hy⟩
theorem Pn {N:Nat}(hN:3000<=N){p:Pat}(hp:okPS p){w:Sl Sound}(hs:w.n<1000000/\w.n+1000<N)(hw:∀i,i<w.n->okS (w.g i)) :∃r,Y6 N p w=some r/\(r.2=0↔chk 40 [p]/\wOk w)/\(r.2=0->TabA w.n (PR w p) r.1):=by
 unfold Y6;obtain⟨e,he,hc⟩:=QF (N:=N) (by omega) hp;refine B4 he ?_;by_cases h0:e=0
 case neg=>exact ifT (by simp[h0]) ⟨_,rfl,⟨fun h=>absurd h h0,fun h=>absurd (hc.2 h.1) h0⟩,fun h=>absurd h h0⟩
 refine ifF (by simp[h0]) ?_;by_cases hn:32<w.n
 ·exact ifT (by simp;omega) ⟨_,rfl,⟨fun h=>absurd h (by decide),fun h=>by have:=h.2.1;omega⟩,fun h=>absurd h (by decide)⟩
 refine ifF (by simp;omega) ?_;have hv:∀i,∃b:Bool,i<w.n->R5 N (w.g i)=some b/\(b=true ↔ ¬vS (w.g i)):=by
  intro i;by_cases hi:i<w.n
  ·obtain⟨x,y,he⟩:=hw i hi;refine⟨!vB x y,fun _=>⟨?_,?_⟩⟩
   ·unfold R5;rw[he,Tn];rfl
   ·rw[VF he];cases vB x y<;>simp
  ·exact⟨false,fun h=>absurd h hi⟩
 obtain⟨b,hb⟩:=AZ9 hv;obtain⟨r,hr,hr2⟩:=Kc (N:=N) (by omega) hs.1 (f:=fun u1=>R5 N u1) fun i hi=>(hb i hi).1;refine B4 hr ?_;by_cases hrt:r=true
 ·refine ifT hrt ⟨_,rfl,⟨fun h=>absurd h (by decide),fun h=>?_⟩,fun h=>absurd h (by decide)⟩;obtain⟨i,hi,hbi⟩:=hr2.1 hrt;exact absurd (h.2.2 i hi) ((hb i hi).2.1 hbi)
 ·refine ifF hrt ?_;have hok:wOk w:=⟨by omega,fun i hi=>AV5 fun hnv=>hrt (hr2.2 ⟨i,hi,(hb i hi).2.2 hnv⟩)⟩;obtain⟨pt,ep,hg⟩:=MJ (N:=1000) (by omega) 40 (AS4 _) p (Ag6 40 [p] (AS4 _) (hc.1 h0) p (by simp)) N (by omega);refine B4 ep ?_;obtain⟨f,ef,hf⟩:=hg w (by omega) hw N (by omega);exact B4 ef ⟨_,rfl,⟨fun _=>⟨hc.1 h0,hok⟩,fun _=>rfl⟩,fun _=>hf⟩
end Go.AM
set_option linter.unusedVariables false
namespace Go.AM
open Go.Proofs
theorem Zg {N:Nat}(hN:3000<=N){p:Pat}(hp:okPS p){w:Sl Sound}(hs:w.n<1000000/\w.n+1000<N)(hw:∀i,i<w.n->okS (w.g i))(at_:Int) :∃r,Bm N p w at_=some r/\(0<r.1.n↔chk 40 [p]/\wOk w/\0<=at_/\at_<=w.n/\∃a,a<=w.n/\PR w p a at_.toNat):=by
 unfold Bm;obtain⟨y,e,h1,h2⟩:=Pn hN hp hs hw;refine B4 e (ltX ?_);by_cases h0:y.2=0
 case neg=>refine ifF (by simp[h0]) (ifT (by simp[h0]) ⟨_,rfl,fun h=>absurd h (by show ¬ 0<0;omega),fun h=>absurd (h1.2 ⟨h.1,h.2.1⟩) h0⟩)
 refine ifT (by simp[h0]) ?_;obtain⟨hc,hok⟩:=h1.1 h0;have hT:=h2 h0;have hn:=hok.1;unfold Y3;by_cases hat:at_<0 \/ (w.n:Int)<at_
 ·rw[if_pos (by simpa using hat)];refine B4 rfl (ifT (by decide) ⟨_,rfl,fun h=>absurd h (by show ¬ 0<0;omega),fun h=>by omega⟩)
 rw[if_neg (by simpa using hat)];refine B4 rfl (ifF (by simp) ?_);obtain⟨k,rfl⟩:∃k:Nat,at_=(k:Int):=⟨at_.toNat,by omega⟩;rw[C0 (by omega),AR8];refine T1 (fun i x2 x3=>x3=(i:Int)/\x2.n<=i/\(0<x2.n ↔ ∃a,a<i/\PR w p a k)) (w.n+1) _ (by omega) ⟨rfl,AS4 _,fun h=>absurd h (by show ¬ 0<0;omega),fun⟨a,h,_⟩=>absurd h (by omega)⟩ ?_;rintro self i x2 x3 hi ⟨rfl,g1,g2⟩ hs2;by_cases hl:i<=w.n
 ·refine ifT (by simp;omega) (ifT (by omega) ?_);rw[AR8,AV3,AY7];have hb:=hT.1.bit hl (b:=k) (by omega);by_cases hP:PR w p i k
  ·refine ifT (hb.2 ⟨by omega,hP⟩) (ifT (by show (x2.n+1)*8<=_/\x2.n+1<=_;omega) (hs2 (by omega) _ _ ⟨C0 (by omega),by show x2.n+1<=_;omega,fun _=>⟨i,by omega,hP⟩,fun _=>by show 0<x2.n+1;omega⟩))
  ·refine ifF (fun h=>hP (hb.1 h).2) (hs2 (by omega) _ _ ⟨C0 (by omega),by omega,fun h=>?_,fun⟨a,ha,h⟩=>?_⟩)
   ·obtain⟨a,ha,h'⟩:=g2.1 h;exact⟨a,by omega,h'⟩
   ·by_cases e2:a=i
    ·subst e2;exact absurd h hP
    ·exact g2.2 ⟨a,by omega,h⟩
 ·refine ifF (by simp;omega) ⟨_,rfl,fun h=>?_,fun h=>?_⟩
  ·obtain⟨a,ha,h'⟩:=g2.1 h;exact⟨hc,hok,by omega,by omega,a,by omega,h'⟩
  ·obtain⟨a,ha,h'⟩:=h.2.2.2.2;exact g2.2 ⟨a,by omega,h'⟩
theorem VJ {N:Nat}(L:List Int)(hL:L.length<1000):∃s,J6 N L=some s/\s.n=L.length:=by
 unfold J6 G1
 have:∃s:Sl Int,K0 L (fun (self1:Sl Int->Option (Sl Int)) (x1:Int) (z1:Sl Int)=>
  if ((z1.n+(Sl.of [x1]:Sl Int).n)*8<=140737488355328/\z1.n+(Sl.of [x1]:Sl Int).n<=140737488355328)then
   self1 (z1.push x1)
  else none
  ) (fun (z1:Sl Int)=>some z1) (Sl.nil:Sl Int)=some s/\s.n=L.length:=by
  refine As7 (fun l z=>z.n+l.length=L.length) (fun z h=>⟨z,rfl,by simpa using h⟩) (fun t l z self h hs=>?_) L _ (by simp);simp only[AV1]at h;exact ifT (by show (z.n+1)*8<=_/\z.n+1<=_;omega) (hs _ (by show z.n+1+l.length=_;omega))
 obtain⟨s,e,hn⟩:=this;exact B4 e ⟨s,rfl,hn⟩
theorem At0 {N:Nat}(hN:3000<=N){p:Pat}(hp:okPS p){w:Sl Sound}(hs:w.n<1000000/\w.n+1000<N)(hw:∀i,i<w.n->okS (w.g i))(at_:Int) :∃r,Df N p w at_=some r/\(0<r.1.n↔chk 40 [p]/\wOk w/\0<=at_/\at_<=w.n/\∃b,b<=w.n/\PR w p at_.toNat b):=by
 unfold Df;obtain⟨y,e,h1,h2⟩:=Pn hN hp hs hw;refine B4 e (ltX ?_);by_cases h0:y.2=0
 case neg=>refine ifF (by simp[h0]) (ifT (by simp[h0]) ⟨_,rfl,fun h=>absurd h (by show ¬ 0<0;omega),fun h=>absurd (h1.2 ⟨h.1,h.2.1⟩) h0⟩)
 refine ifT (by simp[h0]) ?_;obtain⟨hc,hok⟩:=h1.1 h0;have hT:=h2 h0;have hn:=hok.1;unfold Y3;by_cases hat:at_<0 \/ (w.n:Int)<at_
 ·rw[if_pos (by simpa using hat)];refine B4 rfl (ifT (by decide) ⟨_,rfl,fun h=>absurd h (by show ¬ 0<0;omega),fun h=>by omega⟩)
 rw[if_neg (by simpa using hat)];refine B4 rfl (ifF (by simp) ?_);obtain⟨k,rfl⟩:∃k:Nat,at_=(k:Int):=⟨at_.toNat,by omega⟩;refine ifT (by omega) ?_;rw[AR8,AV3,AY7];obtain⟨u,e1,g1⟩:=hT.1 k (by omega);refine B4 (x:=y.1 k) rfl (B4 (x:=EU u 0) (by rw[e1];exact Hy u (by omega)) ?_);obtain⟨s,es,hsn⟩:=VJ (N:=N) (EU u 0) (by unfold EU;rw[AW8];exact Bj9 (Bi2 _ _) (by simp))
 refine B4 es ⟨_,rfl,?_⟩;show 0<s.n↔_;rw[hsn,List.length_pos_iff_exists_mem];constructor
 ·rintro⟨t,ht⟩;obtain⟨b,rfl,_,hb,hbit⟩:=mem_bitsF.1 ht;exact⟨hc,hok,by omega,by omega,b,((g1 b hb).1 hbit).1,((g1 b hb).1 hbit).2⟩
 ·rintro⟨_,_,_,_,b,hb,h⟩;exact⟨(b:Int),mem_bitsF.2 ⟨b,rfl,by omega,by omega,(g1 b (by omega)).2 ⟨hb,h⟩⟩⟩
end Go.AM
set_option linter.unusedVariables false
namespace Go.AM
open IntKind (wrap)
open Go.Proofs
def Xb (w:Sl Sound)(e:Int):Prop:=(32<w.n/\e=11) \/ (w.n<=32/\(∃i,i<w.n/\¬vS (w.g i))/\e=14) \/ (wOk w/\e=0)
theorem Ge {w:Sl Sound}{e e' : Int}(h:Xb w e)(h' : Xb w e'):e=e':=by
 rcases h with⟨h1,h2⟩ | ⟨h1,⟨i,hi,hv⟩,h2⟩ | ⟨h1,h2⟩<;>rcases h' with⟨g1,g2⟩ | ⟨g1,⟨j,hj,gv⟩,g2⟩ | ⟨g1,g2⟩
 ·omega
 ·omega
 ·have:=g1.1;omega
 ·omega
 ·omega
 ·exact absurd (g1.2 i hi) hv
 ·have:=h1.1;omega
 ·exact absurd (h1.2 j hj) gv
 ·omega
theorem R6 {w:Sl Sound}{e:Int}(h:Xb w e):e=0↔wOk w:=by
 rcases h with⟨h1,h2⟩ | ⟨h1,⟨i,hi,hv⟩,h2⟩ | ⟨h1,h2⟩
 ·exact⟨fun h=>by omega,fun h=>by have:=h.1;omega⟩
 ·exact⟨fun h=>by omega,fun h=>absurd (h.2 i hi) hv⟩
 ·exact⟨fun _=>h1,fun _=>h2⟩
theorem Tr {N:Nat}(hN:1000<=N){w:Sl Sound}(hw:∀i,i<w.n->okS (w.g i))(V:Sound->Option Bool)(hV:∀p m:BitVec 32,V (sOf p m)=some (vB p m)) :∃e,(if (decide (32<(w.n:Int)))=true then
 some (11:Int)
 else
  U3 N (fun self1 (x1:Int)=>
   if (decide (x1<(w.n:Int)))=true then
    if ((0:Int)<=x1/\x1<(w.n:Int))then
     (V (w.g x1.toNat)).bind fun y3=>
     if (!y3)=true then
      some 14
     else
      self1 (wrap .i64 (x1+1))
    else none
   else
    some 0
   ) 0)=some e/\Xb w e:=by
 by_cases hn:32<w.n
 ·exact ifT (by simp;omega) ⟨11,rfl,.inl ⟨hn,rfl⟩⟩
 refine ifF (by simp;omega) ?_;refine Cg (fun i x1=>x1=(i:Int)/\∀j,j<i->vS (w.g j)) w.n _ (by omega) ⟨rfl,fun j hj=>absurd hj (by omega)⟩ ?_;rintro self i x1 hi ⟨rfl,h⟩ hs;by_cases hl:i<w.n
 ·obtain⟨p,m,he⟩:=hw i hl;refine ifT (by simp;omega) (ifT (by omega) (B4 (by rw[AR8,he];exact hV p m) ?_));cases hb:vB p m
  ·refine ifT rfl ⟨14,rfl,.inr (.inl ⟨by omega,⟨i,hl,fun hv=>?_⟩,rfl⟩)⟩
   have:=(VF he).1 hv;rw[hb]at this;cases this
  ·refine ifF (by simp) (hs hl _ ⟨C0 (by omega),fun j hj=>?_⟩);by_cases e:j=i
   ·subst e;exact (VF he).2 hb
   ·exact h j (by omega)
 ·exact ifF (by simp;omega) ⟨0,rfl,.inr (.inr ⟨⟨by omega,fun j hj=>h j (by omega)⟩,rfl⟩)⟩
theorem MK {N:Nat}(hN:1000<=N){w:Sl Sound}(hw:∀i,i<w.n->okS (w.g i)):∃e,S1 N w=some e/\Xb w e:=
 Tr hN hw (AL N) fun p m=>Tm p m
theorem CK {N:Nat}(hN:1000<=N){w:Sl Sound}(hw:∀i,i<w.n->okS (w.g i)):∃e,S4 N w=some e/\Xb w e:=
 Tr hN hw (P7 N) fun p m=>Pk p m
theorem Xc {N:Nat}(hN:2000<=N){p:Pat}(hp:okPS p){w:Sl Sound}(hw:∀i,i<w.n->okS (w.g i)):∃e,CE N p w=some e/\(e=0↔chk 40 [p]/\wOk w):=by
 unfold CE;obtain⟨e,he,hc⟩:=MI hN hp;refine B4 he ?_;by_cases h0:e=0
 ·obtain⟨e2,he2,hw2⟩:=CK (N:=N) (by omega) hw;exact ifT (by simp[h0]) (B4 he2 ⟨e2,rfl,(R6 hw2).trans ⟨fun h=>⟨hc.1 h0,h⟩,fun h=>h.2⟩⟩)
 ·exact ifF (by simp[h0]) ⟨e,rfl,fun h=>absurd h h0,fun h=>absurd (hc.2 h.1) h0⟩
theorem VK {N:Nat}(hN:3000<=N){p:Pat}(hp:okPS p){w:Sl Sound}(hw:∀i,i<w.n->okS (w.g i))(at_:Int) :∃r,BW N p w at_=some r/\(0<r.1.n↔chk 40 [p]/\wOk w/\0<=at_/\at_<=w.n/\∃a,a<=w.n/\PR w p a at_.toNat):=by
 unfold BW;obtain⟨e,he,h1⟩:=Xc (N:=N) (by omega) hp hw;refine B4 he ?_;by_cases h0:e=0
 case neg=>exact ifT (by simp[h0]) ⟨_,rfl,fun h=>absurd h (by show ¬ 0<0;omega),fun h=>absurd (h1.2 ⟨h.1,h.2.1⟩) h0⟩
 refine ifF (by simp[h0]) ?_;obtain⟨hc,hok⟩:=h1.1 h0;have hn:=hok.1;by_cases hat:at_<0 \/ (w.n:Int)<at_
 ·exact ifT (by simpa using hat) ⟨_,rfl,fun h=>absurd h (by show ¬ 0<0;omega),fun h=>by omega⟩
 refine ifF (by simpa using hat) ?_;obtain⟨k,rfl⟩:∃k:Nat,at_=(k:Int):=⟨at_.toNat,by omega⟩;obtain⟨t,et,tn,hT⟩:=MF (N:=1000) (by omega) hn 40 p (MH 40 [p] (AS4 _) hc p (by simp)) N (by omega);refine B4 et ?_;rw[AR8];refine T1 (fun i x2 x3=>x3=(i:Int)/\x2.n<=i/\(0<x2.n ↔ ∃a,a<i/\PR w p a k)) (w.n+1) _ (by omega) ⟨rfl,AS4 _,fun h=>absurd h (by show ¬ 0<0;omega),fun⟨a,h,_⟩=>absurd h (by omega)⟩ ?_;rintro self i x2 x3 hi ⟨rfl,g1,g2⟩ hs2;by_cases hl:i<=w.n
 ·refine ifT (by simp;omega) (ifT (by omega) ?_);rw[AR8];have hb:=hT.bit hl (b:=k) (by omega);by_cases hP:PR w p i k
  ·refine ifT (hb.2 ⟨by omega,hP⟩) (ifT (by show (x2.n+1)*8<=_/\x2.n+1<=_;omega) (hs2 (by omega) _ _ ⟨C0 (by omega),by show x2.n+1<=_;omega,fun _=>⟨i,by omega,hP⟩,fun _=>by show 0<x2.n+1;omega⟩))
  ·refine ifF (fun h=>hP (hb.1 h).2) (hs2 (by omega) _ _ ⟨C0 (by omega),by omega,fun h=>?_,fun⟨a,ha,h⟩=>?_⟩)
   ·obtain⟨a,ha,h'⟩:=g2.1 h;exact⟨a,by omega,h'⟩
   ·by_cases e2:a=i
    ·subst e2;exact absurd h hP
    ·exact g2.2 ⟨a,by omega,h⟩
 ·refine ifF (by simp;omega) ⟨_,rfl,fun h=>?_,fun h=>?_⟩
  ·obtain⟨a,ha,h'⟩:=g2.1 h;exact⟨hc,hok,by omega,by omega,a,by omega,h'⟩
  ·obtain⟨a,ha,h'⟩:=h.2.2.2.2;exact g2.2 ⟨a,by omega,h'⟩
theorem Ag8 {N:Nat}(hN:3000<=N){p:Pat}(hp:okPS p){w:Sl Sound}(hw:∀i,i<w.n->okS (w.g i))(at_:Int) :∃r,Ek N p w at_=some r/\(0<r.1.n↔chk 40 [p]/\wOk w/\0<=at_/\at_<=w.n/\∃b,b<=w.n/\PR w p at_.toNat b):=by
 unfold Ek;obtain⟨e,he,h1⟩:=Xc (N:=N) (by omega) hp hw;refine B4 he ?_;by_cases h0:e=0
 case neg=>exact ifT (by simp[h0]) ⟨_,rfl,fun h=>absurd h (by show ¬ 0<0;omega),fun h=>absurd (h1.2 ⟨h.1,h.2.1⟩) h0⟩
 refine ifF (by simp[h0]) ?_;obtain⟨hc,hok⟩:=h1.1 h0;have hn:=hok.1;by_cases hat:at_<0 \/ (w.n:Int)<at_
 ·exact ifT (by simpa using hat) ⟨_,rfl,fun h=>absurd h (by show ¬ 0<0;omega),fun h=>by omega⟩
 refine ifF (by simpa using hat) ?_;obtain⟨k,rfl⟩:∃k:Nat,at_=(k:Int):=⟨at_.toNat,by omega⟩;obtain⟨t,et,tn,hT⟩:=MF (N:=1000) (by omega) hn 40 p (MH 40 [p] (AS4 _) hc p (by simp)) N (by omega);refine B4 et ?_;rw[AR8];refine T1 (fun i x2 x3=>x3=(i:Int)/\x2.n<=i/\(0<x2.n ↔ ∃b,b<i/\PR w p k b)) (w.n+1) _ (by omega) ⟨rfl,AS4 _,fun h=>absurd h (by show ¬ 0<0;omega),fun⟨a,h,_⟩=>absurd h (by omega)⟩ ?_;rintro self i x2 x3 hi ⟨rfl,g1,g2⟩ hs2;by_cases hl:i<=w.n
 ·refine ifT (by simp;omega) (ifT (by omega) ?_);have hb:=hT.bit (a:=k) (by omega) (b:=i) (by omega);by_cases hP:PR w p k i
  ·refine ifT (hb.2 ⟨by omega,hP⟩) (ifT (by show (x2.n+1)*8<=_/\x2.n+1<=_;omega) (hs2 (by omega) _ _ ⟨C0 (by omega),by show x2.n+1<=_;omega,fun _=>⟨i,by omega,hP⟩,fun _=>by show 0<x2.n+1;omega⟩))
  ·refine ifF (fun h=>hP (hb.1 h).2) (hs2 (by omega) _ _ ⟨C0 (by omega),by omega,fun h=>?_,fun⟨a,ha,h⟩=>?_⟩)
   ·obtain⟨a,ha,h'⟩:=g2.1 h;exact⟨a,by omega,h'⟩
   ·by_cases e2:a=i
    ·subst e2;exact absurd h hP
    ·exact g2.2 ⟨a,by omega,h⟩
 ·refine ifF (by simp;omega) ⟨_,rfl,fun h=>?_,fun h=>?_⟩
  ·obtain⟨a,ha,h'⟩:=g2.1 h;exact⟨hc,hok,by omega,by omega,a,by omega,h'⟩
  ·obtain⟨a,ha,h'⟩:=h.2.2.2.2;exact g2.2 ⟨a,by omega,h'⟩
end Go.AM
set_option linter.unusedVariables false
namespace Go.AM
open Go.Proofs
def AJ8 (s c:Sound):Prop:=∃p m a b:BitVec 32,s=sOf p m/\c=sOf a b/\ZD p m a b=true
theorem Ag9 {p m a b:BitVec 32}(h:sOf p m=sOf a b):p=a/\m=b:=by have e1:(p.toNat:Int)=a.toNat:=congrArg Sound.Plus h;have e2:(m.toNat:Int)=b.toNat:=congrArg Sound.Minus h;exact⟨AV7 (by omega),AV7 (by omega)⟩
theorem satS_of {p m a b:BitVec 32}:AJ8 (sOf p m) (sOf a b)↔ZD p m a b=true:=by
 constructor
 ·rintro⟨p',m',a',b',h1,h2,h3⟩;obtain⟨rfl,rfl⟩:=Ag9 h1;obtain⟨rfl,rfl⟩:=Ag9 h2;exact h3
 ·exact fun h=>⟨_,_,_,_,rfl,rfl,h⟩
theorem At1 {N:Nat}{s c:Sound}(hs:okS s)(hc:okS c):∃b,I7 N s c=some b/\(b=true↔AJ8 s c):=by obtain⟨p,m,rfl⟩:=hs;obtain⟨a,b,rfl⟩:=hc;exact⟨_,AG0 p m a b,satS_of.symm⟩
theorem At2 {N:Nat}(hN:1000<=N){s c:Sound}(hs:okS s)(hc:okS c):∃b,O3 N s c=some b/\(b=true↔AJ8 s c):=by obtain⟨p,m,rfl⟩:=hs;obtain⟨a,b,rfl⟩:=hc;exact⟨_,AG1 p m a b hN,satS_of.symm⟩
def okL (l:Law):Prop:=okPS l.Left/\okPS l.Right/\∀i,i<l.If.n->okS (l.If.g i)
def arP (l:Law)(w:Sl Sound)(i:Nat):Prop:=chk 40 [l.Left]/\chk 40 [l.Right]/\wOk w/\i+l.If.n<=w.n/\(∃a,a<=w.n/\PR w l.Left a i)/\∃b,b<=w.n/\PR w l.Right (i+l.If.n) b
def Po (l:Law)(w:Sl Sound)(i:Nat):Prop:=i+l.If.n<=w.n/\(∀j,j<l.If.n->AJ8 (w.g (i+j)) (l.If.g j))/\arP l w i
def okW (w:Sl Sound):Prop:=w.n<1000/\∀i,i<w.n->okS (w.g i)
theorem Zh {N:Nat}(hN:3000<=N){l:Law}(hl:okL l)(hk:l.If.n<=4){w:Sl Sound}(hw:okW w)(i:Nat)(hi:i<2000) :∃b,T6 N (i:Int) l w=some b/\(b=true↔arP l w i):=by
 unfold T6;obtain⟨y1,e1,h1⟩:=Zg (N:=N) hN hl.1 (w:=w) ⟨by have:=hw.1;omega,by have:=hw.1;omega⟩ hw.2 (i:Int);refine B4 e1 ?_;rw[AR8]at h1;by_cases h0:y1.1.n=0
 ·refine ifT (by simp[h0]) ⟨false,rfl,by simp,fun h=>?_⟩
  have:=h1.2 ⟨h.1,h.2.2.1,by omega,by have:=h.2.2.2.1;omega,h.2.2.2.2.1⟩
  omega
 ·refine ifF (by simp;omega) ?_;rw[Dp (by omega)];obtain⟨y2,e2,h2⟩:=At0 (N:=N) hN hl.2.1 (w:=w) ⟨by have:=hw.1;omega,by have:=hw.1;omega⟩ hw.2 ((i+l.If.n:Nat):Int);rw[AR8]at h2;refine B4 e2 ⟨_,rfl,?_⟩;have h1:=h1.1 (by omega);rw[decide_eq_true_eq];constructor
  ·intro h;have h2:=h2.1 (by omega);exact⟨h1.1,h2.1,h1.2.1,by omega,h1.2.2.2.2,h2.2.2.2.2⟩
  ·intro h
   have:=h2.2 ⟨h.2.1,h.2.2.1,by omega,by have:=h.2.2.2.1;omega,h.2.2.2.2.2⟩
   omega
theorem QG {N:Nat}(hN:3000<=N){l:Law}(hl:okL l)(hk:l.If.n<=4){w:Sl Sound}(hw:okW w)(i:Nat)(hi:i<2000) :∃b,Am N l w (i:Int)=some b/\(b=true↔Po l w i):=by
 unfold Am;rw[Dp (by omega)];by_cases hn:w.n<i+l.If.n
 ·exact ifT (by simp;omega) ⟨false,rfl,by simp,fun h=>by have:=h.1;omega⟩
 refine ifF (by simp;omega) ?_;refine Cg (fun j x1=>x1=(j:Int)/\∀k,k<j->AJ8 (w.g (i+k)) (l.If.g k)) l.If.n _ (by omega) ⟨rfl,fun k hk=>absurd hk (by omega)⟩ ?_;rintro self j x1 hj ⟨rfl,h⟩ hs;by_cases hlt:j<l.If.n
 ·rw[Dp (by omega)];refine ifT (by simp;omega) (ifT (by omega) ?_);obtain⟨b,eb,hb⟩:=At2 (N:=N) (by omega) (hw.2 (i+j) (by omega)) (hl.2.2 j hlt);refine B4 (by rw[AR8,AR8];exact eb) ?_;cases b
  ·refine ifT rfl ⟨false,rfl,by simp,fun h2=>?_⟩
   have:=hb.2 (h2.2.1 j hlt);cases this
  ·refine ifF (by simp) (hs hlt _ ⟨C0 (by omega),fun k hk2=>?_⟩);by_cases e:k=j
   ·subst e;exact hb.1 rfl
   ·exact h k (by omega)
 ·refine ifF (by simp;omega) ?_;obtain⟨y1,e1,h1⟩:=VK (N:=N) hN hl.1 (w:=w) hw.2 (i:Int);obtain⟨y2,e2,h2⟩:=Ag8 (N:=N) hN hl.2.1 (w:=w) hw.2 ((i+l.If.n:Nat):Int);rw[AR8]at h1 h2;refine B4 e1 (B4 e2 ⟨_,rfl,?_⟩);simp only[AS3,decide_eq_true_eq];constructor
  ·rintro⟨g1,g2⟩;have h1:=h1.1 (by omega);have h2:=h2.1 (by omega);exact⟨by omega,fun k hk2=>h k (by omega),h1.1,h2.1,h1.2.1,by omega,h1.2.2.2.2,h2.2.2.2.2⟩
  ·intro g;have a1:=h1.2 ⟨g.2.2.1,g.2.2.2.2.1,by omega,by omega,g.2.2.2.2.2.2.1⟩;have a2:=h2.2 ⟨g.2.2.2.1,g.2.2.2.2.1,by omega,by omega,g.2.2.2.2.2.2.2⟩;exact⟨by omega,by omega⟩
end Go.AM
set_option linter.unusedVariables false
namespace Go.AM
open IntKind (wrap)
open Go.Proofs
open Classical in
noncomputable def hitB (l:Law) (w:Sl Sound) (i:Nat):Bool:=decide (Po l w i)
theorem hitB_iff {l:Law}{w:Sl Sound}{i:Nat}:hitB l w i=true↔Po l w i:=by simp[hitB]
noncomputable def DQ (l:Law) (w:Sl Sound) (i:Nat):List Int:=((List.range' i (w.n+1-i)).filter (hitB l w)).map fun (j:Nat)=>(j:Int)
theorem Jn {l:Law}{w:Sl Sound}{i:Nat}(h:w.n<i+l.If.n):DQ l w i=[]:=by
 unfold DQ;rw[Bh3.2 fun j hj hb=>by
  have:=Bc5.1 hj
  have:=(hitB_iff.1 hb).1
  omega]
 rfl
theorem IE {l:Law}{w:Sl Sound}{i:Nat}(hi:i<=w.n)(h:Po l w i):DQ l w i=(i:Int)::DQ l w (i+1):=by unfold DQ;rw[show w.n+1-i=(w.n+1-(i+1))+1 by omega,Ba6,Bd8 (hitB_iff.2 h)];rfl
theorem IF {l:Law}{w:Sl Sound}{i:Nat}(h:¬Po l w i):DQ l w i=DQ l w (i+1):=by
 unfold DQ;by_cases hi:i<=w.n
 ·rw[show w.n+1-i=(w.n+1-(i+1))+1 by omega,Ba6,Bd9 fun hb=>h (hitB_iff.1 hb)]
 ·rw[show w.n+1-i=0 by omega,show w.n+1-(i+1)=0 by omega];rfl
theorem At3 {l:Law}{w:Sl Sound}{i:Nat}{y:Int}(h:y∈DQ l w i):(i:Int)<=y:=by
 obtain⟨j,hj,rfl⟩:=AY4.1 h
 have:=Bc5.1 (Bd7.1 hj).1
 omega
theorem Xd {N:Nat}(hN:3000<=N){l:Law}(hl:okL l)(hk:l.If.n<=4){w:Sl Sound}(hw:okW w)(i:Nat)(hi:i<1500):W7 N l w (i:Int)=some (DQ l w i):=by
 unfold W7;show (some (l,w)).bind _=_;rw[AS1];simp only[]
 suffices h:∀(k i:Nat),i<1501->w.n+1-i<=k->∀F,k<F->∃r,U3 F (fun (self3:Int->Option (List Int)) (x2:Int)=>
  if (decide ((wrap .i64 (x2+(l.If.n:Int)))<=(w.n:Int)))=true then
   U3 N (fun (self4:Int->Option (List Int)) (x4:Int)=>
    if (decide (x4<(l.If.n:Int)))=true then
     if ((0:Int)<=x4/\x4<(l.If.n:Int))then
      if ((0:Int)<=(wrap .i64 (x2+x4))/\(wrap .i64 (x2+x4))<(w.n:Int))then
       (I7 N (w.g (wrap .i64 (x2+x4)).toNat) (l.If.g x4.toNat)).bind fun y12=>
       if (!y12)=true then
        self3 (wrap .i64 (x2+1))
       else
        self4 (wrap .i64 (x4+1))
      else none
     else none
    else
     (T6 N x2 l w).bind fun y13=>
     if y13=true then
      U5 x2 (
       self3 (wrap .i64 (x2+1))
       )
     else
      self3 (wrap .i64 (x2+1))
    ) 0
  else
   some []
  ) (i:Int)=some r/\r=DQ l w i by
  obtain⟨r,h1,rfl⟩:=h (w.n+1-i) i (by omega) (AS4 _) N (by have:=hw.1;omega);exact h1
 intro k
 induction k with
 |zero=>
  intro i hi hk2 F hF
  match F,hF with
  |F+1,_=>rw[P0,Dp (by omega)];exact ifF (by simp;omega) ⟨_,rfl,(Jn (by omega)).symm⟩
 |succ k ih=>
  intro i hi hk2 F hF
  match F,hF with
  |F+1,hF=>
   rw[P0,Dp (by omega)];by_cases hn:i+l.If.n<=w.n
   case neg=>exact ifF (by simp;omega) ⟨_,rfl,(Jn (by omega)).symm⟩
   refine ifT (by simp;omega) ?_;have hw1:=hw.1;obtain⟨r,hr,hr2⟩:=ih (i+1) (by omega) (by omega) F (by omega);have hself:∀(Q:List Int->Prop),Q (DQ l w (i+1))->∃r,U3 F _ (IntKind.i64.wrap ((i:Int)+1))=some r/\Q r:=fun Q hQ=>⟨r,by rw[C0 (by omega)];exact hr,by rw[hr2];exact hQ⟩;refine Cg (fun j x1=>x1=(j:Int)/\∀k,k<j->AJ8 (w.g (i+k)) (l.If.g k)) l.If.n _ (by omega) ⟨rfl,fun k hk=>absurd hk (by omega)⟩ ?_;rintro self j x1 hj ⟨rfl,h⟩ hs;by_cases hlt:j<l.If.n
   ·rw[Dp (by omega)];refine ifT (by simp;omega) (ifT (by omega) (ifT (by omega) ?_));obtain⟨b,eb,hb⟩:=At1 (N:=N) (hw.2 (i+j) (by omega)) (hl.2.2 j hlt);refine B4 (by rw[AR8,AR8];exact eb) ?_;cases b
    ·refine ifT rfl (hself _ ?_);exact (IF fun h2=>by have:=hb.2 (h2.2.1 j hlt);cases this).symm
    ·refine ifF (by simp) (hs hlt _ ⟨C0 (by omega),fun k hk2=>?_⟩);by_cases e:k=j
     ·subst e;exact hb.1 rfl
     ·exact h k (by omega)
   ·refine ifF (by simp;omega) ?_;obtain⟨b,eb,hb⟩:=Zh hN hl hk hw i (by omega);refine B4 eb ?_;cases b
    ·refine ifF (by simp) (hself _ ?_);exact (IF fun h2=>by have:=hb.2 h2.2.2;cases this).symm
    ·refine ifT rfl ?_;have hh:Po l w i:=⟨hn,fun k hk2=>h k (by omega),hb.1 rfl⟩;refine⟨(i:Int)::DQ l w (i+1),?_,(IE (by omega) hh).symm⟩;rw[C0 (by omega),hr,hr2];rfl
theorem Ah0 {N:Nat}(hN:3000<=N){l:Law}(hl:okL l)(hk:l.If.n<=4){w:Sl Sound}(hw:okW w)(i:Nat)(hi:i<1500) :∃b,BZ N l w (i:Int)=some b/\(b=true↔Po l w i):=by
 unfold BZ;refine B4 (x:=(l,w,(i:Int))) rfl (B4 (Xd hN hl hk hw i hi) ?_);by_cases h:Po l w i
 ·rw[IE (by have:=h.1;omega) h];exact⟨true,by simp[K0],by simp[h]⟩
 ·rw[IF h];rcases hL:DQ l w (i+1)with _|⟨t,L⟩
  ·exact⟨false,rfl,by simp[h]⟩
  ·have:((i+1:Nat):Int)<=t:=At3 (l:=l) (w:=w) (by rw[hL];simp)
   exact⟨false,by show some (t==(i:Int))=some false;congr 1;simp;omega,by simp[h]⟩
end Go.AM
set_option linter.unusedVariables false
namespace Go.AM
open IntKind (wrap)
open Go.Proofs
def okO (x:AW):Prop:=okS x.Set/\(∃c:BitVec 32,x.Clear=(c.toNat:Int))/\∃t:BitVec 32,x.Take=(t.toNat:Int)
theorem Ay1 {p m a b s:BitVec 32}(h1:vB p m=true)(h2:vB a b=true):vB (QV p a s) (QV m b s)=true:=by rw[Fl]at *;intro i hi;have g1:=h1 i hi;have g2:=h2 i hi;simp only[QV,AT2,AT3,AW9];revert g1 g2;cases s.getLsbD i<;>cases p.getLsbD i<;>cases m.getLsbD i<;>cases a.getLsbD i<;>cases b.getLsbD i<;>simp[hi]
theorem vS0:vS (⟨0,0⟩:Sound):=⟨0#32,0#32,rfl,by decide +kernel⟩
theorem VL {N:Nat}(hN:1000<=N){s t:Sound}{c:Int}(hs:okS s)(hc:∃b:BitVec 32,c=(b.toNat:Int))(ht:okS t):∃y,N5 N s c t=some y/\P3 N s c t=some y/\vS y.1:=by
 obtain⟨p,m,rfl⟩:=hs;obtain⟨a,b,rfl⟩:=ht;obtain⟨d,rfl⟩:=hc;refine⟨_,Zd p m d a b,Ze p m d a b hN,?_⟩;unfold As2;split
 ·rename_i h;split
  ·exact⟨_,_,rfl,Ay1 h.1 h.2⟩
  ·exact vS0
 ·exact vS0
theorem Ah1 {N:Nat}(hN:1000<=N){s t:Sound}{c:Int}(hs:okS s)(hc:∃b:BitVec 32,c=(b.toNat:Int))(ht:okS t):∃y,S0 N s t c=some y/\Y2 N s t c=some y/\vS y.1:=by
 obtain⟨p,m,rfl⟩:=hs;obtain⟨a,b,rfl⟩:=ht;obtain⟨d,rfl⟩:=hc;refine⟨_,As4 p m a b d,As5 p m a b d hN,?_⟩;unfold As3;split
 ·rename_i h;split
  ·exact⟨_,_,rfl,Ay1 h.1 h.2⟩
  ·exact vS0
 ·exact vS0
def AJ9 (l:Law):Prop:=l.Out.n<=6/\∀i,i<l.Out.n->okO (l.Out.g i)/\(l.Out.g i).From<l.If.n/\((l.Out.g i).Take≠0->0<=(l.Out.g i).Of/\(l.Out.g i).Of<l.If.n)
theorem eqX {R:Type}{Q:R->Prop}{o o' : Option R}(h:o=o')(h2:∃r,o' = some r/\Q r):∃r,o=some r/\Q r:=by rw[h];exact h2
def Bu (f:Nat->Sound):Nat->Sl Sound
 |0=>Sl.nil
 |m+1=>(Bu f m).push (f m)
theorem Hz (f:Nat->Sound):∀m,(Bu f m).n=m
 |0=>rfl
 |m+1=>by show (Bu f m).n+1=_;rw[Hz f m]
theorem VM (f:Nat->Sound):∀{m i:Nat},i<m->(Bu f m).g i=f i
 |0,i,h=>by omega
 |m+1,i,h=>by
  show (if i<(Bu f m).n then (Bu f m).g i else f m)=f i;rw[Hz];by_cases e:i<m
  ·rw[if_pos e,VM f e]
  ·rw[if_neg e,show i=m by omega]
abbrev srcS (l:Law)(cut:Sl Sound)(i:Nat):Sound:=⟨(if (decide (0<=(l.Out.g i).From))=true then (cut.g (l.Out.g i).From.toNat).Plus else 0),(if (decide (0<=(l.Out.g i).From))=true then (cut.g (l.Out.g i).From.toNat).Minus else 0)⟩
theorem AG9 {N:Nat}(hN:1000<=N){l:Law}(ho:AJ9 l){cut:Sl Sound}(hn:cut.n=l.If.n)(hc:∀i,i<cut.n->okS (cut.g i)) :∃s,N1 N l cut=some s/\Bi N l cut=some s/\s.n=l.Out.n/\∀i,i<s.n->vS (s.g i):=by
 have one:∀i,∃y:Sound,i<l.Out.n->vS y/\∀(R:Type) (k:Sound->Option R),
  (∀(Ch:Nat->Sound->Int->Sound->Option (Sound×Int)) (Ta:Nat->Sound->Sound->Int->Option (Sound×Int)),(Ch=N5/\Ta=S0) \/ (Ch=P3/\Ta=Y2) ->
  (if ((decide (0<=(l.Out.g i).From))=true->((0:Int)<=(l.Out.g i).From/\(l.Out.g i).From<(cut.n:Int)))then
   (Ch N (⟨(if (decide (0<=(l.Out.g i).From))=true then (cut.g (l.Out.g i).From.toNat).Plus else 0),(if (decide (0<=(l.Out.g i).From))=true then (cut.g (l.Out.g i).From.toNat).Minus else 0)⟩:Sound) (l.Out.g i).Clear (l.Out.g i).Set).bind fun y5=>
   if ((l.Out.g i).Take != 0)=true then
    if ((0:Int)<=(l.Out.g i).Of/\(l.Out.g i).Of<(cut.n:Int))then
     (Ta N y5.1 (cut.g (l.Out.g i).Of.toNat) (l.Out.g i).Take).bind fun y6=>k y6.1
    else none
   else k y5.1
   else none)=k y):=by
  intro i;by_cases hi:i<l.Out.n
  case neg=>exact⟨default,fun h=>absurd h hi⟩
  obtain⟨⟨hset,hcl,hta⟩,hfr,hof⟩:=ho.2 i hi;have hs:okS (⟨(if (decide (0<=(l.Out.g i).From))=true then (cut.g (l.Out.g i).From.toNat).Plus else 0),(if (decide (0<=(l.Out.g i).From))=true then (cut.g (l.Out.g i).From.toNat).Minus else 0)⟩:Sound):=by
   by_cases hf:0<=(l.Out.g i).From
   ·simp only[hf,decide_true,if_true];exact hc _ (by omega)
   ·simp only[hf,decide_false,AS6,if_false];exact⟨0#32,0#32,rfl⟩
  obtain⟨y,e1,e2,hy⟩:=VL hN hs hcl hset;by_cases ht:(l.Out.g i).Take=0
  ·refine⟨y.1,fun _=>⟨hy,fun R k Ch Ta h=>?_⟩⟩;rw[if_pos (fun h=>by have:=of_decide_eq_true h;omega)]
   have:Ch N (srcS l cut i) (l.Out.g i).Clear (l.Out.g i).Set=some y:=by
    rcases h with⟨rfl,rfl⟩ | ⟨rfl,rfl⟩
    ·exact e1
    ·exact e2
   rw[this,AS1,if_neg (by simp[ht])]
  ·obtain⟨g1,g2⟩:=hof ht;obtain⟨z,e3,e4,hz⟩:=Ah1 hN hy.ok hta (hc (l.Out.g i).Of.toNat (by omega));refine⟨z.1,fun _=>⟨hz,fun R k Ch Ta h=>?_⟩⟩;rw[if_pos (fun h=>by have:=of_decide_eq_true h;omega)]
   have:Ch N (srcS l cut i) (l.Out.g i).Clear (l.Out.g i).Set=some y:=by
    rcases h with⟨rfl,rfl⟩ | ⟨rfl,rfl⟩
    ·exact e1
    ·exact e2
   rw[this,AS1,if_pos (by simp[ht]),if_pos (by omega)]
   have:Ta N y.1 (cut.g (l.Out.g i).Of.toNat) (l.Out.g i).Take=some z:=by
    rcases h with⟨rfl,rfl⟩ | ⟨rfl,rfl⟩
    ·exact e3
    ·exact e4
   rw[this,AS1]
 obtain⟨out,hout⟩:=AZ9 one;have hn6:=ho.1;have hbody:∀(Ch:Nat->Sound->Int->Sound->Option (Sound×Int)) (Ta:Nat->Sound->Sound->Int->Option (Sound×Int)),(Ch=N5/\Ta=S0) \/ (Ch=P3/\Ta=Y2) ->
  ∀(self:Sl Sound->Int->Option (Sl Sound)) (i:Nat),i<l.Out.n->(∃r,self ((Bu out i).push (out i)) (wrap .i64 ((i:Int)+1))=some r/\r=Bu out l.Out.n) ->
  ∃r,(if ((decide (0<=(l.Out.g i).From))=true->((0:Int)<=(l.Out.g i).From/\(l.Out.g i).From<(cut.n:Int)))then
   (Ch N (srcS l cut i) (l.Out.g i).Clear (l.Out.g i).Set).bind fun y5=>
   if ((l.Out.g i).Take != 0)=true then
    if ((0:Int)<=(l.Out.g i).Of/\(l.Out.g i).Of<(cut.n:Int))then
     (Ta N y5.1 (cut.g (l.Out.g i).Of.toNat) (l.Out.g i).Take).bind fun y6=>
     if (((Bu out i).n+(Sl.of [y6.1]:Sl Sound).n)*8<=140737488355328/\(Bu out i).n+(Sl.of [y6.1]:Sl Sound).n<=140737488355328)then
      self ((Bu out i).push y6.1) (wrap .i64 ((i:Int)+1))
     else none
    else none
   else
    if (((Bu out i).n+(Sl.of [y5.1]:Sl Sound).n)*8<=140737488355328/\(Bu out i).n+(Sl.of [y5.1]:Sl Sound).n<=140737488355328)then
     self ((Bu out i).push y5.1) (wrap .i64 ((i:Int)+1))
    else none
   else none)=some r/\r=Bu out l.Out.n:=by
  intro Ch Ta h self i hi hr;have e:=(hout i hi).2 (Sl Sound) (fun y=>if (((Bu out i).n+(Sl.of [y]:Sl Sound).n)*8<=140737488355328/\(Bu out i).n+(Sl.of [y]:Sl Sound).n<=140737488355328)then self ((Bu out i).push y) (wrap .i64 ((i:Int)+1))else none) Ch Ta h;refine eqX e (ifT ?_ hr)
  have:=Hz out i
  show ((Bu out i).n+1)*8<=_/\(Bu out i).n+1<=_;omega
 have h1:∃r,N1 N l cut=some r/\r=Bu out l.Out.n:=by
  unfold N1;refine T1 (fun i x1 x2=>x2=(i:Int)/\x1=Bu out i) l.Out.n _ (by omega) ⟨rfl,rfl⟩ ?_;rintro self i x1 x2 hi ⟨rfl,rfl⟩ hs;by_cases hlt:i<l.Out.n
  ·refine ifT (by simp;omega) (ifT (by omega) ?_);rw[AR8];exact hbody _ _ (.inl ⟨rfl,rfl⟩) self i hlt (hs hlt _ _ ⟨C0 (by omega),rfl⟩)
  ·exact ifF (by simp;omega) ⟨_,rfl,by congr 1;omega⟩
 have h2:∃r,Bi N l cut=some r/\r=Bu out l.Out.n:=by
  unfold Bi;refine T1 (fun i x1 x2=>x2=(i:Int)/\x1=Bu out i) l.Out.n _ (by omega) ⟨rfl,rfl⟩ ?_;rintro self i x1 x2 hi ⟨rfl,rfl⟩ hs;by_cases hlt:i<l.Out.n
  ·refine ifT (by simp;omega) (ifT (by omega) ?_);rw[AR8];exact hbody _ _ (.inr ⟨rfl,rfl⟩) self i hlt (hs hlt _ _ ⟨C0 (by omega),rfl⟩)
  ·exact ifF (by simp;omega) ⟨_,rfl,by congr 1;omega⟩
 obtain⟨r,e1,rfl⟩:=h1;obtain⟨r,e2,rfl⟩:=h2;exact⟨_,e1,e2,Hz out _,fun i hi=>by rw[Hz]at hi;rw[VM out hi];exact (hout i hi).1⟩
end Go.AM
set_option linter.unusedVariables false
namespace Go.AM
open Go.Proofs
theorem ne0 (x:BitVec 32):((x.toNat:Int) != 0)=decide (x≠0#32):=by rw[bne,eq0];simp
theorem or0 (x y:BitVec 32):x ||| y=0#32↔x=0#32/\y=0#32:=by
 constructor
 ·intro h;have h:=(z32 _).1 h;exact⟨(z32 _).2 fun i hi=>by have:=h i hi;rw[AT2,Bb1]at this;exact this.1,(z32 _).2 fun i hi=>by have:=h i hi;rw[AT2,Bb1]at this;exact this.2⟩
 ·rintro⟨rfl,rfl⟩;rfl
theorem AQ1 (x y z:BitVec 32):x &&& (y ||| z)=(x &&& y) ||| (x &&& z):=by apply AX3;intro i hi;simp only[AT3,AT2];cases x.getLsbD i<;>simp
theorem AQ2 (x y z:BitVec 32):(x ||| y) &&& z=(x &&& z) ||| (y &&& z):=by apply AX3;intro i hi;simp only[AT3,AT2];cases z.getLsbD i<;>simp
theorem Xe {N:Nat}(hN:1000<=N){x:AW}(hx:okO x)(k:Int):∃b,T5 N x k=some b/\Ej N x k=some b:=by
 obtain⟨⟨a,b,hset⟩,⟨c,hc⟩,t,ht⟩:=hx;have h24:(16777215:Int)=((16777215#32).toNat:Int):=rfl;unfold T5 Ej;simp only[lt,hset,hc,ht,Bp,Z2 a b hN,AS1];rw[h24];simp only[EA,JE,Ed,ne0];by_cases h1:x.From < -1
 ·simp[h1]
 by_cases h2:k<=x.From
 ·simp[h1,h2]
 by_cases h3:vB a b=true
 case neg=>simp[h1,h2,h3]
 simp only[h1,h2,h3,decide_false,AS6,if_false,Bd4];rw[AQ2,AQ1 t];generalize ~~~16777215#32=M;by_cases g1:c &&& M=0#32
 case neg=>simp[g1,or0]
 by_cases g2:t &&& M=0#32
 case neg=>simp[g1,g2,or0]
 by_cases g3:c &&& (a ||| b)=0#32
 case neg=>simp[g1,g2,g3,or0]
 by_cases g4:t &&& (a ||| b)=0#32
 case neg=>simp[g1,g2,g3,g4,or0]
 by_cases g5:t &&& c=0#32
 case neg=>simp[g1,g2,g3,g4,g5,or0]
 simp[g1,g2,g3,g4,g5,or0];by_cases g6:t.toNat=0
 ·simp only[g6,if_true];cases x.Of==0<;>simp
 ·simp only[g6,if_false];cases (decide (0<=x.Of)&&decide (x.Of<k))<;>simp
end Go.AM
set_option linter.unusedVariables false
namespace Go.AM
open Go.Proofs
abbrev nameC:Str:=[97,98,99,100,101,102,103,104,105,106,107,108,109,110,111,112,113,114,115,116,117,118,119,120,121,122,65,66,67,68,69,70,71,72,73,74,75,76,77,78,79,80,81,82,83,84,85,86,87,88,89,90,48,49,50,51,52,53,54,55,56,57,45]
theorem Ah2 {p:UInt8->Bool}:∀{l:Str},l.dropWhile p=[] ↔ ∀x∈l,p x=true
 |[]=>by simp
 |a::l=>by
  rw[List.dropWhile_cons];by_cases h:p a=true
  ·rw[if_pos h,Ah2];simp[h]
  ·rw[if_neg h];simp[h]
theorem At4 (l cs:Str):Lib.trimS l cs=[] ↔ ∀b∈l,cs.contains b=true:=by
 unfold Lib.trimS Lib.trimLeftS Lib.trimRightS;rw[Ah2];constructor
 ·intro h;have h:∀x∈l.reverse.dropWhile (cs.contains ·),cs.contains x=true:=fun x hx=>h x (Be9.2 hx);have h2:l.reverse.dropWhile (cs.contains ·)=[]:=by
   rcases e:l.reverse.dropWhile (cs.contains ·)with _|⟨y,r⟩
   ·rfl
   ·have h3:=h y (by rw[e];simp);have h4:¬cs.contains y=true:=by
     have:=List.head_dropWhile_not (cs.contains ·) (l:=l.reverse) (by rw[e];simp)
     simp only[e,List.head_cons]at this;rw[this];exact Bool.false_ne_true
    exact absurd h3 h4
  rw[Ah2]at h2;exact fun b hb=>h2 b (Be9.2 hb)
 ·intro h x hx;have hx:=Be9.1 hx;exact h x (Be9.1 ((List.dropWhile_sublist _).mem hx))
abbrev QH (y:Int):Bool:=((((decide (97<=y))&&(decide (y<=122)))||((decide (65<=y))&&(decide (y<=90))))||((decide (48<=y))&&(decide (y<=57))))||(y==45)
theorem Ah3:∀k:Fin 256,nameC.contains (UInt8.ofNat k.val)=QH ((k.val:Nat):Int):=by decide +kernel
theorem Ah4 (b:UInt8):nameC.contains b=QH ((b.toNat:Nat):Int):=by
 have:=Ah3 ⟨b.toNat,b.toNat_lt⟩
 rw[show UInt8.ofNat b.toNat=b by simp]at this;exact this
theorem Ts {N:Nat}{s:Str}(hN:s.length<N)(hs:s.length<1000000000):∃b,BF N s=some b/\BB N s=some b:=by
 have h2:∃b,BB N s=some b/\(b=true↔(∀c∈s,nameC.contains c=true)/\1<=s.length/\s.length<=24):=by
  unfold BB;refine Cg (fun i x1=>x1=(i:Int)/\∀j (h:j<s.length),j<i->nameC.contains s[j]=true) s.length _ hN ⟨rfl,fun j _ hj=>absurd hj (by omega)⟩ ?_;rintro self i x1 hi ⟨rfl,h⟩ hs2;by_cases hl:i<s.length
  ·refine ifT (by simp;omega) (ifT (by omega) ?_);have eb:Z4 s (i:Int)=((s[i].toNat:Nat):Int):=by simp[Z4,hl]
   by_cases hb:nameC.contains s[i]=true
   ·refine ifF (by rw[eb];show ¬(!(QH ((s[i].toNat:Nat):Int)))=true;rw[<- Ah4,hb];simp) (hs2 hl _ ⟨C0 (by omega),fun j hj hj2=>?_⟩);by_cases e:j=i
    ·subst e;exact hb
    ·exact h j hj (by omega)
   ·refine ifT ?_ ⟨false,rfl,by simp,fun hh=>absurd (hh.1 s[i] (Bg8 hl)) hb⟩;rw[eb];show (!(QH ((s[i].toNat:Nat):Int)))=true;rw[<- Ah4];simpa using hb
  ·refine ifF (by simp;omega) ⟨_,rfl,?_⟩;simp only[AS3,decide_eq_true_eq];constructor
   ·rintro⟨g1,g2⟩;refine⟨fun c hc=>?_,by omega,by omega⟩;obtain⟨j,hj,rfl⟩:=Bf3 hc;exact h j hj (by omega)
   ·rintro⟨_,g1,g2⟩;exact⟨by omega,by omega⟩
 obtain⟨b,e,hb⟩:=h2;refine⟨b,?_,e⟩
 suffices h:∃r,BF N s=some r/\(r=true↔(∀c∈s,nameC.contains c=true)/\1<=s.length/\s.length<=24) by obtain⟨r,hr,hr2⟩:=h;rw[hr,show r=b by rw[AU7,hr2,hb]]
 unfold BF;refine ltX ?_;by_cases h0:s=[]
 ·exact ifF (by simp[h0]) ⟨false,rfl,by simp[h0]⟩
 refine ifT (by simp[h0]) ?_;have hpos:0<s.length:=List.length_pos_iff.2 h0;by_cases h1:s.length<=24
 ·refine ifT (by simp;omega) (B4 (x:=Lib.trimS s nameC) ?_ ⟨_,rfl,?_⟩)
  ·unfold DJ;rw[if_pos ⟨by omega,by decide,by decide⟩]
  ·rw[<- At4];constructor
   ·intro h;exact⟨by simpa using h,by omega,h1⟩
   ·rintro⟨h,_⟩;simp[h]
 ·exact ifF (by simp;omega) ⟨false,rfl,by simp;intro _ _;omega⟩
end Go.AM
