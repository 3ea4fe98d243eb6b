/- What a law's walk and its plain proof need, part 7: no condition of its own. -/
import Derived.Test.YtodhnkfgkgkngaaGreatDoorGF
import Derived.Test.YtodhnkfgkgkngaaGreatDoorGE
set_option linter.defProp false
set_option linter.unusedSimpArgs false
set_option linter.unusedVariables false
set_option linter.unusedSectionVars false
namespace Go.AM
open IntKind (wrap)
def AQ8:=@BitVec.getLsbD_or
def AU0:=@Nat.not_lt_zero
def AU1:=@BitVec.getLsbD_not
def AX3:=@Classical.axiomOfChoice
def AX5:=@List.reverse_append
def AY3:=@Bool.or_eq_false_iff
def Bc2:=@Bool.not_eq_true
def Bd0:=@BitVec.getLsbD_zero
def Be1:=@List.mem_range'_1
def Be4:=@Nat.testBit_two_pow_mul
def Be5:=@List.filter_cons_of_pos
def Be6:=@List.filter_cons_of_neg
def Bf0:=@Nat.testBit_lt_two_pow
def Bf1:=@List.filter_eq_nil_iff
def Bf2:=@List.reverse_singleton
def Bf6:=@Bool.and_eq_false_iff
def Bf7:=@List.singleton_append
def Bg0:=@BitVec.getLsbD_of_ge
def Bg5:=@Nat.div_eq_zero_iff
def Bh2:=@Nat.lt_of_le_of_lt
open Go.Proofs
set_option maxRecDepth 10000
set_option maxHeartbeats 2000000
variable {S:Ay}(hS:H2 S Tryz.prog) (hL:OF S)
include hS hL
def ER (N:Nat)(a:Sl Int)(b:Sl Int):Option Bool:=
 if ((a.n:Int) != (b.n:Int)) then
  some false
 else
  R6 N (fun c (x1:Int)=>
   if (decide (x1<(a.n:Int))) then
    if (((0:Int)<=x1/\x1<(a.n:Int))/\((0:Int)<=x1/\x1<(b.n:Int)))then
     if ((a.g x1.toNat) != (b.g x1.toNat)) then
      some false
     else
      c (wrap .i64 (x1+1))
    else none
   else
    some true
   ) 0
theorem Mr {N:Nat}{a:Sl Int}{b:Sl Int}{y:Bool}(h:ER N a b=some y) :FunO S Lr [.p (vSl 1 (cI .i64) a),.p (vSl 1 (cI .i64) b)] [] (pB y) ([]) []:=by
 unfold ER at h;refine A3 hS Tryz.func34 ?_;refine kI hS h ?_ ?_<;>intro h
 ·cases h;exact kR hS
 ·refine I4 hS trivial h (fun x1=>⟨[(5,pN x1),(1,.p (vSl 1 (cI .i64) b)),(0,.p (vSl 1 (cI .i64) a))],[]⟩) (ids:=[]) (fun _ _ _ _ _ c x1 d h=>?_);refine kI hS h ?_ ?_<;>intro h
  ·refine D4 hS trivial [2,3,6,7] ?_;obtain⟨c9,h⟩:=D3 h;refine I7 c9 ?_;refine kI hS h ?_ ?_<;>intro h
   ·cases h;exact kR hS
   ·exact d _ [] _ (wrap .i64 (x1+1)) trivial h
  ·cases h;exact kR hS
def DC (N:Nat)  : Option Sound:=
 some (⟨5,2⟩:Sound)
theorem Ga {N:Nat}    {y:Sound}(h:DC N  = some y) :FunO S Aa6 [] [] (.p (.agg (A0 y))) ([]) []:=by unfold DC at h;refine A3 hS Tryz.func35 ?_;cases h;exact kR hS
def Qy (N:Nat)  : Option Sound:=
 some (⟨2,5⟩:Sound)
theorem Ac2 {N:Nat}    {y:Sound}(h:Qy N  = some y) :FunO S Aa7 [] [] (.p (.agg (A0 y))) ([]) []:=by unfold Qy at h;refine A3 hS Tryz.func36 ?_;cases h;exact kR hS
def Je (N:Nat)  : Option Sound:=
 some (⟨3,4⟩:Sound)
theorem Qz {N:Nat}    {y:Sound}(h:Je N  = some y) :FunO S Aa8 [] [] (.p (.agg (A0 y))) ([]) []:=by unfold Je at h;refine A3 hS Tryz.func49 ?_;cases h;exact kR hS
def ES (N:Nat)  : Option A8:=
 some (⟨(Sl.of [(⟨-1,[112,114,111,116,111]⟩:G7),(⟨0,[119,101,115,116]⟩:G7),(⟨0,[101,97,115,116]⟩:G7),(⟨1,[110,111,114,116,104]⟩:G7),(⟨1,[115,111,117,116,104]⟩:G7)]:Sl G7),(Sl.of [(⟨[118,111,105,99,105,110,103],Pat.mk 1 (⟨4,0⟩:Sound) false 0 0 (Sl.nil:Sl Pat).n (Sl.nil:Sl Pat).g,Pat.mk 1 (⟨4,0⟩:Sound) false 0 0 (Sl.nil:Sl Pat).n (Sl.nil:Sl Pat).g,(Sl.of [(⟨2,0⟩:Sound)]:Sl Sound),(Sl.of [(⟨0,0,(⟨1,0⟩:Sound),0,0⟩:Bn)]:Sl Bn),1⟩:Law),(⟨[97,112,111,99,111,112,101],Pat.mk 0 (⟨0,0⟩:Sound) false 0 0 (Sl.nil:Sl Pat).n (Sl.nil:Sl Pat).g,Pat.mk 6 (⟨0,0⟩:Sound) false 0 0 (Sl.nil:Sl Pat).n (Sl.nil:Sl Pat).g,(Sl.of [(⟨4,0⟩:Sound)]:Sl Sound),(Sl.nil:Sl Bn),1⟩:Law)]:Sl Law),(Sl.of [(Sl.nil:Sl Int),(Sl.of [0]:Sl Int),(Sl.of [1,0]:Sl Int),(Sl.of [1]:Sl Int),(Sl.nil:Sl Int)]:Sl (Sl Int))⟩:A8)
theorem QA {N:Nat}    {y:A8}(h:ES N  = some y) :FunO S HT [] [] (.p (.agg (A2 y))) ([]) []:=by unfold ES at h;refine A3 hS Tryz.func47 ?_;refine I1 hS (rfl:true=true) 10 ⟨[(9,.vec 10000),(1,.reg 2000 0),(0,.reg 1000 0)],[(10000,.vec O9 2 (Sl.of [(⟨-1,[112,114,111,116,111]⟩:G7),(⟨0,[119,101,115,116]⟩:G7),(⟨0,[101,97,115,116]⟩:G7),(⟨1,[110,111,114,116,104]⟩:G7),(⟨1,[115,111,117,116,104]⟩:G7)]:Sl G7).n (fun i=>D2 ((Sl.of [(⟨-1,[112,114,111,116,111]⟩:G7),(⟨0,[119,101,115,116]⟩:G7),(⟨0,[101,97,115,116]⟩:G7),(⟨1,[110,111,114,116,104]⟩:G7),(⟨1,[115,111,117,116,104]⟩:G7)]:Sl G7).g i)) false),(2000,.cells [pN 1,pU 4,pU 0,pB false,pN 0,pN 0,.p (vSl 7 B3 (Sl.nil:Sl Pat))]),(1000,.cells [.p F8,.p F8,.p F8])]⟩ (ids:=[(1000,1000),(2000,2000),(10000,10000)]) ?_ (hle:=klR [(0,.fn 5 (Sl.of [(⟨-1,[112,114,111,116,111]⟩:G7),(⟨0,[119,101,115,116]⟩:G7),(⟨0,[101,97,115,116]⟩:G7),(⟨1,[110,111,114,116,104]⟩:G7),(⟨1,[115,111,117,116,104]⟩:G7)]:Sl G7).n (D5 [pI .i64 0,.str []] [(0,D2 (⟨-1,[112,114,111,116,111]⟩:G7)),(1,D2 (⟨0,[119,101,115,116]⟩:G7)),(2,D2 (⟨0,[101,97,115,116]⟩:G7)),(3,D2 (⟨1,[110,111,114,116,104]⟩:G7)),(4,D2 (⟨1,[115,111,117,116,104]⟩:G7))]) (fun i=>D2 ((Sl.of [(⟨-1,[112,114,111,116,111]⟩:G7),(⟨0,[119,101,115,116]⟩:G7),(⟨0,[101,97,115,116]⟩:G7),(⟨1,[110,111,114,116,104]⟩:G7),(⟨1,[115,111,117,116,104]⟩:G7)]:Sl G7).g i)))] (al1 ⟨rfl,(fun i a=>match i,a with|0,_=>rfl|1,_=>rfl|2,_=>rfl|3,_=>rfl|4,_=>rfl|_+5,a=>absurd a (by omega))⟩ al0));refine I1 hS (And.intro (rfl:true=true) (rfl:true=true)) 17 ⟨[(16,.p (vSl 6 O5 (Sl.of [(⟨0,0,(⟨1,0⟩:Sound),0,0⟩:Bn)]:Sl Bn))),(13,.p (vSl 2 A0 (Sl.of [(⟨2,0⟩:Sound)]:Sl Sound))),(11,.p (.agg [pI .i64 1,pI .u32 4,pI .u32 0,.bb false,pI .i64 0,pI .i64 0,vSl 7 B3 (Sl.nil:Sl Pat)])),(10,.p (.agg [pI .i64 1,pI .u32 4,pI .u32 0,.bb false,pI .i64 0,pI .i64 0,vSl 7 B3 (Sl.nil:Sl Pat)])),(9,.vec 10000),(0,.reg 1000 0)],[(10000,.vec O9 2 (Sl.of [(⟨-1,[112,114,111,116,111]⟩:G7),(⟨0,[119,101,115,116]⟩:G7),(⟨0,[101,97,115,116]⟩:G7),(⟨1,[110,111,114,116,104]⟩:G7),(⟨1,[115,111,117,116,104]⟩:G7)]:Sl G7).n (fun i=>D2 ((Sl.of [(⟨-1,[112,114,111,116,111]⟩:G7),(⟨0,[119,101,115,116]⟩:G7),(⟨0,[101,97,115,116]⟩:G7),(⟨1,[110,111,114,116,104]⟩:G7),(⟨1,[115,111,117,116,104]⟩:G7)]:Sl G7).g i)) false),(1000,.cells [.p F8,.p F8,.p F8])]⟩ (ids:=[(1000,1000),(10000,10000)]) ?_ (hle:=klR [(0,.fn 1 (Sl.of [(⟨0,0,(⟨1,0⟩:Sound),0,0⟩:Bn)]:Sl Bn).n (D5 [pI .i64 0,pI .u32 0,pI .u32 0,pI .u32 0,pI .u32 0,pI .i64 0] [(0,O5 (⟨0,0,(⟨1,0⟩:Sound),0,0⟩:Bn))]) (fun i=>O5 ((Sl.of [(⟨0,0,(⟨1,0⟩:Sound),0,0⟩:Bn)]:Sl Bn).g i))),(1,.fn 1 (Sl.of [(⟨2,0⟩:Sound)]:Sl Sound).n (D5 [pI .u32 0,pI .u32 0] [(0,A0 (⟨2,0⟩:Sound))]) (fun i=>A0 ((Sl.of [(⟨2,0⟩:Sound)]:Sl Sound).g i)))] (al1 ⟨rfl,(fun i a=>match i,a with|0,_=>rfl|_+1,a=>absurd a (by omega))⟩ (al1 ⟨rfl,(fun i a=>match i,a with|0,_=>rfl|_+1,a=>absurd a (by omega))⟩ al0)));refine I1 hS (rfl:true=true) 21 ⟨[(20,.p (vSl 2 A0 (Sl.of [(⟨4,0⟩:Sound)]:Sl Sound))),(18,.p (.agg [pI .i64 6,pI .u32 0,pI .u32 0,.v (.bool false),pI .i64 0,pI .i64 0,F8])),(17,.p (.agg [.str [118,111,105,99,105,110,103],pI .i64 1,pI .u32 4,pI .u32 0,.bb false,pI .i64 0,pI .i64 0,vSl 7 B3 (Sl.nil:Sl Pat),pI .i64 1,pI .u32 4,pI .u32 0,.bb false,pI .i64 0,pI .i64 0,vSl 7 B3 (Sl.nil:Sl Pat),vSl 2 A0 (Sl.of [(⟨2,0⟩:Sound)]:Sl Sound),vSl 6 O5 (Sl.of [(⟨0,0,(⟨1,0⟩:Sound),0,0⟩:Bn)]:Sl Bn),pI .i64 1])),(9,.vec 10000),(0,.reg 1000 0)],[(10000,.vec O9 2 (Sl.of [(⟨-1,[112,114,111,116,111]⟩:G7),(⟨0,[119,101,115,116]⟩:G7),(⟨0,[101,97,115,116]⟩:G7),(⟨1,[110,111,114,116,104]⟩:G7),(⟨1,[115,111,117,116,104]⟩:G7)]:Sl G7).n (fun i=>D2 ((Sl.of [(⟨-1,[112,114,111,116,111]⟩:G7),(⟨0,[119,101,115,116]⟩:G7),(⟨0,[101,97,115,116]⟩:G7),(⟨1,[110,111,114,116,104]⟩:G7),(⟨1,[115,111,117,116,104]⟩:G7)]:Sl G7).g i)) false),(1000,.cells [.p F8,.p F8,.p F8])]⟩ (ids:=[(1000,1000),(10000,10000)]) ?_ (hle:=klR [(0,.fn 1 (Sl.of [(⟨4,0⟩:Sound)]:Sl Sound).n (D5 [pI .u32 0,pI .u32 0] [(0,A0 (⟨4,0⟩:Sound))]) (fun i=>A0 ((Sl.of [(⟨4,0⟩:Sound)]:Sl Sound).g i)))] (al1 ⟨rfl,(fun i a=>match i,a with|0,_=>rfl|_+1,a=>absurd a (by omega))⟩ al0));refine Uk hS (rfl:true=true) 23 23000 (k:=18) (n:=2) (e:=W3) (vw:=false) (D5 [.str [],pI .i64 0,pI .u32 0,pI .u32 0,.v (.bool false),pI .i64 0,pI .i64 0,F8,pI .i64 0,pI .u32 0,pI .u32 0,.v (.bool false),pI .i64 0,pI .i64 0,F8,F8,F8,pI .i64 0] [(0,[.str [118,111,105,99,105,110,103],pI .i64 1,pI .u32 4,pI .u32 0,.bb false,pI .i64 0,pI .i64 0,vSl 7 B3 (Sl.nil:Sl Pat),pI .i64 1,pI .u32 4,pI .u32 0,.bb false,pI .i64 0,pI .i64 0,vSl 7 B3 (Sl.nil:Sl Pat),vSl 2 A0 (Sl.of [(⟨2,0⟩:Sound)]:Sl Sound),vSl 6 O5 (Sl.of [(⟨0,0,(⟨1,0⟩:Sound),0,0⟩:Bn)]:Sl Bn),pI .i64 1]),(1,[.str [97,112,111,99,111,112,101],pI .i64 0,pI .u32 0,pI .u32 0,.v (.bool false),pI .i64 0,pI .i64 0,F8,pI .i64 6,pI .u32 0,pI .u32 0,.v (.bool false),pI .i64 0,pI .i64 0,F8,vSl 2 A0 (Sl.of [(⟨4,0⟩:Sound)]:Sl Sound),F8,pI .i64 1])]) (fun i=>B2 ((Sl.of [(⟨[118,111,105,99,105,110,103],Pat.mk 1 (⟨4,0⟩:Sound) false 0 0 (Sl.nil:Sl Pat).n (Sl.nil:Sl Pat).g,Pat.mk 1 (⟨4,0⟩:Sound) false 0 0 (Sl.nil:Sl Pat).n (Sl.nil:Sl Pat).g,(Sl.of [(⟨2,0⟩:Sound)]:Sl Sound),(Sl.of [(⟨0,0,(⟨1,0⟩:Sound),0,0⟩:Bn)]:Sl Bn),1⟩:Law),(⟨[97,112,111,99,111,112,101],Pat.mk 0 (⟨0,0⟩:Sound) false 0 0 (Sl.nil:Sl Pat).n (Sl.nil:Sl Pat).g,Pat.mk 6 (⟨0,0⟩:Sound) false 0 0 (Sl.nil:Sl Pat).n (Sl.nil:Sl Pat).g,(Sl.of [(⟨4,0⟩:Sound)]:Sl Sound),(Sl.nil:Sl Bn),1⟩:Law)]:Sl Law).g i)) (fun i a=>match i,a with|0,_=>(Fa (.inl rfl) (Fa (.inl rfl) (Fa (.inl rfl) (Fa (.inl rfl) (Fa (.inl rfl) (Fa (.inl rfl) (Fa (.inl rfl) (Fa (.inl rfl) (Fa (.inl rfl) (Fa (.inl rfl) (Fa (.inl rfl) (Fa (.inl rfl) (Fa (.inl rfl) (Fa (.inl rfl) (Fa (.inl rfl) (Fa (.inl rfl) (Fa (.inl rfl) (Fa (.inl rfl) leC0))))))))))))))))))|1,_=>(Fa (.inl rfl) (Fa (.inl rfl) (Fa (.inl rfl) (Fa (.inl rfl) (Fa lePT (Fa (.inl rfl) (Fa (.inl rfl) (Fa AO2 (Fa (.inl rfl) (Fa (.inl rfl) (Fa (.inl rfl) (Fa lePT (Fa (.inl rfl) (Fa (.inl rfl) (Fa AO2 (Fa (.inl rfl) (Fa AO2 (Fa (.inl rfl) leC0))))))))))))))))))|_+2,a=>absurd a (by omega)) ?_;refine I1 hS (And.intro (And.intro (rfl:true=true) (rfl:true=true)) (rfl:true=true)) 26 ⟨[(25,.vec 26000),(24,.vec 25000),(23,.vec 24000),(22,.vec 23000),(9,.vec 10000),(0,.reg 1000 0)],[(26000,.vec B6 1 (Sl.of [1]:Sl Int).n (fun i=>cI .i64 ((Sl.of [1]:Sl Int).g i)) true),(25000,.vec B6 1 (Sl.of [1,0]:Sl Int).n (fun i=>cI .i64 ((Sl.of [1,0]:Sl Int).g i)) true),(24000,.vec B6 1 (Sl.of [0]:Sl Int).n (fun i=>cI .i64 ((Sl.of [0]:Sl Int).g i)) true),(23000,.vec W3 18 (Sl.of [(⟨[118,111,105,99,105,110,103],Pat.mk 1 (⟨4,0⟩:Sound) false 0 0 (Sl.nil:Sl Pat).n (Sl.nil:Sl Pat).g,Pat.mk 1 (⟨4,0⟩:Sound) false 0 0 (Sl.nil:Sl Pat).n (Sl.nil:Sl Pat).g,(Sl.of [(⟨2,0⟩:Sound)]:Sl Sound),(Sl.of [(⟨0,0,(⟨1,0⟩:Sound),0,0⟩:Bn)]:Sl Bn),1⟩:Law),(⟨[97,112,111,99,111,112,101],Pat.mk 0 (⟨0,0⟩:Sound) false 0 0 (Sl.nil:Sl Pat).n (Sl.nil:Sl Pat).g,Pat.mk 6 (⟨0,0⟩:Sound) false 0 0 (Sl.nil:Sl Pat).n (Sl.nil:Sl Pat).g,(Sl.of [(⟨4,0⟩:Sound)]:Sl Sound),(Sl.nil:Sl Bn),1⟩:Law)]:Sl Law).n (fun i=>B2 ((Sl.of [(⟨[118,111,105,99,105,110,103],Pat.mk 1 (⟨4,0⟩:Sound) false 0 0 (Sl.nil:Sl Pat).n (Sl.nil:Sl Pat).g,Pat.mk 1 (⟨4,0⟩:Sound) false 0 0 (Sl.nil:Sl Pat).n (Sl.nil:Sl Pat).g,(Sl.of [(⟨2,0⟩:Sound)]:Sl Sound),(Sl.of [(⟨0,0,(⟨1,0⟩:Sound),0,0⟩:Bn)]:Sl Bn),1⟩:Law),(⟨[97,112,111,99,111,112,101],Pat.mk 0 (⟨0,0⟩:Sound) false 0 0 (Sl.nil:Sl Pat).n (Sl.nil:Sl Pat).g,Pat.mk 6 (⟨0,0⟩:Sound) false 0 0 (Sl.nil:Sl Pat).n (Sl.nil:Sl Pat).g,(Sl.of [(⟨4,0⟩:Sound)]:Sl Sound),(Sl.nil:Sl Bn),1⟩:Law)]:Sl Law).g i)) false),(10000,.vec O9 2 (Sl.of [(⟨-1,[112,114,111,116,111]⟩:G7),(⟨0,[119,101,115,116]⟩:G7),(⟨0,[101,97,115,116]⟩:G7),(⟨1,[110,111,114,116,104]⟩:G7),(⟨1,[115,111,117,116,104]⟩:G7)]:Sl G7).n (fun i=>D2 ((Sl.of [(⟨-1,[112,114,111,116,111]⟩:G7),(⟨0,[119,101,115,116]⟩:G7),(⟨0,[101,97,115,116]⟩:G7),(⟨1,[110,111,114,116,104]⟩:G7),(⟨1,[115,111,117,116,104]⟩:G7)]:Sl G7).g i)) false),(1000,.cells [.p F8,.p F8,.p F8])]⟩ (ids:=[(1000,1000),(10000,10000),(23000,23000),(24000,24000),(25000,25000),(26000,26000)]) ?_ (hle:=klR [(0,.fn 1 (Sl.of [1]:Sl Int).n (D5 [pI .i64 0] [(0,cI .i64 1)]) (fun i=>cI .i64 ((Sl.of [1]:Sl Int).g i))),(1,.fn 2 (Sl.of [1,0]:Sl Int).n (D5 [pI .i64 0] [(0,cI .i64 1),(1,cI .i64 0)]) (fun i=>cI .i64 ((Sl.of [1,0]:Sl Int).g i))),(2,.fn 1 (Sl.of [0]:Sl Int).n (D5 [pI .i64 0] [(0,cI .i64 0)]) (fun i=>cI .i64 ((Sl.of [0]:Sl Int).g i)))] (al1 ⟨rfl,(fun i a=>match i,a with|0,_=>rfl|_+1,a=>absurd a (by omega))⟩ (al1 ⟨rfl,(fun i a=>match i,a with|0,_=>rfl|1,_=>rfl|_+2,a=>absurd a (by omega))⟩ (al1 ⟨rfl,(fun i a=>match i,a with|0,_=>rfl|_+1,a=>absurd a (by omega))⟩ al0))));refine Uk hS (rfl:true=true) 27 27000 (k:=1) (n:=5) (e:=Gp) (vw:=false) (D5 [F8] [(0,[F8]),(1,cL 1 (cI .i64) (Sl.of [0]:Sl Int)),(2,cL 1 (cI .i64) (Sl.of [1,0]:Sl Int)),(3,cL 1 (cI .i64) (Sl.of [1]:Sl Int)),(4,[F8])]) (fun i=>cL 1 (cI .i64) ((Sl.of [(Sl.nil:Sl Int),(Sl.of [0]:Sl Int),(Sl.of [1,0]:Sl Int),(Sl.of [1]:Sl Int),(Sl.nil:Sl Int)]:Sl (Sl Int)).g i)) (fun i a=>match i,a with|0,_=>leCn|1,_=>leCr _|2,_=>leCr _|3,_=>leCr _|4,_=>leCn|_+5,a=>absurd a (by omega)) ?_;refine I1 hS trivial 27 ⟨[(26,.p (vSl 1 (cL 1 (cI .i64)) (Sl.of [(Sl.nil:Sl Int),(Sl.of [0]:Sl Int),(Sl.of [1,0]:Sl Int),(Sl.of [1]:Sl Int),(Sl.nil:Sl Int)]:Sl (Sl Int)))),(22,.p (vSl 18 B2 (Sl.of [(⟨[118,111,105,99,105,110,103],Pat.mk 1 (⟨4,0⟩:Sound) false 0 0 (Sl.nil:Sl Pat).n (Sl.nil:Sl Pat).g,Pat.mk 1 (⟨4,0⟩:Sound) false 0 0 (Sl.nil:Sl Pat).n (Sl.nil:Sl Pat).g,(Sl.of [(⟨2,0⟩:Sound)]:Sl Sound),(Sl.of [(⟨0,0,(⟨1,0⟩:Sound),0,0⟩:Bn)]:Sl Bn),1⟩:Law),(⟨[97,112,111,99,111,112,101],Pat.mk 0 (⟨0,0⟩:Sound) false 0 0 (Sl.nil:Sl Pat).n (Sl.nil:Sl Pat).g,Pat.mk 6 (⟨0,0⟩:Sound) false 0 0 (Sl.nil:Sl Pat).n (Sl.nil:Sl Pat).g,(Sl.of [(⟨4,0⟩:Sound)]:Sl Sound),(Sl.nil:Sl Bn),1⟩:Law)]:Sl Law))),(9,.p (vSl 2 D2 (Sl.of [(⟨-1,[112,114,111,116,111]⟩:G7),(⟨0,[119,101,115,116]⟩:G7),(⟨0,[101,97,115,116]⟩:G7),(⟨1,[110,111,114,116,104]⟩:G7),(⟨1,[115,111,117,116,104]⟩:G7)]:Sl G7))),(0,.reg 1000 0)],[(1000,.cells [.p F8,.p F8,.p F8])]⟩ (ids:=[(1000,1000)]) ?_;cases h;exact kR hS
def Hm (N:Nat)(a:Sl (Sl Sound))(b:Sl (Sl Sound)):Option Bool:=
 if ((a.n:Int) != (b.n:Int)) then
  some false
 else
  R6 N (fun c (x1:Int)=>
   if (decide (x1<(a.n:Int))) then
    if (((0:Int)<=x1/\x1<(a.n:Int))/\((0:Int)<=x1/\x1<(b.n:Int)))then
     (T5 N (a.g x1.toNat) (b.g x1.toNat)).bind fun y3=>
     if (!y3) then
      some false
     else
      c (wrap .i64 (x1+1))
    else none
   else
    some true
   ) 0
theorem Vm {N:Nat}{a:Sl (Sl Sound)}{b:Sl (Sl Sound)}{y:Bool}(h:Hm N a b=some y) :FunO S Lo [.p (vSl 1 (cL 2 A0) a),.p (vSl 1 (cL 2 A0) b)] [] (pB y) ([]) []:=by
 unfold Hm at h;refine A3 hS Tryz.func21 ?_;refine kI hS h ?_ ?_<;>intro h
 ·cases h;exact kR hS
 ·refine I4 hS trivial h (fun x1=>⟨[(5,pN x1),(1,.p (vSl 1 (cL 2 A0) b)),(0,.p (vSl 1 (cL 2 A0) a))],[]⟩) (ids:=[]) (fun _ _ _ _ _ c x1 d h=>?_);refine kI hS h ?_ ?_<;>intro h
  ·refine D4 hS trivial [2,3,6,7,8] ?_;obtain⟨c9,h⟩:=D3 h;obtain⟨y3,e3,h⟩:=B7 h;refine R5 c9 (EK hS hL e3) ?_;refine I7 trivial ?_;refine kI hS h ?_ ?_<;>intro h
   ·cases h;exact kR hS
   ·exact d _ [] _ (wrap .i64 (x1+1)) trivial h
  ·cases h;exact kR hS
def BB (N:Nat)(a:A8):Option Bool:=
 if (((decide (70<(a.Tree.n:Int)))||(decide (70<(a.Laws.n:Int))))||(decide (70<(a.On.n:Int)))) then
  some false
 else
  R6 N (fun b (x1:Int)=>
   if (decide (x1<(a.On.n:Int))) then
    if ((0:Int)<=x1/\x1<(a.On.n:Int))then
     if (decide (70<((a.On.g x1.toNat).n:Int))) then
      some false
     else
      b (wrap .i64 (x1+1))
    else none
   else
    R6 N (fun c (x3:Int)=>
     if (decide (x3<(a.Laws.n:Int))) then
      if (((0:Int)<=x3/\x3<(a.Laws.n:Int))/\((0:Int)<=x3/\x3<=(wrap .i64 (x3+1))/\(wrap .i64 (x3+1))<=(a.Laws.n:Int)))then
       (Cu N (a.Laws.sub x3.toNat (wrap .i64 (x3+1)).toNat)).bind fun d=>
       lt (fun (z3:Bool)=>
        if z3 then
         some false
        else
         c (wrap .i64 (x3+1))
        ) fun k3=>
        if (decide (4<d)) then
         k3 true
        else
         if (decide (20<((a.Laws.g x3.toNat).If.n:Int))) then
          k3 true
         else
          if (decide (20<((a.Laws.g x3.toNat).Out.n:Int))) then
           k3 true
          else
           (Bt N (a.Laws.g x3.toNat).Left).bind fun f=>
           if (decide (41<f)) then
            k3 true
           else
            (Bt N (a.Laws.g x3.toNat).Right).bind fun i=>
            k3 (decide (41<i))
      else none
     else
      some true
     ) 0
   ) 0
theorem Ms {N:Nat}{c:A8}{y:Bool}(h:BB N c=some y) :FunO S Lk [.p (.agg (A2 c))] [] (pB y) ([]) []:=by
 unfold BB at h;refine A3 hS Tryz.func12 ?_;refine kB hS (A7 hS) trivial trivial 11 (.o (.o (.a (decide (70<(c.Tree.n:Int)))) (.a (decide (70<(c.Laws.n:Int))))) (.a (decide (70<(c.On.n:Int))))) ?_;refine kI hS h ?_ ?_<;>intro h
 ·cases h;exact kR hS
 ·refine I4 hS trivial h (fun x1=>⟨[(3,pN x1),(1,.reg 2000 0)],[(2000,.cells ((A2 c).map .p))]⟩) (ids:=[(2000,2000)]) (fun _ _ _ _ _ f x1 i h=>?_);refine kI hS h ?_ ?_<;>intro h
  ·obtain⟨c9,h⟩:=D3 h;refine D0 hS c9 (b:=decide (70<((c.On.g x1.toNat).n:Int))) (fun c10=>?_) (fun c10=>?_)
   ·replace h:=itT c10 h;cases h;exact kR hS
   ·replace h:=itF c10 h;exact i _ [(2000,2000)] _ (wrap .i64 (x1+1)) trivial h
  ·refine I4 hS trivial h (fun x3=>⟨[(4,pN x3),(1,.reg 2000 0)],[(2000,.cells ((A2 c).map .p))]⟩) (ids:=[(2000,2000)]) (fun _ _ _ _ _ j x3 l h=>?_);refine kI hS h ?_ ?_<;>intro h
   ·obtain⟨c40,h⟩:=D3 h;obtain⟨q,e11,h⟩:=B7 h;refine B9 hS [] (And.intro (And.intro c40.1 (by decide:(18:Nat)<=18)) c40.2) (Yq hS hL e11) ?_;refine Fy hS trivial (A7 hS) h 0 (fun z3=>⟨[(79,pB z3),(4,pN x3),(1,.reg 2000 0)],[(2000,.cells ((A2 c).map .p))]⟩) (fun M3 k3 d h=>?_) (fun z3 h=>?_)
    ·refine kG hS h (fun h=>?_) (fun h=>?_)
     ·exact d _ [(2000,2000)] _ true trivial h
     ·refine kG hS h (fun h=>?_) (fun h=>?_)
      ·exact d _ [(2000,2000)] _ true trivial h
      ·refine kG hS h (fun h=>?_) (fun h=>?_)
       ·exact d _ [(2000,2000)] _ true trivial h
       ·refine kC hS h (Ja hS hL) (fun r h=>?_);refine kG hS h (fun h=>?_) (fun h=>?_)
        ·exact d _ [(2000,2000)] _ true trivial h
        ·refine kC hS h (Ja hS hL) (fun m h=>?_);exact d _ [(2000,2000)] _ (decide (41<m)) trivial h
    ·refine kI hS h ?_ ?_<;>intro h
     ·cases h;exact kR hS
     ·exact l _ [(2000,2000)] _ (wrap .i64 (x3+1)) trivial h
   ·cases h;exact kR hS
def Cz (N:Nat)(b:A8)(a:Int):Option Bool:=
 Q2 N (fun c (x1:Int) (x2:Int)=>
  if (decide (x2<(b.On.n:Int))) then
   if ((0:Int)<=x2/\x2<(b.On.n:Int))then
    c (wrap .i64 (x1+((b.On.g x2.toNat).n:Int))) (wrap .i64 (x2+1))
   else none
  else
   lt (fun (z1:Bool)=>
    some z1
    ) fun k1=>
    if (decide (a<=256)) then
     if (decide (5000<(wrap .i64 ((wrap .i64 (a*(b.Tree.n:Int)))*x1)))) then
      (Q5 N b).bind fun y2=>
      k1 (y2==0)
     else
      k1 false
    else
     k1 false
  ) 0 0
theorem OM {N:Nat}{b:A8}{a:Int}{y:Bool}(h:Cz N b a=some y) :FunO S Oh [.p (.agg (A2 b)),pN a] [] (pB y) ([]) []:=by
 unfold Cz at h;refine A3 hS Tryz.func22 ?_;refine F9 hS trivial h (fun x1 x2=>⟨[(6,pN x2),(5,pN x1),(2,.reg 3000 0),(1,pN a)],[(3000,.cells ((A2 b).map .p))]⟩) (ids:=[(3000,3000)]) (fun _ _ _ _ _ d x1 x2 f h=>?_);refine kI hS h ?_ ?_<;>intro h
 ·obtain⟨c4,h⟩:=D3 h;exact f _ [(3000,3000)] _ (wrap .i64 (x1+((b.On.g x2.toNat).n:Int))) (wrap .i64 (x2+1)) c4 h
 ·refine Fy hS trivial (A7 hS) h 0 (fun z1=>⟨[(4,pB z1)],[]⟩) (fun M1 k1 c h=>?_) (fun z1 h=>?_)
  ·refine kG hS h (fun h=>?_) (fun h=>?_)
   ·refine kG hS h (fun h=>?_) (fun h=>?_)
    ·refine kC hS h (EO hS hL) (fun y2 h=>?_);exact c _ [] _ (y2==0) trivial h
    ·exact c _ [] _ false trivial h
   ·exact c _ [] _ false trivial h
  ·cases h;exact kR hS
def Q7 (N:Nat)(a:Sl Int)(c:Int):Option Int:=
 R6 N (fun b (x1:Int)=>
  if (decide (x1<(a.n:Int))) then
   if ((0:Int)<=x1/\x1<(a.n:Int))then
    if (c==(a.g x1.toNat)) then
     some x1
    else
     b (wrap .i64 (x1+1))
   else none
  else
   some (-1)
  ) 0
theorem DD {N:Nat}{a:Sl Int}{c:Int}{y:Int}(h:Q7 N a c=some y) :FunO S Aj [.p (vSl 1 (cI .i64) a),pN c] [] (pN y) ([]) []:=by
 unfold Q7 at h;refine A3 hS Tryz.func112 ?_;refine I4 hS trivial h (fun x1=>⟨[(8,pN x1),(7,pN (a.n:Int)),(1,pN c),(0,.p (vSl 1 (cI .i64) a))],[]⟩) (ids:=[]) (fun _ _ _ _ _ d x1 f h=>?_);refine kI hS h ?_ ?_<;>intro h
 ·obtain⟨c8,h⟩:=D3 h;refine D0 hS c8 (b:=c==(a.g x1.toNat)) (fun c9=>?_) (fun c9=>?_)
  ·replace h:=itT c9 h;cases h;exact kR hS
  ·replace h:=itF c9 h;exact f _ [] _ (wrap .i64 (x1+1)) trivial h
 ·cases h;exact kR hS
def I6 (N:Nat)(a:Sl Int)(b:Int):Option Bool:=
 (Q7 N a b).bind fun y1=>
 some (decide (0<=y1))
theorem V4 {N:Nat}{a:Sl Int}{b:Int}{y:Bool}(h:I6 N a b=some y) :FunO S V2 [.p (vSl 1 (cI .i64) a),pN b] [] (pB y) ([]) []:=by unfold I6 at h;refine A3 hS Tryz.func83 ?_;refine kC hS h (DD hS hL) (fun y1 h=>?_);cases h;exact kR hS
def CW (N:Nat)(a:A8)(b:Int):Option ((Sl Int)×Int):=
 (E3 N a).bind fun y1=>
 if (y1 != 0) then
  some ((Sl.nil:Sl Int),y1)
 else
  if ((decide (b<0))||(decide ((a.Laws.n:Int)<=b))) then
   some ((Sl.nil:Sl Int),3)
  else
   Q2 N (fun c (x5:Sl Int) (x6:Int)=>
    if (decide (x6<(a.Tree.n:Int))) then
     if (((0:Int)<=x6/\x6<(a.Tree.n:Int))/\((0:Int)<=x6/\x6<(a.On.n:Int)))then
      (I6 N (a.On.g x6.toNat) b).bind fun d=>
      lt (fun (z4:Bool)=>
       if z4 then
        if ((x5.n+(Sl.of [x6]:Sl Int).n)*8<=140737488355328/\x5.n+(Sl.of [x6]:Sl Int).n<=140737488355328)then
         c (x5.push x6) (wrap .i64 (x6+1))
        else none
       else
        c x5 (wrap .i64 (x6+1))
       ) fun k4=>
       if d then
        k4 true
       else
        (I6 N x5 (a.Tree.g x6.toNat).Parent).bind fun f=>
        k4 f
     else none
    else
     some (x5,0)
    ) (Sl.nil:Sl Int) 0
theorem Mt {N:Nat}{d:A8}{b:Int}{y:(Sl Int)×Int}(h:CW N d b=some y) :FunO S FE [.p (.agg (A2 d)),pN b] [] (.tup [.vec 0,pN y.2]) ([.vec B6 1 y.1.n (fun i=>cI .i64 (y.1.g i)) true]) []:=by
 unfold CW at h;refine A3 hS Tryz.func48 ?_;refine kC hS h (S3 hS hL) (fun y1 h=>?_);refine kI hS h ?_ ?_<;>intro h
 ·obtain rfl:=B8 h;exact A9 hS trivial ⟨[(5,pN y1),(4,.vec 5700)],[(5700,.vec B6 1 (Sl.nil:Sl Int).n (fun i=>cI .i64 ((Sl.nil:Sl Int).g i)) true)]⟩ [5700] (ids:=[]) ⟨rfl,rfl,rfl⟩
 ·refine kB hS (A7 hS) trivial trivial 6 (.o (.a (decide (b<0))) (.a (decide ((d.Laws.n:Int)<=b)))) ?_;refine kI hS h ?_ ?_<;>intro h
  ·obtain rfl:=B8 h;exact A9 hS trivial ⟨[(5,pN 3),(4,.vec 5700)],[(5700,.vec B6 1 (Sl.nil:Sl Int).n (fun i=>cI .i64 ((Sl.nil:Sl Int).g i)) true)]⟩ [5700] (ids:=[]) ⟨rfl,rfl,rfl⟩
  ·refine F9 hS trivial h (fun x5 x6=>⟨[(27,pN x6),(26,pN (d.Tree.n:Int)),(25,.p (vSl 2 D2 d.Tree)),(7,.vec 8501),(2,.reg 3000 0),(1,pN b)],[(8501,.vec B6 1 x5.n (fun i=>cI .i64 (x5.g i)) true),(3000,.cells ((A2 d).map .p))]⟩) (ids:=[(3000,3000)]) (fun _ _ _ _ _ l x5 x6 f h=>?_);refine kI hS h ?_ ?_<;>intro h
   ·obtain⟨c22,h⟩:=D3 h;obtain⟨q,e11,h⟩:=B7 h;refine B9 hS [] (And.intro (And.intro c22.1 (by decide:(2:Nat)<=2)) c22.2) (V4 hS hL e11) ?_;refine Fy hS trivial (A7 hS) h 0 (fun z4=>⟨[(44,pB z4),(27,pN x6),(26,pN (d.Tree.n:Int)),(25,.p (vSl 2 D2 d.Tree)),(8,pN x6),(7,.vec 8501),(2,.reg 3000 0),(1,pN b)],[(8501,.vec B6 1 x5.n (fun i=>cI .i64 (x5.g i)) true),(3000,.cells ((A2 d).map .p))]⟩) (fun M4 k4 j h=>?_) (fun z4 h=>?_)
    ·refine kG hS h (fun h=>?_) (fun h=>?_)
     ·exact j _ [(3000,3000),(8501,8501)] _ true trivial h
     ·refine kC hS h (V4 hS hL) (fun m h=>?_);exact j _ [(3000,3000),(8501,8501)] _ m trivial h
    ·refine kI hS h ?_ ?_<;>intro h
     ·obtain⟨c27,h⟩:=D3 h;exact f _ [(3000,3000),(8501,49000)] _ (x5.push x6) (wrap .i64 (x6+1)) (And.intro (rfl:true=true) c27) h (hle:=klR [(4,.fn (x5.n+1) (x5.push x6).n (Q0 x5.n (fun i=>cI .i64 (x5.g i)) (D5 [pI .i64 0] [(0,cI .i64 x6)])) (fun i=>cI .i64 ((x5.push x6).g i)))] (al1 ⟨rfl,Et (c:=cI .i64) (v:=x5) (x:=x6) (z:=[(pI .i64 0)]) same rfl rfl⟩ al0))
     ·exact f _ [(3000,3000),(8501,8501)] _ x5 (wrap .i64 (x6+1)) trivial h
   ·obtain rfl:=B8 h;exact A9 hS trivial ⟨[(5,pN 0),(4,.vec 8501)],[(8501,.vec B6 1 x5.n (fun i=>cI .i64 (x5.g i)) true)]⟩ [8501] (ids:=[(8501,8501)]) ⟨rfl,rfl,rfl⟩
def G5 (N:Nat)(a:A8)(c:Sl Sound):Option (Sl S0):=
 if ((0:Int)<=(a.Tree.n:Int)/\(a.Tree.n:Int)<=(a.Tree.n:Int)/\(a.Tree.n:Int)*32<=140737488355328/\(a.Tree.n:Int)<=140737488355328)then
  Q2 N (fun b (x1:Sl S0) (x2:Int)=>
   if (decide (x2<(a.Tree.n:Int))) then
    if ((0:Int)<=x2/\x2<(a.Tree.n:Int))then
     if ((decide (0<=(a.Tree.g x2.toNat).Parent))=true->(((0:Int)<=(a.Tree.g x2.toNat).Parent/\(a.Tree.g x2.toNat).Parent<(x1.n:Int))/\(a.Tree.g x2.toNat).Parent.toNat<x1.n))then
      if ((if (decide (0<=(a.Tree.g x2.toNat).Parent)) then (x1.g (a.Tree.g x2.toNat).Parent.toNat).e else 0)==0) then
       if ((0:Int)<=x2/\x2<(a.On.n:Int))then
        (H8 N a (a.On.g x2.toNat)).bind fun y5=>
        (G1 N y5 (if (decide (0<=(a.Tree.g x2.toNat).Parent)) then (x1.g (a.Tree.g x2.toNat).Parent.toNat).w else c)).bind fun y6=>
        if (((0:Int)<=x2/\x2<(x1.n:Int))/\x2.toNat<x1.n)then
         b (x1.upd x2.toNat (⟨y6.1,y6.2⟩:S0)) (wrap .i64 (x2+1))
        else none
       else none
      else
       if (((0:Int)<=x2/\x2<(x1.n:Int))/\x2.toNat<x1.n)then
        b (x1.upd x2.toNat (⟨(if (decide (0<=(a.Tree.g x2.toNat).Parent)) then (x1.g (a.Tree.g x2.toNat).Parent.toNat).w else c),(if (decide (0<=(a.Tree.g x2.toNat).Parent)) then (x1.g (a.Tree.g x2.toNat).Parent.toNat).e else 0)⟩:S0)) (wrap .i64 (x2+1))
       else none
     else none
    else none
   else
    some x1
   ) (Sl.rep (a.Tree.n:Int).toNat (⟨(Sl.nil:Sl Sound),0⟩:S0):Sl S0) 0
 else none
theorem ET {N:Nat}{a:A8}{d:Sl Sound}{y:Sl S0}(h:G5 N a d=some y) :FunO S HV [.p (.agg (A2 a)),.p (vSl 2 A0 d)] [] (.vec 0) ([.vec F5 2 y.n (fun i=>J2 (y.g i)) true]) []:=by
 unfold G5 at h;refine A3 hS Tryz.func65 ?_;refine H3 hS trivial 4 3000 (A2 a) ?_;obtain⟨c1,h⟩:=D3 h;refine Uk hS c1 5 13000 (k:=2) (n:=(a.Tree.n:Int).toNat) (e:=F5) (vw:=false) (fun _=>[F8,pI .i64 0]) (fun i=>J2 ((Sl.rep (a.Tree.n:Int).toNat (⟨(Sl.nil:Sl Sound),0⟩:S0):Sl S0).g i)) (fun i r=>Fa AO2 (Fa (.inl rfl) leC0)) ?_;refine F9 hS trivial h (fun x1 x2=>⟨[(16,pN x2),(15,pN (a.Tree.n:Int)),(14,.p (vSl 2 D2 a.Tree)),(5,.vec 13000),(2,.p (.ptr (A2 a))),(1,.p (vSl 2 A0 d))],[(13000,.vec F5 2 x1.n (fun i=>J2 (x1.g i)) false)]⟩) (ids:=[(13000,13000)]) (fun _ _ _ _ _ q x1 x2 m h=>?_);refine kI hS h ?_ ?_<;>intro h
 ·obtain⟨c17,h⟩:=D3 h;refine H3 hS (And.intro c17 (by decide:(2:Nat)<=2)) 21 8000 [pI .i64 (a.Tree.g x2.toNat).Parent,.str (a.Tree.g x2.toNat).Name] ?_;obtain⟨c19,h⟩:=D3 h;obtain⟨t5,f⟩:∃x:Sl Sound,x=(if (decide (0<=(a.Tree.g x2.toNat).Parent)) then (x1.g (a.Tree.g x2.toNat).Parent.toNat).w else d):=⟨_,rfl⟩;obtain⟨t6,j⟩:∃x:Int,x=(if (decide (0<=(a.Tree.g x2.toNat).Parent)) then (x1.g (a.Tree.g x2.toNat).Parent.toNat).e else 0):=⟨_,rfl⟩;refine PI hS trivial (A7 hS) 0 ⟨[(16,pN x2),(15,pN (a.Tree.n:Int)),(14,.p (vSl 2 D2 a.Tree)),(8,.reg 9000 0),(6,pN x2),(5,.vec 13000),(2,.p (.ptr (A2 a))),(1,.p (vSl 2 A0 d))],[(13000,.vec F5 2 x1.n (fun i=>J2 (x1.g i)) false),(9000,.cells [.p (vSl 2 A0 t5),pN t6])]⟩ (fun M3 o=>?_) ?_
  ·refine D0 hS trivial (b:=decide (0<=(a.Tree.g x2.toNat).Parent)) (fun c20=>?_) (fun c20=>?_)
   ·exact o _ [(9000,9000),(13000,13000)] _ (And.intro (And.intro (c19 c20).1 (by decide:(2:Nat)<=2)) (c19 c20).2) (hle:=klR [(7,.fn (x1.g (a.Tree.g x2.toNat).Parent.toNat).w.n t5.n (fun i=>A0 ((x1.g (a.Tree.g x2.toNat).Parent.toNat).w.g i)) (fun i=>A0 (t5.g i))),(8,.eq (pI .i64 (x1.g (a.Tree.g x2.toNat).Parent.toNat).e) (pI .i64 t6))] (al1 (by have e:=f;simp only[c20,pm,if_true,if_false]at e;subst e;exact⟨rfl,fun _ _=>rfl⟩) (al1 (by simp only[f,j,c20,Leaf.ok,pm,if_true,if_false]) al0)))
   ·exact o _ [(9000,9000),(13000,13000)] _ trivial (hle:=klR [(7,.fn d.n t5.n (fun i=>A0 (d.g i)) (fun i=>A0 (t5.g i))),(8,.eq (pI .i64 0) (pI .i64 t6))] (al1 (by have e:=f;simp only[c20,pm,if_true,if_false]at e;subst e;exact⟨rfl,fun _ _=>rfl⟩) (al1 (by simp only[f,j,c20,Leaf.ok,pm,if_true,if_false]) al0)))
  ·subst j;subst f;refine kI hS h ?_ ?_<;>intro h
   ·refine D4 hS trivial [0,2,4,5,6,9] ?_;obtain⟨c22,h⟩:=D3 h;obtain⟨y5,e5,h⟩:=B7 h;refine R5 (And.intro (by decide:(3:Nat)<=3) c22) (GU hS hL e5) ?_;obtain⟨y6,e6,h⟩:=B7 h;refine R5 trivial (FU hS hL e6) ?_;refine I7 trivial ?_;obtain⟨c23,h⟩:=D3 h;exact m _ [(13000,13000)] _ (x1.upd x2.toNat (⟨y6.1,y6.2⟩:S0)) (wrap .i64 (x2+1)) (And.intro c23.1 (And.intro (rfl:(2:Nat)=2) (And.intro c23.2 (by decide:(2:Nat)<=2)))) h (hle:=klR [(5,.fn x1.n (x1.upd x2.toNat (⟨y6.1,y6.2⟩:S0)).n (fun l=>if l=x2.toNat then splice ((fun i=>J2 (x1.g i)) l) 0 [vSl 2 A0 y6.1,pI .i64 y6.2]else (fun i=>J2 (x1.g i)) l) (fun i=>J2 ((x1.upd x2.toNat (⟨y6.1,y6.2⟩:S0)).g i)))] (al1 ⟨rfl,XH (c:=J2) (v:=x1) (x:=(⟨y6.1,y6.2⟩:S0)) same (fun _=>by first|rfl|(dsimp only;split<;>rfl))⟩ al0))
   ·obtain⟨c24,h⟩:=D3 h;exact m _ [(13000,13000)] _ (x1.upd x2.toNat (⟨(if (decide (0<=(a.Tree.g x2.toNat).Parent)) then (x1.g (a.Tree.g x2.toNat).Parent.toNat).w else d),(if (decide (0<=(a.Tree.g x2.toNat).Parent)) then (x1.g (a.Tree.g x2.toNat).Parent.toNat).e else 0)⟩:S0)) (wrap .i64 (x2+1)) (And.intro c24.1 (And.intro (rfl:(2:Nat)=2) (And.intro c24.2 (by decide:(2:Nat)<=2)))) h (hle:=klR [(5,.fn x1.n (x1.upd x2.toNat (⟨(if (decide (0<=(a.Tree.g x2.toNat).Parent)) then (x1.g (a.Tree.g x2.toNat).Parent.toNat).w else d),(if (decide (0<=(a.Tree.g x2.toNat).Parent)) then (x1.g (a.Tree.g x2.toNat).Parent.toNat).e else 0)⟩:S0)).n (fun l=>if l=x2.toNat then splice ((fun i=>J2 (x1.g i)) l) 0 [vSl 2 A0 (if (decide (0<=(a.Tree.g x2.toNat).Parent)) then (x1.g (a.Tree.g x2.toNat).Parent.toNat).w else d),pI .i64 (if (decide (0<=(a.Tree.g x2.toNat).Parent)) then (x1.g (a.Tree.g x2.toNat).Parent.toNat).e else 0)]else (fun i=>J2 (x1.g i)) l) (fun i=>J2 ((x1.upd x2.toNat (⟨(if (decide (0<=(a.Tree.g x2.toNat).Parent)) then (x1.g (a.Tree.g x2.toNat).Parent.toNat).w else d),(if (decide (0<=(a.Tree.g x2.toNat).Parent)) then (x1.g (a.Tree.g x2.toNat).Parent.toNat).e else 0)⟩:S0)).g i)))] (al1 ⟨rfl,XH (c:=J2) (v:=x1) (x:=(⟨(if (decide (0<=(a.Tree.g x2.toNat).Parent)) then (x1.g (a.Tree.g x2.toNat).Parent.toNat).w else d),(if (decide (0<=(a.Tree.g x2.toNat).Parent)) then (x1.g (a.Tree.g x2.toNat).Parent.toNat).e else 0)⟩:S0)) same (fun _=>by first|rfl|(dsimp only;split<;>rfl))⟩ al0))
 ·obtain rfl:=B8 h;exact A9 hS trivial ⟨[(4,.vec 13000)],[(13000,.vec F5 2 x1.n (fun i=>J2 (x1.g i)) true)]⟩ [13000] (ids:=[(13000,13000)]) ⟨rfl,rfl,rfl⟩
def CX (N:Nat)(b:A8)(c:Sl Sound):Option ((Sl (Sl Sound))×Int):=
 (S4 N b c).bind fun y1=>
 if (y1 != 0) then
  some ((Sl.nil:Sl (Sl Sound)),y1)
 else
  (G5 N b c).bind fun y2=>
  Q2 N (fun a (x1:Sl (Sl Sound)) (x2:Int)=>
   if (decide (x2<(y2.n:Int))) then
    if (((0:Int)<=x2/\x2<(y2.n:Int))/\x2.toNat<y2.n)then
     if ((y2.g x2.toNat).e != 0) then
      some ((Sl.nil:Sl (Sl Sound)),(y2.g x2.toNat).e)
     else
      (A6 N (y2.g x2.toNat).w).bind fun y5=>
      if ((x1.n+(Sl.of [y5]:Sl (Sl Sound)).n)*24<=140737488355328/\x1.n+(Sl.of [y5]:Sl (Sl Sound)).n<=140737488355328)then
       a (x1.push y5) (wrap .i64 (x2+1))
      else none
    else none
   else
    some (x1,0)
   ) (Sl.nil:Sl (Sl Sound)) 0
theorem Mu {N:Nat}{a:A8}{b:Sl Sound}{y:(Sl (Sl Sound))×Int}(h:CX N a b=some y) :FunO S FB [.p (.agg (A2 a)),.p (vSl 2 A0 b)] [] (.tup [.vec 0,pN y.2]) ([.vec A4 1 y.1.n (fun i=>cL 2 A0 (y.1.g i)) true]) []:=by
 unfold CX at h;refine A3 hS Tryz.func16 ?_;refine H3 hS trivial 4 3000 (A2 a) ?_;obtain⟨y1,e1,h⟩:=B7 h;refine B9 hS [] (by decide:(3:Nat)<=3) (FY hS hL e1) ?_;refine kI hS h ?_ ?_<;>intro h
 ·obtain rfl:=B8 h;exact A9 hS trivial ⟨[(5,pN y1),(4,.vec 5700)],[(5700,.vec A4 1 (Sl.nil:Sl (Sl Sound)).n (fun i=>cL 2 A0 ((Sl.nil:Sl (Sl Sound)).g i)) true)]⟩ [5700] (ids:=[]) ⟨rfl,rfl,rfl⟩
 ·obtain⟨y2,e2,h⟩:=B7 h;refine B9 hS [] (by decide:(3:Nat)<=3) (ET hS hL e2) ?_;refine F9 hS trivial h (fun x1 x2=>⟨[(20,pN x2),(19,pN (y2.n:Int)),(18,.vec 19000),(7,.vec 8500)],[(19000,.vec F5 2 y2.n (fun i=>J2 (y2.g i)) true),(8500,.vec A4 1 x1.n (fun i=>cL 2 A0 (x1.g i)) false)]⟩) (ids:=[(19000,19000)]) (fun _ _ _ _ _ d x1 x2 f h=>?_);refine kI hS h ?_ ?_<;>intro h
  ·obtain⟨c9,h⟩:=D3 h;refine H3 hS (And.intro (And.intro c9.1 (by decide:(2:Nat)<=2)) c9.2) 24 10000 [vSl 2 A0 (y2.g x2.toNat).w,pI .i64 (y2.g x2.toNat).e] ?_;refine kI hS h ?_ ?_<;>intro h
   ·refine D4 hS trivial [1] ?_;refine I7 trivial ?_;obtain rfl:=B8 h;exact A9 hS trivial ⟨[(5,pN (y2.g x2.toNat).e),(4,.vec 5700)],[(5700,.vec A4 1 (Sl.nil:Sl (Sl Sound)).n (fun i=>cL 2 A0 ((Sl.nil:Sl (Sl Sound)).g i)) true)]⟩ [5700] (ids:=[]) ⟨rfl,rfl,rfl⟩
   ·refine kC hS h (G9 hS hL) (fun y5 h=>?_);obtain⟨c11,h⟩:=D3 h;exact f _ [(8500,35000),(19000,19000)] _ (x1.push y5) (wrap .i64 (x2+1)) (And.intro (rfl:true=true) c11) h (hle:=klR [(3,.fn (x1.n+1) (x1.push y5).n (Q0 x1.n (fun i=>cL 2 A0 (x1.g i)) (D5 [F8] [(0,cL 2 A0 y5)])) (fun i=>cL 2 A0 ((x1.push y5).g i)))] (al1 ⟨rfl,Et (c:=cL 2 A0) (v:=x1) (x:=y5) (z:=[F8]) same rfl rfl⟩ al0))
  ·obtain rfl:=B8 h;exact A9 hS trivial ⟨[(5,pN 0),(4,.vec 8500)],[(8500,.vec A4 1 x1.n (fun i=>cL 2 A0 (x1.g i)) true)]⟩ [8500] (ids:=[(8500,8500)]) ⟨rfl,rfl,rfl⟩
def Cb (N:Nat)(b:A8)(c:Sl Sound):Option ((Sl (Sl Sound))×Int):=
 (CX N b c).bind fun y1=>
 if (y1.2 != 0) then
  some ((Sl.nil:Sl (Sl Sound)),y1.2)
 else
  (G4 N b.Tree).bind fun y2=>
  Q2 N (fun a (x1:Sl (Sl Sound)) (x2:Int)=>
   if (decide (x2<(y2.1.n:Int))) then
    if ((((((0:Int)<=x2/\x2<(y2.1.n:Int))/\x2.toNat<y2.1.n)/\((0:Int)<=(y2.1.g x2.toNat)/\(y2.1.g x2.toNat)<(y1.1.n:Int)))/\(y2.1.g x2.toNat).toNat<y1.1.n)/\((x1.n+(Sl.of [y1.1.g (y2.1.g x2.toNat).toNat]:Sl (Sl Sound)).n)*24<=140737488355328/\x1.n+(Sl.of [y1.1.g (y2.1.g x2.toNat).toNat]:Sl (Sl Sound)).n<=140737488355328))then
     a (x1.push (y1.1.g (y2.1.g x2.toNat).toNat)) (wrap .i64 (x2+1))
    else none
   else
    some (x1,y2.2)
   ) (Sl.nil:Sl (Sl Sound)) 0
theorem Kh {N:Nat}{a:A8}{b:Sl Sound}{y:(Sl (Sl Sound))×Int}(h:Cb N a b=some y) :FunO S Fe [.p (.agg (A2 a)),.p (vSl 2 A0 b)] [] (.tup [.vec 0,pN y.2]) ([.vec A4 1 y.1.n (fun i=>cL 2 A0 (y.1.g i)) true]) []:=by
 unfold Cb at h;refine A3 hS Tryz.func18 ?_;refine kC hS h (Mu hS hL) (fun y1 h=>?_);refine kI hS h ?_ ?_<;>intro h
 ·obtain rfl:=B8 h;exact A9 hS trivial ⟨[(5,pN y1.2),(4,.vec 5700)],[(5700,.vec A4 1 (Sl.nil:Sl (Sl Sound)).n (fun i=>cL 2 A0 ((Sl.nil:Sl (Sl Sound)).g i)) true)]⟩ [5700] (ids:=[]) ⟨rfl,rfl,rfl⟩
 ·refine kC hS h (EQ hS hL) (fun y2 h=>?_);refine F9 hS trivial h (fun x1 x2=>⟨[(29,pN x2),(28,pN (y2.1.n:Int)),(27,.vec 25000),(9,.vec 10500),(7,pN y2.2),(6,.vec 16000)],[(25000,.vec B6 1 y2.1.n (fun i=>cI .i64 (y2.1.g i)) true),(16000,.vec A4 1 y1.1.n (fun i=>cL 2 A0 (y1.1.g i)) true),(10500,.vec A4 1 x1.n (fun i=>cL 2 A0 (x1.g i)) false)]⟩) (ids:=[(16000,16000),(25000,25000)]) (fun _ _ _ _ _ d x1 x2 f h=>?_);refine kI hS h ?_ ?_<;>intro h
  ·obtain⟨c5,h⟩:=D3 h;exact f _ [(10500,40000),(16000,16000),(25000,25000)] _ (x1.push (y1.1.g (y2.1.g x2.toNat).toNat)) (wrap .i64 (x2+1)) (And.intro (And.intro (And.intro (And.intro (And.intro c5.1.1.1.1 c5.1.1.1.2) c5.1.1.2) c5.1.2) (rfl:true=true)) c5.2) h (hle:=klR [(5,.fn (x1.n+1) (x1.push (y1.1.g (y2.1.g x2.toNat).toNat)).n (Q0 x1.n (fun i=>cL 2 A0 (x1.g i)) (D5 [F8] [(0,cL 2 A0 (y1.1.g (y2.1.g x2.toNat).toNat))])) (fun i=>cL 2 A0 ((x1.push (y1.1.g (y2.1.g x2.toNat).toNat)).g i)))] (al1 ⟨rfl,Et (c:=cL 2 A0) (v:=x1) (x:=y1.1.g (y2.1.g x2.toNat).toNat) (z:=[F8]) same rfl rfl⟩ al0))
  ·obtain rfl:=B8 h;exact A9 hS trivial ⟨[(5,pN y2.2),(4,.vec 10500)],[(10500,.vec A4 1 x1.n (fun i=>cL 2 A0 (x1.g i)) true)]⟩ [10500] (ids:=[(10500,10500)]) ⟨rfl,rfl,rfl⟩
def H9 (N:Nat)(f:A8)(i:A8)(b:Sl (Sl Sound)):Option (Bool×Int):=
 (E3 N f).bind fun o=>
 if (o != 0) then
  some (false,o)
 else
  (E3 N i).bind fun q=>
  if (q != 0) then
   some (false,q)
  else
   if (decide (256<(b.n:Int))) then
    some (false,12)
   else
    R6 N (fun j (x1:Int)=>
     if (decide (x1<(b.n:Int))) then
      if ((0:Int)<=x1/\x1<(b.n:Int))then
       (K3 N (b.g x1.toNat)).bind fun y5=>
       if (y5 != 0) then
        some (false,y5)
       else
        j (wrap .i64 (x1+1))
      else none
     else
      (G4 N f.Tree).bind fun y6=>
      (G4 N i.Tree).bind fun y7=>
      if ((y6.1.n:Int) != (y7.1.n:Int)) then
       some (false,2)
      else
       R6 N (fun l (x6:Int)=>
        if (decide (x6<(b.n:Int))) then
         if ((0:Int)<=x6/\x6<(b.n:Int))then
          (G5 N f (b.g x6.toNat)).bind fun c=>
          (G5 N i (b.g x6.toNat)).bind fun d=>
          R6 N (fun m (a:Int)=>
           if (decide (a<(y6.1.n:Int))) then
            if (((((((((0:Int)<=a/\a<(y6.1.n:Int))/\a.toNat<y6.1.n)/\((0:Int)<=(y6.1.g a.toNat)/\(y6.1.g a.toNat)<(c.n:Int)))/\(y6.1.g a.toNat).toNat<c.n)/\((0:Int)<=a/\a<(y7.1.n:Int)))/\a.toNat<y7.1.n)/\((0:Int)<=(y7.1.g a.toNat)/\(y7.1.g a.toNat)<(d.n:Int)))/\(y7.1.g a.toNat).toNat<d.n)then
             lt (fun (z9:Bool)=>
              if z9 then
               some (false,0)
              else
               m (wrap .i64 (a+1))
              ) fun k9=>
              if ((c.g (y6.1.g a.toNat).toNat).e != (d.g (y7.1.g a.toNat).toNat).e) then
               k9 true
              else
               (N7 N (c.g (y6.1.g a.toNat).toNat).w (d.g (y7.1.g a.toNat).toNat).w).bind fun r=>
               k9 (!r)
            else none
           else
            l (wrap .i64 (x6+1))
           ) 0
         else none
        else
         some (true,0)
        ) 0
     ) 0
theorem GV {N:Nat}{j:A8}{f:A8}{d:Sl (Sl Sound)}{y:Bool×Int}(h:H9 N j f d=some y) :FunO S GG [.p (.agg (A2 j)),.p (.agg (A2 f)),.p (vSl 1 (cL 2 A0) d)] [] (.tup [pB y.1,pN y.2]) ([]) []:=by
 unfold H9 at h;refine A3 hS Tryz.func23 ?_;refine H3 hS trivial 4 4000 (A2 j) ?_;refine H3 hS trivial 6 5000 (A2 f) ?_;refine An2 hS (And.intro (by decide:(3:Nat)<=3) (by decide:(3:Nat)<=3)) 2 (unrT [fun t=>t=⟨[(28,pN 0),(27,.p (.agg [vSl 2 D2 j.Tree,vSl 18 B2 j.Laws,vSl 1 (cL 1 (cI .i64)) j.On,vSl 2 D2 f.Tree,vSl 18 B2 f.Laws,vSl 1 (cL 1 (cI .i64)) f.On])),(4,.p (.ptr (A2 f))),(3,.p (.ptr (A2 j))),(2,.p (vSl 1 (cL 2 A0) d))],[]⟩/\(
  (E3 N j).bind fun z=>
  if (z != 0) then
   some (false,z)
  else
   (E3 N f).bind fun v=>
   if (v != 0) then
    some (false,v)
   else
    if (decide (256<(d.n:Int))) then
     some (false,12)
    else
     R6 N (fun q (x1:Int)=>
      if (decide (x1<(d.n:Int))) then
       if ((0:Int)<=x1/\x1<(d.n:Int))then
        (K3 N (d.g x1.toNat)).bind fun y5=>
        if (y5 != 0) then
         some (false,y5)
        else
         q (wrap .i64 (x1+1))
       else none
      else
       (G4 N j.Tree).bind fun y6=>
       (G4 N f.Tree).bind fun y7=>
       if ((y6.1.n:Int) != (y7.1.n:Int)) then
        some (false,2)
       else
        R6 N (fun r (x6:Int)=>
         if (decide (x6<(d.n:Int))) then
          if ((0:Int)<=x6/\x6<(d.n:Int))then
           (G5 N j (d.g x6.toNat)).bind fun m=>
           (G5 N f (d.g x6.toNat)).bind fun o=>
           R6 N (fun s (c:Int)=>
            if (decide (c<(y6.1.n:Int))) then
             if (((((((((0:Int)<=c/\c<(y6.1.n:Int))/\c.toNat<y6.1.n)/\((0:Int)<=(y6.1.g c.toNat)/\(y6.1.g c.toNat)<(m.n:Int)))/\(y6.1.g c.toNat).toNat<m.n)/\((0:Int)<=c/\c<(y7.1.n:Int)))/\c.toNat<y7.1.n)/\((0:Int)<=(y7.1.g c.toNat)/\(y7.1.g c.toNat)<(o.n:Int)))/\(y7.1.g c.toNat).toNat<o.n)then
              lt (fun (z9:Bool)=>
               if z9 then
                some (false,0)
               else
                s (wrap .i64 (c+1))
               ) fun k9=>
               if ((m.g (y6.1.g c.toNat).toNat).e != (o.g (y7.1.g c.toNat).toNat).e) then
                k9 true
               else
                (N7 N (m.g (y6.1.g c.toNat).toNat).w (o.g (y7.1.g c.toNat).toNat).w).bind fun u=>
                k9 (!u)
             else none
            else
             r (wrap .i64 (x6+1))
            ) 0
          else none
         else
          some (true,0)
         ) 0
      ) 0
  )=some y,fun t=>t=⟨[(28,pN 1),(27,.p (.agg [vSl 2 D2 j.Tree,vSl 18 B2 j.Laws,vSl 1 (cL 1 (cI .i64)) j.On,vSl 2 D2 f.Tree,vSl 18 B2 f.Laws,vSl 1 (cL 1 (cI .i64)) f.On])),(4,.p (.ptr (A2 f))),(3,.p (.ptr (A2 j))),(2,.p (vSl 1 (cL 2 A0) d))],[]⟩/\(
   (E3 N f).bind fun v=>
   if (v != 0) then
    some (false,v)
   else
    if (decide (256<(d.n:Int))) then
     some (false,12)
    else
     R6 N (fun q (x1:Int)=>
      if (decide (x1<(d.n:Int))) then
       if ((0:Int)<=x1/\x1<(d.n:Int))then
        (K3 N (d.g x1.toNat)).bind fun y5=>
        if (y5 != 0) then
         some (false,y5)
        else
         q (wrap .i64 (x1+1))
       else none
      else
       (G4 N j.Tree).bind fun y6=>
       (G4 N f.Tree).bind fun y7=>
       if ((y6.1.n:Int) != (y7.1.n:Int)) then
        some (false,2)
       else
        R6 N (fun r (x6:Int)=>
         if (decide (x6<(d.n:Int))) then
          if ((0:Int)<=x6/\x6<(d.n:Int))then
           (G5 N j (d.g x6.toNat)).bind fun m=>
           (G5 N f (d.g x6.toNat)).bind fun o=>
           R6 N (fun s (c:Int)=>
            if (decide (c<(y6.1.n:Int))) then
             if (((((((((0:Int)<=c/\c<(y6.1.n:Int))/\c.toNat<y6.1.n)/\((0:Int)<=(y6.1.g c.toNat)/\(y6.1.g c.toNat)<(m.n:Int)))/\(y6.1.g c.toNat).toNat<m.n)/\((0:Int)<=c/\c<(y7.1.n:Int)))/\c.toNat<y7.1.n)/\((0:Int)<=(y7.1.g c.toNat)/\(y7.1.g c.toNat)<(o.n:Int)))/\(y7.1.g c.toNat).toNat<o.n)then
              lt (fun (z9:Bool)=>
               if z9 then
                some (false,0)
               else
                s (wrap .i64 (c+1))
               ) fun k9=>
               if ((m.g (y6.1.g c.toNat).toNat).e != (o.g (y7.1.g c.toNat).toNat).e) then
                k9 true
               else
                (N7 N (m.g (y6.1.g c.toNat).toNat).w (o.g (y7.1.g c.toNat).toNat).w).bind fun u=>
                k9 (!u)
             else none
            else
             r (wrap .i64 (x6+1))
            ) 0
          else none
         else
          some (true,0)
         ) 0
      ) 0
  )=some y,fun t=>t=⟨[(28,pN 2),(27,.p (.agg [vSl 2 D2 j.Tree,vSl 18 B2 j.Laws,vSl 1 (cL 1 (cI .i64)) j.On,vSl 2 D2 f.Tree,vSl 18 B2 f.Laws,vSl 1 (cL 1 (cI .i64)) f.On])),(4,.p (.ptr (A2 f))),(3,.p (.ptr (A2 j))),(2,.p (vSl 1 (cL 2 A0) d))],[]⟩/\(
   if (decide (256<(d.n:Int))) then
    some (false,12)
   else
    R6 N (fun q (x1:Int)=>
     if (decide (x1<(d.n:Int))) then
      if ((0:Int)<=x1/\x1<(d.n:Int))then
       (K3 N (d.g x1.toNat)).bind fun y5=>
       if (y5 != 0) then
        some (false,y5)
       else
        q (wrap .i64 (x1+1))
      else none
     else
      (G4 N j.Tree).bind fun y6=>
      (G4 N f.Tree).bind fun y7=>
      if ((y6.1.n:Int) != (y7.1.n:Int)) then
       some (false,2)
      else
       R6 N (fun r (x6:Int)=>
        if (decide (x6<(d.n:Int))) then
         if ((0:Int)<=x6/\x6<(d.n:Int))then
          (G5 N j (d.g x6.toNat)).bind fun m=>
          (G5 N f (d.g x6.toNat)).bind fun o=>
          R6 N (fun s (c:Int)=>
           if (decide (c<(y6.1.n:Int))) then
            if (((((((((0:Int)<=c/\c<(y6.1.n:Int))/\c.toNat<y6.1.n)/\((0:Int)<=(y6.1.g c.toNat)/\(y6.1.g c.toNat)<(m.n:Int)))/\(y6.1.g c.toNat).toNat<m.n)/\((0:Int)<=c/\c<(y7.1.n:Int)))/\c.toNat<y7.1.n)/\((0:Int)<=(y7.1.g c.toNat)/\(y7.1.g c.toNat)<(o.n:Int)))/\(y7.1.g c.toNat).toNat<o.n)then
             lt (fun (z9:Bool)=>
              if z9 then
               some (false,0)
              else
               s (wrap .i64 (c+1))
              ) fun k9=>
              if ((m.g (y6.1.g c.toNat).toNat).e != (o.g (y7.1.g c.toNat).toNat).e) then
               k9 true
              else
               (N7 N (m.g (y6.1.g c.toNat).toNat).w (o.g (y7.1.g c.toNat).toNat).w).bind fun u=>
               k9 (!u)
            else none
           else
            r (wrap .i64 (x6+1))
           ) 0
         else none
        else
         some (true,0)
        ) 0
     ) 0
  )=some y]) ⟨[(28,pN 0),(27,.p (.agg [vSl 2 D2 j.Tree,vSl 18 B2 j.Laws,vSl 1 (cL 1 (cI .i64)) j.On,vSl 2 D2 f.Tree,vSl 18 B2 f.Laws,vSl 1 (cL 1 (cI .i64)) f.On])),(4,.p (.ptr (A2 f))),(3,.p (.ptr (A2 j))),(2,.p (vSl 1 (cL 2 A0) d))],[]⟩ (ids:=[]) ⟨rfl,h⟩ (fun _ _ _ _ i _ t hi ht a0=>?_)
 rcases i with _|_|_|i
 ·obtain⟨rfl,h⟩:=ht;refine D0 hS trivial (b:=decide ((0:Int)<2)) (fun c80=>?_) (fun c80=>?_)
  ·refine H3 hS (And.intro (by decide:(3:Nat)<=6) (by decide:(0:Int)<=0/\(0:Int)<2)) 31 10000 (A2 j) ?_;obtain⟨z,e33,h⟩:=B7 h;refine B9 hS [] (by decide:(3:Nat)<=3) (S3 hS hL e33) ?_;refine kI hS h ?_ ?_<;>intro h
   ·cases h;exact kR hS
   ·exact a0 _ [] _ _ trivial rfl ⟨rfl,h⟩
  ·exact Bool.noConfusion ((by decide:decide ((0:Int)<2)=true).symm.trans c80)
 ·obtain⟨rfl,h⟩:=ht;refine D0 hS trivial (b:=decide ((1:Int)<2)) (fun c78=>?_) (fun c78=>?_)
  ·refine H3 hS (And.intro (by decide:(3:Nat)<=3) (by decide:(0:Int)<=1/\(1:Int)<2)) 31 10000 (A2 f) ?_;obtain⟨v,e32,h⟩:=B7 h;refine B9 hS [] (by decide:(3:Nat)<=3) (S3 hS hL e32) ?_;refine kI hS h ?_ ?_<;>intro h
   ·cases h;exact kR hS
   ·exact a0 _ [] _ _ trivial rfl ⟨rfl,h⟩
  ·exact Bool.noConfusion ((by decide:decide ((1:Int)<2)=true).symm.trans c78)
 ·obtain⟨rfl,h⟩:=ht;refine D0 hS trivial (b:=decide ((2:Int)<2)) (fun c6=>?_) (fun c6=>?_)
  ·exact Bool.noConfusion ((by decide:decide ((2:Int)<2)=false).symm.trans c6)
  ·refine kI hS h ?_ ?_<;>intro h
   ·cases h;exact kR hS
   ·refine I4 hS trivial h (fun x1=>⟨[(42,pN x1),(41,pN (d.n:Int)),(40,.p (vSl 1 (cL 2 A0) d)),(4,.p (.ptr (A2 f))),(3,.p (.ptr (A2 j))),(2,.p (vSl 1 (cL 2 A0) d))],[]⟩) (ids:=[]) (fun _ _ _ _ _ q x1 a3 h=>?_);refine kI hS h ?_ ?_<;>intro h
    ·obtain⟨c15,h⟩:=D3 h;obtain⟨y5,e5,h⟩:=B7 h;refine B9 hS [] c15 (Dk hS hL e5) ?_;refine kI hS h ?_ ?_<;>intro h
     ·cases h;exact kR hS
     ·exact a3 _ [] _ (wrap .i64 (x1+1)) trivial h
    ·refine kC hS h (EQ hS hL) (fun y6 h=>?_);refine kC hS h (EQ hS hL) (fun y7 h=>?_);refine kI hS h ?_ ?_<;>intro h
     ·cases h;exact kR hS
     ·refine I4 hS trivial h (fun x6=>⟨[(71,pN x6),(70,pN (d.n:Int)),(69,.p (vSl 1 (cL 2 A0) d)),(16,.vec 62000),(14,.vec 56000),(4,.p (.ptr (A2 f))),(3,.p (.ptr (A2 j)))],[(62000,.vec B6 1 y7.1.n (fun i=>cI .i64 (y7.1.g i)) true),(56000,.vec B6 1 y6.1.n (fun i=>cI .i64 (y6.1.g i)) true)]⟩) (ids:=[(56000,56000),(62000,62000)]) (fun _ _ _ _ _ r x6 a1 h=>?_);refine kI hS h ?_ ?_<;>intro h
      ·obtain⟨c59,h⟩:=D3 h;refine P3 hS c59 [(0,.n),(3,.n)] ?_;obtain⟨m,e24,h⟩:=B7 h;refine HO [] (by decide:(3:Nat)<=3) (ET hS hL e24) ?_;obtain⟨o,e25,h⟩:=B7 h;refine HO [] (by decide:(3:Nat)<=3) (ET hS hL e25) ?_;refine I7 trivial ?_;refine I4 hS trivial h (fun c=>⟨[(83,pN c),(82,pN (y6.1.n:Int)),(71,pN x6),(70,pN (d.n:Int)),(69,.p (vSl 1 (cL 2 A0) d)),(21,.vec 81000),(20,.vec 78000),(16,.vec 62000),(14,.vec 56000),(4,.p (.ptr (A2 f))),(3,.p (.ptr (A2 j)))],[(81000,.vec F5 2 o.n (fun i=>J2 (o.g i)) true),(78000,.vec F5 2 m.n (fun i=>J2 (m.g i)) true),(62000,.vec B6 1 y7.1.n (fun i=>cI .i64 (y7.1.g i)) true),(56000,.vec B6 1 y6.1.n (fun i=>cI .i64 (y6.1.g i)) true)]⟩) (ids:=[(56000,56000),(62000,62000),(78000,78000),(81000,81000)]) (fun _ _ _ _ _ s c a2 h=>?_);refine kI hS h ?_ ?_<;>intro h
       ·refine P3 hS trivial [(3,.l [56000]),(4,.l [56000]),(5,.l [78000]),(6,.l [78000]),(10,.l [62000]),(11,.l [62000]),(12,.l [81000]),(13,.l [81000]),(14,.a [24000]),(15,.a [25000]),(16,.a [24000]),(17,.a [25000])] ?_;obtain⟨c73,h⟩:=D3 h;refine I7 (And.intro (And.intro (And.intro (And.intro (And.intro (And.intro (And.intro (And.intro (And.intro c73.1.1.1.1.1.1.1 c73.1.1.1.1.1.1.2) c73.1.1.1.1.1.2) (by decide:(2:Nat)<=2)) c73.1.1.1.1.2) c73.1.1.1.2) c73.1.1.2) c73.1.2) (by decide:(2:Nat)<=2)) c73.2) ?_;refine H3 hS trivial 100 24000 [vSl 2 A0 (m.g (y6.1.g c.toNat).toNat).w,pI .i64 (m.g (y6.1.g c.toNat).toNat).e] ?_;refine H3 hS trivial 100 25000 [vSl 2 A0 (o.g (y7.1.g c.toNat).toNat).w,pI .i64 (o.g (y7.1.g c.toNat).toNat).e] ?_;refine Fy hS trivial (A7 hS) h 0 (fun z9=>⟨[(112,pB z9),(83,pN c),(82,pN (y6.1.n:Int)),(71,pN x6),(70,pN (d.n:Int)),(69,.p (vSl 1 (cL 2 A0) d)),(21,.vec 81000),(20,.vec 78000),(16,.vec 62000),(14,.vec 56000),(4,.p (.ptr (A2 f))),(3,.p (.ptr (A2 j)))],[(81000,.vec F5 2 o.n (fun i=>J2 (o.g i)) true),(78000,.vec F5 2 m.n (fun i=>J2 (m.g i)) true),(62000,.vec B6 1 y7.1.n (fun i=>cI .i64 (y7.1.g i)) true),(56000,.vec B6 1 y6.1.n (fun i=>cI .i64 (y6.1.g i)) true)]⟩) (fun M9 k9 x h=>?_) (fun z9 h=>?_)
        ·refine kG hS h (fun h=>?_) (fun h=>?_)
         ·exact x _ [(56000,56000),(62000,62000),(78000,78000),(81000,81000)] _ true trivial h
         ·refine kC hS h (SN hS hL) (fun u h=>?_);exact x _ [(56000,56000),(62000,62000),(78000,78000),(81000,81000)] _ (!u) trivial h
        ·refine kI hS h ?_ ?_<;>intro h
         ·cases h;exact kR hS
         ·exact a2 _ [(56000,56000),(62000,62000),(78000,78000),(81000,81000)] _ (wrap .i64 (c+1)) trivial h
       ·exact a1 _ [(56000,56000),(62000,62000)] _ (wrap .i64 (x6+1)) trivial h
      ·cases h;exact kR hS
 ·exact absurd hi (by omega)
def U5 (N:Nat)(c:A8)(d:A8)(b:Sl (Sl Sound)):Option (Bool×Int):=
 (Q5 N c).bind fun y1=>
 if (y1 != 0) then
  some (false,y1)
 else
  (Q5 N d).bind fun y2=>
  if (y2 != 0) then
   some (false,y2)
  else
   if (decide (256<(b.n:Int))) then
    some (false,12)
   else
    R6 N (fun f (x1:Int)=>
     if (decide (x1<(b.n:Int))) then
      if ((0:Int)<=x1/\x1<(b.n:Int))then
       (W5 N (b.g x1.toNat)).bind fun y5=>
       if (y5 != 0) then
        some (false,y5)
       else
        f (wrap .i64 (x1+1))
      else none
     else
      (AO N c.Tree).bind fun y6=>
      (AO N d.Tree).bind fun y7=>
      if ((y6.1.n:Int) != (y7.1.n:Int)) then
       some (false,2)
      else
       R6 N (fun i (x6:Int)=>
        if (decide (x6<(b.n:Int))) then
         R6 N (fun j (a:Int)=>
          if (decide (a<(y6.1.n:Int))) then
           if ((((0:Int)<=x6/\x6<(b.n:Int))/\((0:Int)<=a/\a<(y6.1.n:Int)))/\a.toNat<y6.1.n)then
            (Dn N c (b.g x6.toNat) (y6.1.g a.toNat)).bind fun l=>
            if ((((0:Int)<=x6/\x6<(b.n:Int))/\((0:Int)<=a/\a<(y7.1.n:Int)))/\a.toNat<y7.1.n)then
             (Dn N d (b.g x6.toNat) (y7.1.g a.toNat)).bind fun m=>
             lt (fun (z9:Bool)=>
              if z9 then
               some (false,0)
              else
               j (wrap .i64 (a+1))
              ) fun k9=>
              if (l.2 != m.2) then
               k9 true
              else
               (T5 N l.1 m.1).bind fun o=>
               k9 (!o)
            else none
           else none
          else
           i (wrap .i64 (x6+1))
          ) 0
        else
         some (true,0)
        ) 0
     ) 0
theorem YA {N:Nat}{a:A8}{b:A8}{c:Sl (Sl Sound)}{y:Bool×Int}(h:U5 N a b c=some y) :FunO S Oi [.p (.agg (A2 a)),.p (.agg (A2 b)),.p (vSl 1 (cL 2 A0) c)] [] (.tup [pB y.1,pN y.2]) ([]) []:=by
 unfold U5 at h;refine A3 hS Tryz.func24 ?_;refine H3 hS trivial 4 4000 (A2 a) ?_;refine H3 hS trivial 6 5000 (A2 b) ?_;obtain⟨y1,e1,h⟩:=B7 h;refine B9 hS [] (by decide:(3:Nat)<=3) (EO hS hL e1) ?_;refine kI hS h ?_ ?_<;>intro h
 ·cases h;exact kR hS
 ·obtain⟨y2,e2,h⟩:=B7 h;refine B9 hS [] (by decide:(3:Nat)<=3) (EO hS hL e2) ?_;refine kI hS h ?_ ?_<;>intro h
  ·cases h;exact kR hS
  ·refine kI hS h ?_ ?_<;>intro h
   ·cases h;exact kR hS
   ·refine I4 hS trivial h (fun x1=>⟨[(10,pN x1),(4,.p (.ptr (A2 b))),(3,.p (.ptr (A2 a))),(2,.p (vSl 1 (cL 2 A0) c))],[]⟩) (ids:=[]) (fun _ _ _ _ _ m x1 o h=>?_);refine kI hS h ?_ ?_<;>intro h
    ·obtain⟨c11,h⟩:=D3 h;obtain⟨y5,e5,h⟩:=B7 h;refine B9 hS [] c11 (EJ hS hL e5) ?_;refine kI hS h ?_ ?_<;>intro h
     ·cases h;exact kR hS
     ·exact o _ [] _ (wrap .i64 (x1+1)) trivial h
    ·refine kC hS h (JT hS hL) (fun y6 h=>?_);refine kC hS h (JT hS hL) (fun y7 h=>?_);refine kI hS h ?_ ?_<;>intro h
     ·cases h;exact kR hS
     ·refine I4 hS trivial h (fun x6=>⟨[(16,pN x6),(14,.vec 59000),(12,.vec 53000),(4,.p (.ptr (A2 b))),(3,.p (.ptr (A2 a))),(2,.p (vSl 1 (cL 2 A0) c))],[(59000,.vec B6 1 y7.1.n (fun i=>cI .i64 (y7.1.g i)) true),(53000,.vec B6 1 y6.1.n (fun i=>cI .i64 (y6.1.g i)) true)]⟩) (ids:=[(53000,53000),(59000,59000)]) (fun _ _ _ _ _ q x6 j h=>?_);refine kI hS h ?_ ?_<;>intro h
      ·refine I4 hS trivial h (fun d=>⟨[(17,pN d),(16,pN x6),(14,.vec 59000),(12,.vec 53000),(4,.p (.ptr (A2 b))),(3,.p (.ptr (A2 a))),(2,.p (vSl 1 (cL 2 A0) c))],[(59000,.vec B6 1 y7.1.n (fun i=>cI .i64 (y7.1.g i)) true),(53000,.vec B6 1 y6.1.n (fun i=>cI .i64 (y6.1.g i)) true)]⟩) (ids:=[(53000,53000),(59000,59000)]) (fun _ _ _ _ _ r d l h=>?_);refine kI hS h ?_ ?_<;>intro h
       ·refine D4 hS trivial [0,3,4,9] ?_;obtain⟨c74,h⟩:=D3 h;obtain⟨t,e40,h⟩:=B7 h;refine R5 (And.intro (And.intro (And.intro (by decide:(3:Nat)<=3) c74.1.1) c74.1.2) c74.2) (WF hS hL e40) ?_;refine I7 trivial ?_;refine D4 hS trivial [0,3,4,9] ?_;obtain⟨c75,h⟩:=D3 h;obtain⟨u,e41,h⟩:=B7 h;refine R5 (And.intro (And.intro (And.intro (by decide:(3:Nat)<=3) c75.1.1) c75.1.2) c75.2) (WF hS hL e41) ?_;refine I7 trivial ?_;refine Fy hS trivial (A7 hS) h 0 (fun z9=>⟨[(112,pB z9),(17,pN d),(16,pN x6),(14,.vec 59000),(12,.vec 53000),(4,.p (.ptr (A2 b))),(3,.p (.ptr (A2 a))),(2,.p (vSl 1 (cL 2 A0) c))],[(59000,.vec B6 1 y7.1.n (fun i=>cI .i64 (y7.1.g i)) true),(53000,.vec B6 1 y6.1.n (fun i=>cI .i64 (y6.1.g i)) true)]⟩) (fun M9 k9 f h=>?_) (fun z9 h=>?_)
        ·refine kG hS h (fun h=>?_) (fun h=>?_)
         ·exact f _ [(53000,53000),(59000,59000)] _ true trivial h
         ·refine kC hS h (EK hS hL) (fun s h=>?_);exact f _ [(53000,53000),(59000,59000)] _ (!s) trivial h
        ·refine kI hS h ?_ ?_<;>intro h
         ·cases h;exact kR hS
         ·exact l _ [(53000,53000),(59000,59000)] _ (wrap .i64 (d+1)) trivial h
       ·exact j _ [(53000,53000),(59000,59000)] _ (wrap .i64 (x6+1)) trivial h
      ·cases h;exact kR hS
end Go.AM
namespace Go.AM
open IntKind (wrap)
open Go.Proofs
set_option maxRecDepth 10000
set_option maxHeartbeats 2000000
variable {S:Ay}(hS:H2 S Tryz.prog) (hL:OF S)
theorem AM5 {T:Type}{e:TypeId}{k:Nat}{c:T->List PV}{X:Sl (Sl T)}{z:Sl T}:∀q,q<X.n+1->(fun q=>if q=X.n then FZ e k c z else FZ e k c (X.g q)) q=(fun q=>FZ e k c ((X.push z).g q)) q:=fun q a=>by
 show (if q=X.n then FZ e k c z else FZ e k c (X.g q))=FZ e k c (if q<X.n then X.g q else z);by_cases h:q=X.n
 ·rw[if_pos h,if_neg (by omega)]
 ·rw[if_neg h,if_pos (by omega)]
theorem AC5 {T:Type}{e:TypeId}{k n i:Nat}{c:T->List PV}{X:Sl (Sl T)}{z:Sl T}:∀q,q<n->(TF (if q=i then FZ e k c z else if q=i then Obj.dead else FZ e k c (X.g q))).isSome=true:=fun q _=>by
 by_cases h:q=i
 ·rw[if_pos h];rfl
 ·rw[if_neg h,if_neg h];rfl
theorem AM6 {T:Type}{e:TypeId}{k n i:Nat}{c:T->List PV}{X:Sl (Sl T)}{z:Sl T}:∀q,q<n->[(TF (if q=i then FZ e k c z else if q=i then Obj.dead else FZ e k c (X.g q))).getD default]=cL k c ((X.upd i z).g q):=fun q _=>by
 show _=cL k c (if q=i then z else X.g q);by_cases h:q=i
 ·rw[if_pos h,if_pos h];rfl
 ·rw[if_neg h,if_neg h,if_neg h];rfl
include hS hL
def I3 (N:Nat)(s:Sl G7):Option (Sl G7):=if (0+s.n)*24<=140737488355328/\0+s.n<=140737488355328 then some s else none
theorem AG {N:Nat}{s y:Sl G7}(h:I3 N s=some y):FunO S O0 [.p (vSl 2 D2 s)] [] (.vec 0) [.vec O9 2 y.n (fun i=>D2 (y.g i)) true] []:=by
 unfold I3 at h;obtain⟨c1,h⟩:=D3 h;obtain rfl:=B8 h;refine A3 hS Tryz.func72 ?_;refine Aa1 hS trivial 3 (k:=2) (n:=s.n) (f:=fun i=>D2 (s.g i)) (fun a=>?_) ?_
 ·obtain⟨n,g⟩:=s;obtain rfl:n=0:=a;exact A9 hS trivial ⟨[(2,.vec 3700)],[(3700,.vec O9 2 0 (fun i=>D2 (g i)) true)]⟩ [3700] (ids:=[]) ⟨rfl,rfl,rfl⟩
 ·exact A9 hS (And.intro (rfl:true=true) c1) ⟨[(2,.vec 8000)],[(8000,.vec O9 2 s.n (fun i=>D2 (s.g i)) true)]⟩ [8000] (ids:=[(8000,8000)]) ⟨rfl,rfl,rfl⟩
   (hle:=klR [(0,.fn (0+s.n) s.n (Q0 0 (D5 [pI .i64 0,.str []] []) (fun i=>D2 (s.g i))) (fun i=>D2 (s.g i)))] (al1 ⟨AS4 _,fun i _=>by simp[Q0]⟩ al0))
def Q8 (N:Nat)(s:Sl Int):Option (Sl Int):=if (0+s.n)*8<=140737488355328/\0+s.n<=140737488355328 then some s else none
theorem DE {N:Nat}{s y:Sl Int}(h:Q8 N s=some y):FunO S Ai [.p (vSl 1 (cI .i64) s)] [] (.vec 0) [.vec B6 1 y.n (fun i=>cI .i64 (y.g i)) false] []:=by
 unfold Q8 at h;obtain⟨c1,h⟩:=D3 h;obtain rfl:=B8 h;refine A3 hS Tryz.func74 ?_;refine Aa1 hS trivial 3 (k:=1) (n:=s.n) (f:=fun i=>cI .i64 (s.g i)) (fun a=>?_) ?_
 ·obtain⟨n,g⟩:=s;obtain rfl:n=0:=a;exact A9 hS trivial ⟨[(2,.vec 3700)],[(3700,.vec B6 1 0 (fun i=>cI .i64 (g i)) false)]⟩ [3700] (ids:=[]) ⟨rfl,rfl,rfl⟩
 ·exact A9 hS (And.intro (rfl:true=true) c1) ⟨[(2,.vec 8000)],[(8000,.vec B6 1 s.n (fun i=>cI .i64 (s.g i)) false)]⟩ [8000] (ids:=[(8000,8000)]) ⟨rfl,rfl,rfl⟩
   (hle:=klR [(0,.fn (0+s.n) s.n (Q0 0 (D5 [pI .i64 0] []) (fun i=>cI .i64 (s.g i))) (fun i=>cI .i64 (s.g i)))] (al1 ⟨AS4 _,fun i _=>by simp[Q0]⟩ al0))
def DF (N:Nat)(c:A8)(b:Int)(a:Int):Option (A8×Int):=
 (E3 N c).bind fun y1=>
 if (y1 != 0) then
  some ((⟨(Sl.nil:Sl G7),(Sl.nil:Sl Law),(Sl.nil:Sl (Sl Int))⟩:A8),y1)
 else
  (J8 N c b).bind fun y2=>
  if ((!y2)=false->((decide (a<0))=false->((0:Int)<=b/\b<(c.On.n:Int))))then
   if (((!y2)||(decide (a<0)))||(decide ((wrap .i64 (((c.On.g b.toNat).n:Int)-1))<=a))) then
    some ((⟨(Sl.nil:Sl G7),(Sl.nil:Sl Law),(Sl.nil:Sl (Sl Int))⟩:A8),3)
   else
    (I3 N c.Tree).bind fun y3=>
    Q2 N (fun d (x1:Sl Law) (x2:Int)=>
     if (decide (x2<(c.Laws.n:Int))) then
      if ((0:Int)<=x2/\x2<(c.Laws.n:Int))then
       (P2 N (c.Laws.g x2.toNat)).bind fun y6=>
       if ((x1.n+(Sl.of [y6]:Sl Law).n)*200<=140737488355328/\x1.n+(Sl.of [y6]:Sl Law).n<=140737488355328)then
        d (x1.push y6) (wrap .i64 (x2+1))
       else none
      else none
     else
      Q2 N (fun f (x3:Sl (Sl Int)) (x4:Int)=>
       if (decide (x4<(c.On.n:Int))) then
        if ((0:Int)<=x4/\x4<(c.On.n:Int))then
         (Q8 N (c.On.g x4.toNat)).bind fun y9=>
         if ((x3.n+(Sl.of [y9]:Sl (Sl Int)).n)*24<=140737488355328/\x3.n+(Sl.of [y9]:Sl (Sl Int)).n<=140737488355328)then
          f (x3.push y9) (wrap .i64 (x4+1))
         else none
        else none
       else if b.toNat<x3.n then
        if (((0:Int)<=b/\b<(x3.n:Int))/\((0:Int)<=a/\a<((x3.g b.toNat).n:Int))/\((0:Int)<=(wrap .i64 (a+1))/\(wrap .i64 (a+1))<((x3.g b.toNat).n:Int)))then
         some ((⟨y3,x1,x3.upd b.toNat (((x3.g b.toNat).upd a.toNat ((x3.g b.toNat).g (wrap .i64 (a+1)).toNat)).upd (wrap .i64 (a+1)).toNat ((x3.g b.toNat).g a.toNat))⟩:A8),0)
        else none
       else none
       ) (Sl.nil:Sl (Sl Int)) 0
     ) (Sl.nil:Sl Law) 0
  else none
theorem Nw {N:Nat}{j:A8}{f:Int}{d:Int}{y:A8×Int}(h:DF N j f d=some y) :FunO S GH [.p (.agg (A2 j)),pN f,pN d] [] (.tup [.p (.agg (A2 y.1)),pN y.2]) ([]) []:=by
 unfold DF at h;refine A3 hS Tryz.func27 ?_;refine H3 hS trivial 6 4000 (A2 j) ?_;obtain⟨y1,e1,h⟩:=B7 h;refine B9 hS [] (by decide:(3:Nat)<=3) (S3 hS hL e1) ?_;refine kI hS h ?_ ?_<;>intro h
 ·obtain rfl:=B8 h;exact A9 hS trivial ⟨[(7,pN y1),(6,.reg 7000 0)],[(7000,.cells [.p (vSl 2 D2 (Sl.nil:Sl G7)),.p (vSl 18 B2 (Sl.nil:Sl Law)),.p (vSl 1 (cL 1 (cI .i64)) (Sl.nil:Sl (Sl Int)))])]⟩ [] (ids:=[(7000,7000)]) ⟨rfl,rfl,rfl⟩
 ·obtain⟨y2,e2,h⟩:=B7 h;refine B9 hS [] (by decide:(3:Nat)<=3) (DA hS hL e2) ?_;obtain⟨c2,h⟩:=D3 h;refine kB hS (A7 hS) trivial c2 14 (.o (.o (.a (!y2)) (.a (decide (d<0)))) (.a (decide ((wrap .i64 (((j.On.g f.toNat).n:Int)-1))<=d)))) ?_;refine kI hS h ?_ ?_<;>intro h
  ·obtain rfl:=B8 h;exact A9 hS trivial ⟨[(7,pN 3),(6,.reg 7000 0)],[(7000,.cells [.p (vSl 2 D2 (Sl.nil:Sl G7)),.p (vSl 18 B2 (Sl.nil:Sl Law)),.p (vSl 1 (cL 1 (cI .i64)) (Sl.nil:Sl (Sl Int)))])]⟩ [] (ids:=[(7000,7000)]) ⟨rfl,rfl,rfl⟩
  ·refine kC hS h (AG hS hL) (fun y3 h=>?_);refine F9 hS trivial h (fun x1 x2=>⟨[(48,pN x2),(47,pN (j.Laws.n:Int)),(46,.p (vSl 18 B2 j.Laws)),(9,.reg 10000 0),(6,.reg 7000 0),(3,.p (.ptr (A2 j))),(2,pN d),(1,pN f)],[(44000,.vec O9 2 y3.n (fun i=>D2 (y3.g i)) true),(10500,.vec W3 18 x1.n (fun i=>B2 (x1.g i)) false),(10000,.cells [.vec 44000,.vec 10500,.p F8]),(7000,.cells [.p F8,.p F8,.p F8])]⟩) (ids:=[(7000,7000),(10000,10000),(44000,44000)]) (fun _ _ _ _ _ m x1 x2 r h=>?_);refine kI hS h ?_ ?_<;>intro h
   ·obtain⟨c11,h⟩:=D3 h;refine AA9 hS (And.intro c11 (by decide:(18:Nat)<=18)) 12000 (B2 (j.Laws.g x2.toNat)) ?_;refine D4 hS trivial [2,3] ?_;obtain⟨y6,e6,h⟩:=B7 h;refine R5 (by decide:(18:Nat)<=18) (Fl hS hL e6) ?_;refine Ey trivial (x:=.sl true 18 1 (D5 [.str [],pI .i64 0,pI .u32 0,pI .u32 0,.v (.bool false),pI .i64 0,pI .i64 0,F8,pI .i64 0,pI .u32 0,pI .u32 0,.v (.bool false),pI .i64 0,pI .i64 0,F8,F8,F8,pI .i64 0] [(0,B2 y6)])) ?_;obtain⟨c12,h⟩:=D3 h;refine I7 c12 ?_;exact r _ [(7000,7000),(10000,10000),(10500,58000),(44000,44000)] _ (x1.push y6) (wrap .i64 (x2+1)) trivial h (hle:=klR [(7,.fn (x1.n+1) (x1.push y6).n (Q0 x1.n (fun i=>B2 (x1.g i)) (D5 [.str [],pI .i64 0,pI .u32 0,pI .u32 0,.v (.bool false),pI .i64 0,pI .i64 0,F8,pI .i64 0,pI .u32 0,pI .u32 0,.v (.bool false),pI .i64 0,pI .i64 0,F8,F8,F8,pI .i64 0] [(0,B2 y6)])) (fun i=>B2 ((x1.push y6).g i)))] (al1 ⟨rfl,Et (c:=B2) (v:=x1) (x:=y6) (z:=[(.str []),pI .i64 0,pI .u32 0,pI .u32 0,.v (.bool false),pI .i64 0,pI .i64 0,F8,pI .i64 0,pI .u32 0,pI .u32 0,.v (.bool false),pI .i64 0,pI .i64 0,F8,F8,F8,pI .i64 0]) same rfl rfl⟩ al0))
   ·refine I1 hS trivial 60 ⟨[(9,.reg 10000 0),(6,.reg 7000 0),(3,.p (.ptr (A2 j))),(2,pN d),(1,pN f)],[(44000,.vec O9 2 y3.n (fun i=>D2 (y3.g i)) true),(10501,.vec Gp 1 0 (fun _=>[]) false),(10500,.vec W3 18 x1.n (fun i=>B2 (x1.g i)) false),(10000,.cells [.vec 44000,.vec 10500,.vec 10501]),(7000,.cells [.p F8,.p F8,.p F8])]⟩ (ids:=[(7000,7000),(10000,10000),(10500,10500),(44000,44000)]) ?_;refine HQ hS trivial 60 (.fam 10501 10901 fun i=>FZ B6 1 (cI .i64) ((Sl.nil:Sl (Sl Int)).g i)) (⟨by decide,fun i u=>absurd u (AU0 i)⟩:1000<=10901/\∀i,i<0->VM ((fun _=>[]) i) (FZ B6 1 (cI .i64) ((Sl.nil:Sl (Sl Int)).g i))) ?_;refine F9 hS trivial h (fun x3 x4=>⟨[(63,pN x4),(62,pN (j.On.n:Int)),(61,.p (vSl 1 (cL 1 (cI .i64)) j.On)),(9,.reg 10000 0),(6,.reg 7000 0),(2,pN d),(1,pN f)],[(44000,.vec O9 2 y3.n (fun i=>D2 (y3.g i)) true),(10901,.rows x3.n fun i=>FZ B6 1 (cI .i64) (x3.g i)),(10501,.fam Gp x3.n 10901 none),(10500,.vec W3 18 x1.n (fun i=>B2 (x1.g i)) false),(10000,.cells [.vec 44000,.vec 10500,.vec 10501]),(7000,.cells [.p F8,.p F8,.p F8])]⟩) (ids:=[(7000,7000),(10000,10000),(10500,10500),(10501,10501),(10901,10901),(44000,44000)]) (fun _ _ _ _ _ s x3 x4 t h=>?_);refine kI hS h ?_ ?_<;>intro h
    ·obtain⟨c20,h⟩:=D3 h;refine P3 hS c20 [(1,.l [10000]),(3,.b [71000]),(4,.b [72000,71000])] ?_;obtain⟨y9,e9,h⟩:=B7 h;refine HO [] trivial (DE hS hL e9) ?_;obtain⟨c21,h⟩:=D3 h;refine I7 c21 ?_;refine HQ hS trivial 74 (.psh 73000 10902) (⟨by decide,rfl,rfl⟩:1000<=10902/\x3.n+1=x3.n+1/\x3.n=x3.n) ?_;exact t _ [(7000,7000),(10000,10000),(10500,10500),(10501,73000),(10901,10902),(44000,44000)] _ (x3.push y9) (wrap .i64 (x4+1)) trivial h (hle:=klR [(7,.ob (x3.n+1) (fun q=>if q=x3.n then FZ B6 1 (cI .i64) y9 else FZ B6 1 (cI .i64) (x3.g q)) (fun i=>FZ B6 1 (cI .i64) ((x3.push y9).g i)))] (al1 AM5 al0))
    ·obtain⟨cT,h⟩:=D3 h;obtain⟨⟨c30,c31,c32⟩,h⟩:=D3 h;refine HQ hS trivial 75 (.take 10501 f.toNat 10801) (⟨⟨by decide,rfl⟩,cT⟩:(1000<=10801/\x3.n=x3.n)/\f.toNat<x3.n) ?_;refine P3 hS (And.intro c30 (And.intro cT (rfl:f.toNat=f.toNat))) [(8,.l [10801]),(9,.l [10801]),(12,.l [10801]),(13,.l [10801]),(14,.l [10801]),(15,.a [10801]),(16,.l [10801]),(17,.a [10801])] ?_;have l1:(wrap .i64 (d+1)).toNat<(x3.g f.toNat).n:=by omega
     have l2:d.toNat<(x3.g f.toNat).n:=by omega
     refine I7 (And.intro (And.intro (And.intro (And.intro (And.intro (And.intro (And.intro c32 l1) c31) l2) c31) (And.intro (rfl:(1:Nat)=1) (And.intro l2 (by decide:(1:Nat)<=1)))) c32) (And.intro (rfl:(1:Nat)=1) (And.intro l1 (by decide:(1:Nat)<=1)))) ?_;refine I1 hS trivial 96 ⟨[(9,.reg 10000 0),(6,.reg 7000 0)],[(44000,.vec O9 2 y3.n (fun i=>D2 (y3.g i)) true),(10901,(.rows x3.n fun l=>if l=f.toNat then .dead else FZ B6 1 (cI .i64) (x3.g l))),(10801,FZ B6 1 (cI .i64) (((x3.g f.toNat).upd d.toNat ((x3.g f.toNat).g (wrap .i64 (d+1)).toNat)).upd (wrap .i64 (d+1)).toNat ((x3.g f.toNat).g d.toNat))),(10501,.fam Gp x3.n 10901 (some (f.toNat,.vec 10801))),(10500,.vec W3 18 x1.n (fun i=>B2 (x1.g i)) false),(10000,.cells [.vec 44000,.vec 10500,.vec 10501]),(7000,.cells [.p F8,.p F8,.p F8])]⟩ (ids:=[(7000,7000),(10000,10000),(10500,10500),(10501,10501),(10801,10801),(10901,10901),(44000,44000)]) ?_ (hle:=klR [(3,.fn (x3.g f.toNat).n (((x3.g f.toNat).upd d.toNat ((x3.g f.toNat).g (wrap .i64 (d+1)).toNat)).upd (wrap .i64 (d+1)).toNat ((x3.g f.toNat).g d.toNat)).n (fun l=>if l=(wrap .i64 (d+1)).toNat then splice ((fun l=>if l=d.toNat then splice ((fun i=>cI .i64 ((x3.g f.toNat).g i)) l) 0 [pI .i64 ((x3.g f.toNat).g (wrap .i64 (d+1)).toNat)]else (fun i=>cI .i64 ((x3.g f.toNat).g i)) l) l) 0 [pI .i64 ((x3.g f.toNat).g d.toNat)]else (fun l=>if l=d.toNat then splice ((fun i=>cI .i64 ((x3.g f.toNat).g i)) l) 0 [pI .i64 ((x3.g f.toNat).g (wrap .i64 (d+1)).toNat)]else (fun i=>cI .i64 ((x3.g f.toNat).g i)) l) l) (fun i=>cI .i64 ((((x3.g f.toNat).upd d.toNat ((x3.g f.toNat).g (wrap .i64 (d+1)).toNat)).upd (wrap .i64 (d+1)).toNat ((x3.g f.toNat).g d.toNat)).g i)))] (al1 ⟨rfl,XH (c:=cI .i64) (v:=(x3.g f.toNat).upd d.toNat ((x3.g f.toNat).g (wrap .i64 (d+1)).toNat)) (x:=(x3.g f.toNat).g d.toNat) (XH (c:=cI .i64) (v:=x3.g f.toNat) (x:=(x3.g f.toNat).g (wrap .i64 (d+1)).toNat) same (fun _=>by first|rfl|(dsimp only;split<;>rfl))) (fun _=>by first|rfl|(dsimp only;split<;>rfl))⟩ al0));refine HQ hS trivial 96 (.put 10501 10902) (⟨⟨by decide,rfl⟩,cT⟩:(1000<=10902/\x3.n=x3.n)/\f.toNat<x3.n) ?_;refine HQ hS trivial 96 (.pub 10501) (⟨rfl,AC5⟩:x3.n=x3.n/\∀q,q<x3.n->(TF (if q=f.toNat then FZ B6 1 (cI .i64) (((x3.g f.toNat).upd d.toNat ((x3.g f.toNat).g (wrap .i64 (d+1)).toNat)).upd (wrap .i64 (d+1)).toNat ((x3.g f.toNat).g d.toNat))else if q=f.toNat then Obj.dead else FZ B6 1 (cI .i64) (x3.g q))).isSome=true) ?_;obtain rfl:=B8 h;exact A9 hS trivial ⟨[(7,pN 0),(6,.reg 7000 0)],[(7000,.cells [.p (vSl 2 D2 y3),.p (vSl 18 B2 x1),.p (vSl 1 (cL 1 (cI .i64)) (x3.upd f.toNat (((x3.g f.toNat).upd d.toNat ((x3.g f.toNat).g (wrap .i64 (d+1)).toNat)).upd (wrap .i64 (d+1)).toNat ((x3.g f.toNat).g d.toNat))))])]⟩ [] (ids:=[(7000,7000)]) ⟨rfl,rfl,rfl⟩ (hle:=klR [(3,.fn x3.n (x3.upd f.toNat (((x3.g f.toNat).upd d.toNat ((x3.g f.toNat).g (wrap .i64 (d+1)).toNat)).upd (wrap .i64 (d+1)).toNat ((x3.g f.toNat).g d.toNat))).n (fun q=>[(TF (if q=f.toNat then FZ B6 1 (cI .i64) (((x3.g f.toNat).upd d.toNat ((x3.g f.toNat).g (wrap .i64 (d+1)).toNat)).upd (wrap .i64 (d+1)).toNat ((x3.g f.toNat).g d.toNat))else if q=f.toNat then Obj.dead else FZ B6 1 (cI .i64) (x3.g q))).getD default]) (fun i=>cL 1 (cI .i64) ((x3.upd f.toNat (((x3.g f.toNat).upd d.toNat ((x3.g f.toNat).g (wrap .i64 (d+1)).toNat)).upd (wrap .i64 (d+1)).toNat ((x3.g f.toNat).g d.toNat))).g i)))] (al1 ⟨rfl,AM6⟩ al0))
end Go.AM
namespace Go.AM
open Go.Proofs
set_option maxRecDepth 10000
set_option maxHeartbeats 2000000
variable {S:Ay}(hS:H2 S Tryz.prog) (hL:OF S)
include hS hL
end Go.AM
namespace Go.AM
open IntKind (wrap)
open Go.Proofs
set_option maxRecDepth 10000
set_option maxHeartbeats 2000000
variable {S:Ay}(hS:H2 S Tryz.prog) (hL:OF S)
include hS hL
def Q9 (N:Nat)  : Option Bool:=
 (ES N ).bind fun y1=>
 (DC N ).bind fun y2=>
 (Qy N ).bind fun y3=>
 (DC N ).bind fun y4=>
 (Q6 N y1 3).bind fun y5=>
 (T0 N y1 (Sl.of [y2,y3,y4]:Sl Sound) 3).bind fun y6=>
 (Cb N y1 (Sl.of [y2,y3,y4]:Sl Sound)).bind fun y7=>
 (CW N y1 1).bind fun y8=>
 (DF N y1 2 0).bind fun y9=>
 (T0 N y9.1 (Sl.of [y2,y3,y4]:Sl Sound) 2).bind fun a=>
 (H9 N y1 y9.1 (Sl.of [(Sl.of [y2,y3,y4]:Sl Sound)]:Sl (Sl Sound))).bind fun b=>
 lt (fun (z1:Bool)=>
  some z1
  ) fun k1=>
  if (y5.2==0) then
   if (y6.2==0) then
    if (y7.2==0) then
     if (y8.2==0) then
      if (y9.2==0) then
       if (a.2==0) then
        if (b.2==0) then
         (ER N y5.1 (Sl.of [0,1]:Sl Int)).bind fun c=>
         if c then
          (DC N ).bind fun d=>
          (Je N ).bind fun f=>
          (T5 N y6.1 (Sl.of [d,f]:Sl Sound)).bind fun g=>
          if g then
           (DC N ).bind fun i=>
           (Qy N ).bind fun j=>
           (DC N ).bind fun l=>
           (Je N ).bind fun m=>
           (DC N ).bind fun n=>
           (Je N ).bind fun o=>
           (DC N ).bind fun q=>
           (Hm N y7.1 (Sl.of [(Sl.of [i,j]:Sl Sound),(Sl.of [l,m]:Sl Sound),(Sl.of [n,o,q]:Sl Sound)]:Sl (Sl Sound))).bind fun r=>
           if r then
            (ER N y8.1 (Sl.of [2,3]:Sl Int)).bind fun s=>
            if s then
             (DC N ).bind fun t=>
             (Je N ).bind fun u=>
             (T5 N a.1 (Sl.of [t,u]:Sl Sound)).bind fun v=>
             if v then
              k1 (!b.1)
             else
              k1 false
            else
             k1 false
           else
            k1 false
          else
           k1 false
         else
          k1 false
        else
         k1 false
       else
        k1 false
      else
       k1 false
     else
      k1 false
    else
     k1 false
   else
    k1 false
  else
   k1 false
theorem Hn {N:Nat}    {y:Bool}(h:Q9 N  = some y) :FunO S Ll [] [] (pB y) ([]) []:=by
 unfold Q9 at h;refine A3 hS Tryz.func13 ?_;refine kC hS h (QA hS hL) (fun y1 h=>?_);refine kC hS h (Ga hS hL) (fun y2 h=>?_);refine kC hS h (Ac2 hS hL) (fun y3 h=>?_);refine kC hS h (Ga hS hL) (fun y4 h=>?_);obtain⟨y5,e5,h⟩:=B7 h;refine B9 hS [] (rfl:true=true) (Nu hS hL e5) ?_;refine Df hS trivial ⟨[(29,.vec 22000),(28,.p (.agg (A2 y1))),(4,pN y5.2),(3,.vec 25000),(2,.vec 22000),(1,.reg 2000 0)],[(25000,.vec B6 1 y5.1.n (fun i=>cI .i64 (y5.1.g i)) true),(22000,.vec B0 2 (Sl.of [y2,y3,y4]:Sl Sound).n (fun i=>A0 ((Sl.of [y2,y3,y4]:Sl Sound).g i)) false),(2000,.cells ((A2 y1).map .p))]⟩ (ids:=[(2000,2000),(22000,22000),(25000,25000)]) ?_ (hle:=klR [(3,.fn 3 (Sl.of [y2,y3,y4]:Sl Sound).n (D5 [pI .u32 0,pI .u32 0] [(0,A0 y2),(1,A0 y3),(2,A0 y4)]) (fun i=>A0 ((Sl.of [y2,y3,y4]:Sl Sound).g i)))] (al1 ⟨rfl,(fun i a=>match i,a with|0,_=>rfl|1,_=>rfl|2,_=>rfl|_+3,a=>absurd a (by omega))⟩ al0));refine kC hS h (JS hS hL) (fun y6 h=>?_);refine kC hS h (Kh hS hL) (fun y7 h=>?_);refine kC hS h (Mt hS hL) (fun y8 h=>?_);refine kC hS h (Nw hS hL) (fun y9 h=>?_);refine kC hS h (JS hS hL) (fun q h=>?_);refine Df hS (rfl:true=true) ⟨[(59,.vec 60000),(57,.p (.agg (A2 y9.1))),(56,.p (.agg (A2 y1))),(14,pN q.2),(13,.p (vSl 2 A0 q.1)),(12,pN y9.2),(10,pN y8.2),(9,.vec 42000),(8,pN y7.2),(7,.vec 37000),(6,pN y6.2),(5,.p (vSl 2 A0 y6.1)),(4,pN y5.2),(3,.vec 25000)],[(60000,.vec A4 1 (Sl.of [(Sl.of [y2,y3,y4]:Sl Sound)]:Sl (Sl Sound)).n (fun i=>cL 2 A0 ((Sl.of [(Sl.of [y2,y3,y4]:Sl Sound)]:Sl (Sl Sound)).g i)) false),(42000,.vec B6 1 y8.1.n (fun i=>cI .i64 (y8.1.g i)) true),(37000,.vec A4 1 y7.1.n (fun i=>cL 2 A0 (y7.1.g i)) true),(25000,.vec B6 1 y5.1.n (fun i=>cI .i64 (y5.1.g i)) true)]⟩ (ids:=[(25000,25000),(37000,37000),(42000,42000),(60000,60000)]) ?_ (hle:=klR [(10,.fn 1 (Sl.of [(Sl.of [y2,y3,y4]:Sl Sound)]:Sl (Sl Sound)).n (D5 [F8] [(0,cL 2 A0 (Sl.of [y2,y3,y4]:Sl Sound))]) (fun i=>cL 2 A0 ((Sl.of [(Sl.of [y2,y3,y4]:Sl Sound)]:Sl (Sl Sound)).g i)))] (al1 ⟨rfl,(fun i a=>match i,a with|0,_=>rfl|_+1,a=>absurd a (by omega))⟩ al0));refine kC hS h (GV hS hL) (fun r h=>?_);refine Fy hS trivial (A7 hS) h 0 (fun z1=>⟨[(0,pB z1)],[]⟩) (fun M1 k1 b h=>?_) (fun z1 h=>?_)
 ·refine kG hS h (fun h=>?_) (fun h=>?_)
  ·refine kG hS h (fun h=>?_) (fun h=>?_)
   ·refine kG hS h (fun h=>?_) (fun h=>?_)
    ·refine kG hS h (fun h=>?_) (fun h=>?_)
     ·refine kG hS h (fun h=>?_) (fun h=>?_)
      ·refine kG hS h (fun h=>?_) (fun h=>?_)
       ·refine kG hS h (fun h=>?_) (fun h=>?_)
        ·refine Df hS (rfl:true=true) ⟨[(91,.vec 92000),(90,.vec 25000),(89,.p (.v (.bool true))),(15,pB r.1),(13,.p (vSl 2 A0 q.1)),(9,.vec 42000),(7,.vec 37000),(5,.p (vSl 2 A0 y6.1))],[(92000,.vec B6 1 (Sl.of [0,1]:Sl Int).n (fun i=>cI .i64 ((Sl.of [0,1]:Sl Int).g i)) false),(42000,.vec B6 1 y8.1.n (fun i=>cI .i64 (y8.1.g i)) true),(37000,.vec A4 1 y7.1.n (fun i=>cL 2 A0 (y7.1.g i)) true),(25000,.vec B6 1 y5.1.n (fun i=>cI .i64 (y5.1.g i)) true)]⟩ (ids:=[(25000,25000),(37000,37000),(42000,42000),(92000,92000)]) ?_ (hle:=klR [(4,.fn 2 (Sl.of [0,1]:Sl Int).n (D5 [pI .i64 0] [(0,cI .i64 0),(1,cI .i64 1)]) (fun i=>cI .i64 ((Sl.of [0,1]:Sl Int).g i)))] (al1 ⟨rfl,(fun i a=>match i,a with|0,_=>rfl|1,_=>rfl|_+2,a=>absurd a (by omega))⟩ al0));refine kC hS h (Mr hS hL) (fun x h=>?_);refine kG hS h (fun h=>?_) (fun h=>?_)
         ·refine kC hS h (Ga hS hL) (fun s h=>?_);refine kC hS h (Qz hS hL) (fun t h=>?_);refine Df hS (rfl:true=true) ⟨[(98,.vec 99000),(95,.p (vSl 2 A0 y6.1)),(94,.p (.v (.bool true))),(15,pB r.1),(13,.p (vSl 2 A0 q.1)),(9,.vec 42000),(7,.vec 37000)],[(99000,.vec B0 2 (Sl.of [s,t]:Sl Sound).n (fun i=>A0 ((Sl.of [s,t]:Sl Sound).g i)) false),(42000,.vec B6 1 y8.1.n (fun i=>cI .i64 (y8.1.g i)) true),(37000,.vec A4 1 y7.1.n (fun i=>cL 2 A0 (y7.1.g i)) true)]⟩ (ids:=[(37000,37000),(42000,42000),(99000,99000)]) ?_ (hle:=klR [(4,.fn 2 (Sl.of [s,t]:Sl Sound).n (D5 [pI .u32 0,pI .u32 0] [(0,A0 s),(1,A0 t)]) (fun i=>A0 ((Sl.of [s,t]:Sl Sound).g i)))] (al1 ⟨rfl,(fun i a=>match i,a with|0,_=>rfl|1,_=>rfl|_+2,a=>absurd a (by omega))⟩ al0));refine kC hS h (EK hS hL) (fun z h=>?_);refine kG hS h (fun h=>?_) (fun h=>?_)
          ·refine kC hS h (Ga hS hL) (fun c h=>?_);refine kC hS h (Ac2 hS hL) (fun d h=>?_);obtain⟨f,e34,h⟩:=B7 h;refine B9 hS [] (rfl:true=true) (Ga hS hL e34) ?_;refine kC hS h (Qz hS hL) (fun j h=>?_);obtain⟨l,e36,h⟩:=B7 h;refine B9 hS [] (rfl:true=true) (Ga hS hL e36) ?_;refine kC hS h (Qz hS hL) (fun m h=>?_);refine kC hS h (Ga hS hL) (fun o h=>?_);refine I1 hS (rfl:true=true) 113 ⟨[(112,.vec 113000),(108,.vec 109000),(105,.vec 106000),(102,.vec 37000),(101,.p (.v (.bool true))),(15,pB r.1),(13,.p (vSl 2 A0 q.1)),(9,.vec 42000)],[(113000,.vec B0 2 (Sl.of [l,m,o]:Sl Sound).n (fun i=>A0 ((Sl.of [l,m,o]:Sl Sound).g i)) true),(109000,.vec B0 2 (Sl.of [f,j]:Sl Sound).n (fun i=>A0 ((Sl.of [f,j]:Sl Sound).g i)) true),(106000,.vec B0 2 (Sl.of [c,d]:Sl Sound).n (fun i=>A0 ((Sl.of [c,d]:Sl Sound).g i)) true),(42000,.vec B6 1 y8.1.n (fun i=>cI .i64 (y8.1.g i)) true),(37000,.vec A4 1 y7.1.n (fun i=>cL 2 A0 (y7.1.g i)) true)]⟩ (ids:=[(37000,37000),(42000,42000),(106000,106000),(109000,109000),(113000,113000)]) ?_ (hle:=klR [(3,.fn 3 (Sl.of [l,m,o]:Sl Sound).n (D5 [pI .u32 0,pI .u32 0] [(0,A0 l),(1,A0 m),(2,A0 o)]) (fun i=>A0 ((Sl.of [l,m,o]:Sl Sound).g i))),(4,.fn 2 (Sl.of [f,j]:Sl Sound).n (D5 [pI .u32 0,pI .u32 0] [(0,A0 f),(1,A0 j)]) (fun i=>A0 ((Sl.of [f,j]:Sl Sound).g i))),(5,.fn 2 (Sl.of [c,d]:Sl Sound).n (D5 [pI .u32 0,pI .u32 0] [(0,A0 c),(1,A0 d)]) (fun i=>A0 ((Sl.of [c,d]:Sl Sound).g i)))] (al1 ⟨rfl,(fun i a=>match i,a with|0,_=>rfl|1,_=>rfl|2,_=>rfl|_+3,a=>absurd a (by omega))⟩ (al1 ⟨rfl,(fun i a=>match i,a with|0,_=>rfl|1,_=>rfl|_+2,a=>absurd a (by omega))⟩ (al1 ⟨rfl,(fun i a=>match i,a with|0,_=>rfl|1,_=>rfl|_+2,a=>absurd a (by omega))⟩ al0))));refine Df hS (rfl:true=true) ⟨[(113,.vec 114000),(102,.vec 37000),(101,.p (.v (.bool true))),(15,pB r.1),(13,.p (vSl 2 A0 q.1)),(9,.vec 42000)],[(114000,.vec A4 1 (Sl.of [(Sl.of [c,d]:Sl Sound),(Sl.of [f,j]:Sl Sound),(Sl.of [l,m,o]:Sl Sound)]:Sl (Sl Sound)).n (fun i=>cL 2 A0 ((Sl.of [(Sl.of [c,d]:Sl Sound),(Sl.of [f,j]:Sl Sound),(Sl.of [l,m,o]:Sl Sound)]:Sl (Sl Sound)).g i)) false),(42000,.vec B6 1 y8.1.n (fun i=>cI .i64 (y8.1.g i)) true),(37000,.vec A4 1 y7.1.n (fun i=>cL 2 A0 (y7.1.g i)) true)]⟩ (ids:=[(37000,37000),(42000,42000),(114000,114000)]) ?_ (hle:=klR [(3,.fn 3 (Sl.of [(Sl.of [c,d]:Sl Sound),(Sl.of [f,j]:Sl Sound),(Sl.of [l,m,o]:Sl Sound)]:Sl (Sl Sound)).n (D5 [F8] [(0,cL 2 A0 (Sl.of [c,d]:Sl Sound)),(1,cL 2 A0 (Sl.of [f,j]:Sl Sound)),(2,cL 2 A0 (Sl.of [l,m,o]:Sl Sound))]) (fun i=>cL 2 A0 ((Sl.of [(Sl.of [c,d]:Sl Sound),(Sl.of [f,j]:Sl Sound),(Sl.of [l,m,o]:Sl Sound)]:Sl (Sl Sound)).g i)))] (al1 ⟨rfl,(fun i a=>match i,a with|0,_=>rfl|1,_=>rfl|2,_=>rfl|_+3,a=>absurd a (by omega))⟩ al0));refine kC hS h (Vm hS hL) (fun a0 h=>?_);refine kG hS h (fun h=>?_) (fun h=>?_)
           ·refine Df hS (rfl:true=true) ⟨[(118,.vec 119000),(117,.vec 42000),(116,.p (.v (.bool true))),(15,pB r.1),(13,.p (vSl 2 A0 q.1))],[(119000,.vec B6 1 (Sl.of [2,3]:Sl Int).n (fun i=>cI .i64 ((Sl.of [2,3]:Sl Int).g i)) false),(42000,.vec B6 1 y8.1.n (fun i=>cI .i64 (y8.1.g i)) true)]⟩ (ids:=[(42000,42000),(119000,119000)]) ?_ (hle:=klR [(3,.fn 2 (Sl.of [2,3]:Sl Int).n (D5 [pI .i64 0] [(0,cI .i64 2),(1,cI .i64 3)]) (fun i=>cI .i64 ((Sl.of [2,3]:Sl Int).g i)))] (al1 ⟨rfl,(fun i a=>match i,a with|0,_=>rfl|1,_=>rfl|_+2,a=>absurd a (by omega))⟩ al0));refine kC hS h (Mr hS hL) (fun a1 h=>?_);refine kG hS h (fun h=>?_) (fun h=>?_)
            ·refine kC hS h (Ga hS hL) (fun u h=>?_);refine kC hS h (Qz hS hL) (fun w h=>?_);refine Df hS (rfl:true=true) ⟨[(125,.vec 126000),(122,.p (vSl 2 A0 q.1)),(121,.p (.v (.bool true))),(15,pB r.1)],[(126000,.vec B0 2 (Sl.of [u,w]:Sl Sound).n (fun i=>A0 ((Sl.of [u,w]:Sl Sound).g i)) false)]⟩ (ids:=[(126000,126000)]) ?_ (hle:=klR [(3,.fn 2 (Sl.of [u,w]:Sl Sound).n (D5 [pI .u32 0,pI .u32 0] [(0,A0 u),(1,A0 w)]) (fun i=>A0 ((Sl.of [u,w]:Sl Sound).g i)))] (al1 ⟨rfl,(fun i a=>match i,a with|0,_=>rfl|1,_=>rfl|_+2,a=>absurd a (by omega))⟩ al0));refine kC hS h (EK hS hL) (fun a2 h=>?_);refine kG hS h (fun h=>?_) (fun h=>?_)
             ·exact b _ [] _ (!r.1) trivial h
             ·exact b _ [] _ false trivial h
            ·exact b _ [] _ false trivial h
           ·exact b _ [] _ false trivial h
          ·exact b _ [] _ false trivial h
         ·exact b _ [] _ false trivial h
        ·exact b _ [] _ false trivial h
       ·exact b _ [] _ false trivial h
      ·exact b _ [] _ false trivial h
     ·exact b _ [] _ false trivial h
    ·exact b _ [] _ false trivial h
   ·exact b _ [] _ false trivial h
  ·exact b _ [] _ false trivial h
 ·cases h;exact kR hS
def Z4 (N:Nat)(b:A8)(c:A8)(a:Sl (Sl Sound)):Option Bool:=
 (BB N b).bind fun y1=>
 lt (fun (z1:Bool)=>
  if z1 then
   (Q9 N ).bind fun y8=>
   some y8
  else
   R6 N (fun d (x2:Int)=>
    if (decide (x2<(a.n:Int))) then
     if ((0:Int)<=x2/\x2<(a.n:Int))then
      if (decide (50<((a.g x2.toNat).n:Int))) then
       (Q9 N ).bind fun j=>
       some j
      else
       d (wrap .i64 (x2+1))
     else none
    else
     (H9 N b c a).bind fun f=>
     (U5 N b c a).bind fun i=>
     lt (fun (z2:Bool)=>
      some z2
      ) fun k2=>
      if ((f.1==i.1) != false) then
       if (f.2==i.2) then
        (Q9 N ).bind fun l=>
        k2 l
       else
        k2 false
      else
       k2 false
    ) 0
  ) fun k1=>
  if (!y1) then
   k1 true
  else
   (BB N c).bind fun y5=>
   if (!y5) then
    k1 true
   else
    (Cz N b (a.n:Int)).bind fun y6=>
    if y6 then
     k1 true
    else
     (Cz N c (a.n:Int)).bind fun y7=>
     if y7 then
      k1 true
     else
      if (decide (6<(a.n:Int))) then
       if (decide ((a.n:Int)<=256)) then
        k1 true
       else
        k1 (decide (300<(a.n:Int)))
      else
       k1 (decide (300<(a.n:Int)))
theorem II {N:Nat}{d:A8}{f:A8}{a:Sl (Sl Sound)}{y:Bool}(h:Z4 N d f a=some y) :FunO S Bo [.p (.agg (A2 d)),.p (.agg (A2 f)),.p (vSl 1 (cL 2 A0) a)] [] (pB y) ([]) []:=by
 unfold Z4 at h;refine A3 hS Tryz.func4 ?_;refine kC hS h (Ms hS hL) (fun y1 h=>?_);refine Fy hS trivial (A7 hS) h 0 (fun z1=>⟨[(46,pB z1),(4,.reg 5000 0),(3,.reg 4000 0),(2,.p (vSl 1 (cL 2 A0) a))],[(5000,.cells ((A2 f).map .p)),(4000,.cells ((A2 d).map .p))]⟩) (fun M1 k1 c h=>?_) (fun z1 h=>?_)
 ·refine kG hS h (fun h=>?_) (fun h=>?_)
  ·exact c _ [(4000,4000),(5000,5000)] _ true trivial h
  ·refine kC hS h (Ms hS hL) (fun y5 h=>?_);refine kG hS h (fun h=>?_) (fun h=>?_)
   ·exact c _ [(4000,4000),(5000,5000)] _ true trivial h
   ·refine kC hS h (OM hS hL) (fun y6 h=>?_);refine kG hS h (fun h=>?_) (fun h=>?_)
    ·exact c _ [(4000,4000),(5000,5000)] _ true trivial h
    ·refine kC hS h (OM hS hL) (fun y7 h=>?_);refine kG hS h (fun h=>?_) (fun h=>?_)
     ·exact c _ [(4000,4000),(5000,5000)] _ true trivial h
     ·refine kG hS h (fun h=>?_) (fun h=>?_)
      ·refine kG hS h (fun h=>?_) (fun h=>?_)
       ·exact c _ [(4000,4000),(5000,5000)] _ true trivial h
       ·exact c _ [(4000,4000),(5000,5000)] _ (decide (300<(a.n:Int))) trivial h
      ·exact c _ [(4000,4000),(5000,5000)] _ (decide (300<(a.n:Int))) trivial h
 ·refine kI hS h ?_ ?_<;>intro h
  ·refine kC hS h (Hn hS hL) (fun y8 h=>?_);cases h;exact kR hS
  ·refine I4 hS trivial h (fun x2=>⟨[(7,pN x2),(4,.reg 5000 0),(3,.reg 4000 0),(2,.p (vSl 1 (cL 2 A0) a))],[(5000,.cells ((A2 f).map .p)),(4000,.cells ((A2 d).map .p))]⟩) (ids:=[(4000,4000),(5000,5000)]) (fun _ _ _ _ _ j x2 l h=>?_);refine kI hS h ?_ ?_<;>intro h
   ·obtain⟨c22,h⟩:=D3 h;refine D0 hS c22 (b:=decide (50<((a.g x2.toNat).n:Int))) (fun c23=>?_) (fun c23=>?_)
    ·replace h:=itT c23 h;refine kC hS h (Hn hS hL) (fun o h=>?_);cases h;exact kR hS
    ·replace h:=itF c23 h;exact l _ [(4000,4000),(5000,5000)] _ (wrap .i64 (x2+1)) trivial h
   ·refine kC hS h (GV hS hL) (fun q h=>?_);refine kC hS h (YA hS hL) (fun r h=>?_);refine Fy hS trivial (A7 hS) h 0 (fun z2=>⟨[(6,pB z2)],[]⟩) (fun M2 k2 i h=>?_) (fun z2 h=>?_)
    ·refine kG hS h (fun h=>?_) (fun h=>?_)
     ·refine kG hS h (fun h=>?_) (fun h=>?_)
      ·refine kC hS h (Hn hS hL) (fun m h=>?_);exact i _ [] _ m trivial h
      ·exact i _ [] _ false trivial h
     ·exact i _ [] _ false trivial h
    ·cases h;exact kR hS
end Go.AM
namespace Go.AM
open Go.Proofs
set_option maxRecDepth 10000
set_option maxHeartbeats 2000000
variable {S:Ay}(hS:H2 S Tryz.prog) (hL:OF S)
include hS hL
end Go.AM
namespace Go.AM
set_option maxRecDepth 1000000
theorem Xc:Q9 4194304=some true:=by decide +kernel
end Go.AM
namespace Go.AM
open IntKind (wrap)
open Go.Proofs
theorem Ao8 {A R:Type}{body:(A->Option R)->A->Option R}(I:Nat->A->Prop)(n:Nat)(K0:R->Prop)
 (b:∀self i a,i<=n->I i a->(i<n->∀a',I (i+1) a' -> ∃r,self a' = some r/\K0 r)->∃r,body self a=some r/\K0 r) :
 ∀(N i:Nat) (a:A),i<=n->I i a->n-i<N->∃r,R6 N body a=some r/\K0 r
 |0,_,_,_,_,h=>by omega
 |N+1,i,a,hi,hI,h=>by rw[AY];exact b _ i a hi hI fun c a' d=>Ao8 I n K0 b N (i+1) a' c d (by omega)
theorem Ae {A R:Type}{body:(A->Option R)->A->Option R}(I:Nat->A->Prop)(n:Nat)(K0:R->Prop){N:Nat}(c:n<N){a:A}(d:I 0 a)
 (b:∀self i a,i<=n->I i a->(i<n->∀a',I (i+1) a' -> ∃r,self a' = some r/\K0 r)->∃r,body self a=some r/\K0 r):∃r,R6 N body a=some r/\K0 r:=
 Ao8 I n K0 b N 0 a (AX9 _) d c
theorem S8 {A B R:Type}{body:(A->B->Option R)->A->B->Option R}(I:Nat->A->B->Prop)(n:Nat)(K0:R->Prop){N:Nat}(g:n<N){a:A}{b:B}(j:I 0 a b)
 (d:∀c i a b,i<=n->I i a b->(i<n->∀a' b',I (i+1) a' b' -> ∃r,c a' b' = some r/\K0 r)->∃r,body c a b=some r/\K0 r):∃r,Q2 N body a b=some r/\K0 r:=
 Ao8 (fun i x=>I i x.1 x.2) n K0 (fun c i x l m h=>d (fun a b=>c (a,b)) i x.1 x.2 l m fun hl a' b' f=>h hl (a',b') f) N 0 (a,b) (AX9 _) j g
theorem Ac3 {A B C R:Type}{body:(A->B->C->Option R)->A->B->C->Option R}(I:Nat->A->B->C->Prop)(n:Nat)(K0:R->Prop){N:Nat}(j:n<N){a:A}{b:B}{c:C}(l:I 0 a b c)
 (f:∀d i a b c,i<=n->I i a b c->(i<n->∀a' b' c',I (i+1) a' b' c' -> ∃r,d a' b' c' = some r/\K0 r)->∃r,body d a b c=some r/\K0 r):∃r,Az5 N body a b c=some r/\K0 r:=
 Ao8 (fun i x=>I i x.1 x.2.1 x.2.2) n K0 (fun d i x m o h=>f (fun a b c=>d (a,b,c)) i x.1 x.2.1 x.2.2 m o fun hl a' b' c' g=>h hl (a',b',c') g) N 0 (a,b,c) (AX9 _) l j
theorem B4 {X R:Type}{Q:R->Prop}{o:Option X}{f:X->Option R}{x:X}(h:o=some x)(a:∃r,f x=some r/\Q r):∃r,o.bind f=some r/\Q r:=by subst h;exact a
theorem ltX {R A:Type}{Q:R->Prop}{k:A->Option R}{f:(A->Option R)->Option R}(h:∃r,f k=some r/\Q r):∃r,lt k f=some r/\Q r:=h
theorem ifT {R:Type}{Q:R->Prop}{p:Prop}[Decidable p]{a b:Option R}(h:p)(c:∃r,a=some r/\Q r):∃r,(if p then a else b)=some r/\Q r:=by rw[if_pos h];exact c
theorem ifF {R:Type}{Q:R->Prop}{p:Prop}[Decidable p]{a b:Option R}(h:¬p)(c:∃r,b=some r/\Q r):∃r,(if p then a else b)=some r/\Q r:=by rw[if_neg h];exact c
theorem F2 {n:Int}(h : -9223372036854775808<=n)(h' : n<=9223372036854775807):IntKind.i64.wrap n=n:=by
 by_cases a:0<=n
 ·have h1:n % (2 ^ 64:Int)=n:=AZ8 a (by omega);unfold wrap;simp only[IntKind.bits,IntKind.signed,h1];rw[if_neg];simp;omega
 ·have h1:n % (2 ^ 64:Int)=n+2 ^ 64:=by rw[<- Int.add_emod_right];exact AZ8 (by omega) (by omega)
  unfold wrap;simp only[IntKind.bits,IntKind.signed,h1];rw[if_pos]
  ·omega
  ·simp;omega
theorem C4 {i:Nat}(h:i<1000000000000000000):IntKind.i64.wrap ((i:Int)+1)=((i+1:Nat):Int):=by rw[F2 (by omega) (by omega)];rfl
theorem wrapP {i:Nat}(a:1<=i)(h:i<1000000000000000000):IntKind.i64.wrap ((i:Int)-1)=((i-1:Nat):Int):=by rw[F2 (by omega) (by omega)];omega
theorem Da {i j:Nat}(h:i+j<1000000000000000000):IntKind.i64.wrap ((i:Int)+(j:Int))=((i+j:Nat):Int):=by rw[F2 (by omega) (by omega)];rfl
theorem WG {N n:Nat}(hn:n<=32)(f:1000<=N):∃s,Cs N (n:Int)=some s/\s.n=n+1/\TabR n (fun a b=>a=b) s.g:=by
 unfold Cs;rw[C4 (by omega)];refine ifT (by omega) ?_;refine S8 (fun i x1 x2=>x2=(i:Int)/\x1.n=n+1/\∀a,a<i->x1.g a=U (1#64 <<< a)) (n+1) _ (by omega) ⟨rfl,by show ((n+1:Nat):Int).toNat=n+1;omega,fun a ha=>absurd ha (by omega)⟩ ?_;rintro c i x1 x2 j ⟨rfl,h1,d⟩ hs;by_cases hl:i<=n
 ·refine ifT (by simp;omega) (ifT ⟨⟨by omega,by omega,by omega⟩,by omega⟩ (hs (by omega) _ _ ⟨C4 (by omega),h1,fun a ha=>?_⟩));show (if a=(i:Int).toNat then shI .shl .u64 1 (i:Int)else x1.g a)=_;by_cases e:a=i
  ·subst e;rw[if_pos (by omega),SF _ (by omega)]
  ·rw[if_neg (by omega)];exact d a (by omega)
 ·refine ifF (by simp;omega) ⟨x1,rfl,h1,fun a ha=>⟨1#64 <<< a,d a (by omega),fun b hb=>?_⟩⟩;rw[FO (by omega) hb,decide_eq_true_eq];omega
theorem Ao9 {n:Nat}{f:Nat->Int}(h:∀a,a<=n->f a=0):TabR n (fun _ _=>False) f:=fun a ha=>⟨0#64,h a ha,fun b hb=>by simp⟩
theorem WH {N n:Nat}{R S:Nat->Nat->Prop}{x y:Sl Int}(hn:n<=32)(f:1000<=N)(hx:x.n=n+1)(hy:y.n=n+1)(hR:TabR n R x.g)(hS:TabR n S y.g) :∃s,Ct N x y=some s/\s.n=n+1/\TabR n (fun a b=>R a b \/ S a b) s.g:=by
 unfold Ct;refine ifT (by omega) ?_;refine S8 (fun i x1 x2=>x2=(i:Int)/\x1.n=n+1/\∀a,a<i->x1.g a=E5 .or .u64 (x.g a) (y.g a)) (n+1) _ (by omega) ⟨rfl,by show (x.n:Int).toNat=n+1;omega,fun a ha=>absurd ha (by omega)⟩ ?_;rintro d i x1 x2 j ⟨rfl,h1,c⟩ hs;by_cases hl:i<=n
 ·refine ifT (by simp;omega) (ifT (by omega) (hs (by omega) _ _ ⟨C4 (by omega),h1,fun a ha=>?_⟩));show (if a=(i:Int).toNat then _ else x1.g a)=_;by_cases e:a=i
  ·subst e;rw[if_pos (by omega),AP2]
  ·rw[if_neg (by omega)];exact c a (by omega)
 ·refine ifF (by simp;omega) ⟨x1,rfl,h1,fun a ha=>?_⟩;obtain⟨u,e1,g1⟩:=hR a ha;obtain⟨v,e2,g2⟩:=hS a ha;refine⟨u ||| v,by rw[c a (by omega),e1,e2,AO8],fun b hb=>?_⟩;rw[AQ8,AR6,g1 b hb,g2 b hb];constructor
  ·rintro (⟨h1,c⟩ | ⟨h1,c⟩)
   ·exact⟨h1,.inl c⟩
   ·exact⟨h1,.inr c⟩
  ·rintro⟨h1,c|c⟩
   ·exact .inl ⟨h1,c⟩
   ·exact .inr ⟨h1,c⟩
theorem Ac4 {N n:Nat}{x y:Sl Int}(hn:n<=32)(f:1000<=N)(hx:x.n=n+1)(hy:y.n=n+1) :∃b,CR N x y=some b/\(b=true ↔ ∀a,a<=n->x.g a=y.g a):=by
 unfold CR;refine Ae (fun i x1=>x1=(i:Int)/\∀a,a<i->x.g a=y.g a) (n+1) _ (by omega) ⟨rfl,fun a ha=>absurd ha (by omega)⟩ ?_;rintro c i x1 j ⟨rfl,d⟩ hs;by_cases hl:i<=n
 ·refine ifT (by simp;omega) (ifT (by omega) ?_);rw[AP2];by_cases e:x.g i=y.g i
  ·refine ifF (by simp[e]) (hs (by omega) _ ⟨C4 (by omega),fun a ha=>?_⟩);by_cases h:a=i
   ·subst h;exact e
   ·exact d a (by omega)
  ·refine ifT (by simp[e]) ⟨false,rfl,by simp;exact⟨i,hl,e⟩⟩
 ·exact ifF (by simp;omega) ⟨true,rfl,by simp;exact fun a ha=>d a (by omega)⟩
theorem ON {N n:Nat}{R S:Nat->Nat->Prop}{x y:Sl Int}(hn:n<=32)(w:1000<=N)(hx:x.n=n+1)(hy:y.n=n+1)(hR:TabR n R x.g)(hS:TabR n S y.g) :∃s,W6 N x y=some s/\s.n=n+1/\TabR n (fun a b=>∃c,c<=n/\R a c/\S c b) s.g:=by
 unfold W6;refine ifT (by omega) ?_
 let Row (z:BitVec 64) (a j:Nat):Prop:=∀b,b<64->(z.getLsbD b=true↔b<=n/\∃c,c<j/\c<=n/\R a c/\S c b)
 refine S8 (fun i x1 x2=>x2=(i:Int)/\x1.n=n+1/\(∀a,a<i->∃z,x1.g a=U z/\Row z a (n+1))/\∀a,i<=a->x1.g a=0) (n+1) _ (by omega) ⟨rfl,by show (x.n:Int).toNat=n+1;omega,fun a ha=>absurd ha (by omega),fun a _=>rfl⟩ ?_;rintro q i x1 x2 hi ⟨rfl,h1,r,t⟩ hs;by_cases hl:i<=n
 ·refine ifT (by simp;omega) ?_;refine S8 (fun j x7 x8=>x8=(j:Int)/\x7.n=n+1/\(∀a,a<i->∃z,x7.g a=U z/\Row z a (n+1))/\(∃z,x7.g i=U z/\Row z i j)/\∀a,i<a->x7.g a=0) (n+1) _ (by omega)
   ⟨rfl,h1,r,⟨0#64,t i (AP8 _),fun b hb=>by simp⟩,fun a ha=>t a (by omega)⟩ ?_
  rintro m j x7 x8 hj ⟨rfl,g1,g2,⟨z,g3,g4⟩,g5⟩ l;by_cases f:j<=n
  ·refine ifT (by simp;omega) (ifT (by omega) ?_);rw[AP2,AP2];have d:=hR.bit hl (b:=j) (by omega);by_cases hc:R i j
   ·refine ifT (d.2 ⟨f,hc⟩) (ifT (by omega) (l (by omega) _ _ ⟨C4 (by omega),g1,fun a ha=>?_,?_,fun a ha=>?_⟩))
    ·obtain⟨z',e,o⟩:=g2 a ha;exact⟨z',by show (if a=i then _ else x7.g a)=_;rw[if_neg (by omega)];exact e,o⟩
    ·obtain⟨v,e,u⟩:=hS j f;refine⟨z ||| v,by show (if i=i then _ else _)=_;rw[if_pos rfl,g3,e,AO8],fun b hb=>?_⟩;rw[AQ8,AR6,g4 b hb,u b hb];constructor
     ·rintro (⟨k1,c,k2,k3⟩ | ⟨k1,k2⟩)
      ·exact⟨k1,c,by omega,k3⟩
      ·exact⟨k1,j,by omega,f,hc,k2⟩
     ·rintro⟨k1,c,k2,k3,k4,k5⟩;by_cases e:c=j
      ·subst e;exact .inr ⟨k1,k5⟩
      ·exact .inl ⟨k1,c,by omega,k3,k4,k5⟩
    ·show (if a=i then _ else x7.g a)=_;rw[if_neg (by omega)];exact g5 a ha
   ·refine ifF (fun h=>hc (d.1 h).2) (l (by omega) _ _ ⟨C4 (by omega),g1,g2,⟨z,g3,fun b hb=>?_⟩,g5⟩);rw[g4 b hb];constructor
    ·rintro⟨k1,c,k2,k3⟩;exact⟨k1,c,by omega,k3⟩
    ·rintro⟨k1,c,k2,k3,k4,k5⟩;by_cases e:c=j
     ·subst e;exact absurd k4 hc
     ·exact⟨k1,c,by omega,k3,k4,k5⟩
  ·refine ifF (by simp;omega) (hs (by omega) _ _ ⟨C4 (by omega),g1,fun a ha=>?_,fun a ha=>g5 a (by omega)⟩);by_cases e:a=i
   ·subst e;obtain rfl:j=n+1:=by omega
    exact⟨z,g3,g4⟩
   ·exact g2 a (by omega)
 ·refine ifF (by simp;omega) ⟨x1,rfl,h1,fun a ha=>?_⟩;obtain⟨z,e,o⟩:=r a (by omega);refine⟨z,e,fun b hb=>(o b hb).trans ⟨fun⟨k1,c,_,k3⟩=>⟨k1,c,k3⟩,fun⟨k1,c,k3⟩=>⟨k1,c,by omega,k3⟩⟩⟩
end Go.AM
namespace Go.AM
open Go.Proofs
def okP:Nat->Pat->Prop
 |0,_=>False
 |d+1,p=>p.L.n<=40/\(p.Kind=5->p.L.n=1/\0<=p.Min/\p.Min<=32/\(p.Max = -1 \/ (p.Min<=p.Max/\p.Max<=32)))/\∀i,i<p.L.n->okP d (p.L.g i)
theorem Ki (w:Sl Sound)(p:Pat)(a b:Nat):PR w p a b↔(if p.Kind=0 then a=b
 else if p.Kind=1 then a<w.n/\b=a+1/\(US (w.g a) p.Is != p.Not)=true
 else if p.Kind=2 then a=0/\b=0
 else if p.Kind=6 then a=w.n/\b=w.n
 else if p.Kind=3 then Yl w.n (fun i=>PR w (p.L.g i)) p.L.n a b
 else if p.Kind=4 then ∃i,i<p.L.n/\PR w (p.L.g i) a b
 else if p.Kind=5 then ∃k:Nat,p.Min<=k/\(p.Max = -1 \/ (k:Int)<=p.Max)/\GS w.n (PR w (p.L.g 0)) k a b
 else False):=by
 cases p with
 |nil=>simp[PR,Pat.Kind]
 |mk kind is no mn mx m g=>exact AY5
def R0 (w:Sl Sound)(p:Pat)(a b:Nat):Prop:=if p.Kind=0 then a=b
 else if p.Kind=1 then a<w.n/\b=a+1/\(US (w.g a) p.Is != p.Not)=true
 else if p.Kind=2 then a=0/\b=0
 else if p.Kind=6 then a=w.n/\b=w.n
 else False
theorem Au9 {n:Nat}{R:Nat->Nat->Prop}(hR:Fwd n R){mn k:Nat}(hk:mn<k)(h:∀a b,a<=n->b<=n->GS n R k a b->∃j,mn<=j/\j<k/\GS n R j a b){a:Nat}(ha:a<=n) :∀m b,mn<=m->GS n R m a b->∃j,mn<=j/\j<k/\GS n R j a b
 |0,b,hm,hp=>⟨0,hm,by omega,hp⟩
 |m+1,b,hm,hp=>by
  by_cases d:m+1<k
  ·exact⟨m+1,hm,d,hp⟩
  ·obtain⟨c,hc,h1,f⟩:=hp;have hb:=(hR c b hc f).2;obtain⟨j,g1,g2,g3⟩:=Au9 hR hk h ha m c (by omega) h1;by_cases e:j+1<k
   ·exact⟨j+1,by omega,e,c,hc,g3,f⟩
   ·obtain rfl:k=j+1:=by omega
    exact h a b ha hb ⟨c,hc,g3,f⟩
theorem Mv {N:Nat}(hN:1000<=N){w:Sl Sound}(hw:w.n<=32):∀(d:Nat) (p:Pat),okP d p->∀M,N+d<=M->∃t,Bw M p w=some t/\t.n=w.n+1/\TabR w.n (PR w p) t.g
 |0,p,h,M,hM=>h.elim
 |d+1,p,⟨hc,h5,hch⟩,0,hM=>by omega
 |d+1,p,⟨hc,h5,hch⟩,M+1,hM=>by
  have ih:=fun i hi=>Mv hN hw d (p.L.g i) (hch i hi) M (by omega);show ∃t,Bc (Bw M) M p w=some t/\_;unfold Bc;rw[C4 (by omega)];refine ifT (by omega) ?_;refine S8 (fun i x1 x2=>x2=(i:Int)/\x1.n=w.n+1/\(∀a,a<i->∃z:BitVec 64,x1.g a=U z/\∀b,b<64->(z.getLsbD b=true↔b<=w.n/\R0 w p a b))/\∀a,i<=a->x1.g a=0) (w.n+1) _ (by omega)
   ⟨rfl,by show ((w.n+1:Nat):Int).toNat=w.n+1;omega,fun a ha=>absurd ha (by omega),fun _ _=>rfl⟩ ?_
  rintro self i x1 x2 hi ⟨rfl,h1,l,c⟩ hs;have keep:(∀b,b<=w.n->¬R0 w p i b)->(∀a,a<i+1->∃z:BitVec 64,x1.g a=U z/\∀b,b<64->(z.getLsbD b=true↔b<=w.n/\R0 w p a b)):=by
   intro h a ha;by_cases e:a=i
   ·subst e;exact⟨0#64,c a (AP8 _),fun b hb=>by simp;exact h b⟩
   ·exact l a (by omega)
  have put:∀(z:BitVec 64) (v:Int),v=U z->(∀b,b<64->(z.getLsbD b=true↔b<=w.n/\R0 w p i b)) ->
   (∀a,a<i+1->∃z:BitVec 64,(x1.upd (i:Int).toNat v).g a=U z/\∀b,b<64->(z.getLsbD b=true↔b<=w.n/\R0 w p a b))/\∀a,i+1<=a->(x1.upd (i:Int).toNat v).g a=0:=by
   intro z v hv hz;refine⟨fun a ha=>?_,fun a ha=>?_⟩
   ·by_cases e:a=i
    ·subst e;exact⟨z,by show (if a=(a:Int).toNat then v else _)=_;rw[if_pos (by omega),hv],hz⟩
    ·obtain⟨z',e1,e2⟩:=l a (by omega);exact⟨z',by show (if a=(i:Int).toNat then v else x1.g a)=_;rw[if_neg (by omega)];exact e1,e2⟩
   ·show (if a=(i:Int).toNat then v else x1.g a)=0;rw[if_neg (by omega)];exact c a (by omega)
  by_cases hl:i<=w.n
  ·refine ifT (by simp;omega) ?_;by_cases k0:p.Kind=0
   ·refine ifT (by simp[k0]) (ifT (by omega) ?_);obtain⟨p1,p2⟩:=put (1#64 <<< i) _ (SF i (by omega)) (fun b hb=>by rw[FO (by omega) hb,decide_eq_true_eq];simp only[R0,k0,if_true];omega);exact hs (by omega) _ _ ⟨C4 (by omega),h1,p1,p2⟩
   refine ifF (by simp[k0]) ?_;by_cases k1:p.Kind=1
   ·refine ifT (by simp[k1]) ?_;have e0:∀b,R0 w p i b↔i<w.n/\b=i+1/\(US (w.g i) p.Is != p.Not)=true:=fun b=>by simp only[R0,k1];simp
    by_cases hlt:i<w.n
    ·refine ifT (by simp;omega) (ifT (by omega) ?_);refine B4 (x:=US (w.g i) p.Is) (by rw[AP2];rfl) ?_;by_cases hb:US (w.g i) p.Is=p.Not
     ·refine ifF (by simp[hb]) (hs (by omega) _ _ ⟨C4 (by omega),h1,keep fun b _=>?_,fun a ha=>c a (by omega)⟩);rw[e0];simp[hb]
     ·refine ifT (by simp[hb]) ?_;rw[C4 (by omega)];refine ifT (by omega) ?_;obtain⟨p1,p2⟩:=put (1#64 <<< (i+1)) _ (SF (i+1) (by omega)) (fun b a0=>by
       rw[FO (by omega) a0,decide_eq_true_eq,e0]
       have:(US (w.g i) p.Is != p.Not)=true:=by simp[hb]
       simp only[this,and_true];omega)
      exact hs (by omega) _ _ ⟨rfl,h1,p1,p2⟩
    ·refine ifF (by simp;omega) (hs (by omega) _ _ ⟨C4 (by omega),h1,keep fun b _=>?_,fun a ha=>c a (by omega)⟩);rw[e0];omega
   refine ifF (by simp[k1]) ?_;by_cases k2:p.Kind=2
   ·refine ifT (by simp[k2]) ?_;have e0:∀b,R0 w p i b↔i=0/\b=0:=fun b=>by simp only[R0,k2];simp
    by_cases hz:i=0
    ·refine ifT (by simp;omega) (ifT (by omega) ?_);obtain⟨p1,p2⟩:=put 1#64 _ AM3 (fun b a0=>by rw[UR,decide_eq_true_eq,e0];omega);exact hs (by omega) _ _ ⟨C4 (by omega),h1,p1,p2⟩
    ·refine ifF (by simp;omega) (hs (by omega) _ _ ⟨C4 (by omega),h1,keep fun b _=>?_,fun a ha=>c a (by omega)⟩);rw[e0];omega
   refine ifF (by simp[k2]) ?_;by_cases k6:p.Kind=6
   ·refine ifT (by simp[k6]) ?_;have e0:∀b,R0 w p i b↔i=w.n/\b=w.n:=fun b=>by simp only[R0,k6];simp
    by_cases hz:i=w.n
    ·refine ifT (by simp;omega) (ifT (by omega) ?_);obtain⟨p1,p2⟩:=put (1#64 <<< i) _ (SF i (by omega)) (fun b hb=>by rw[FO (by omega) hb,decide_eq_true_eq,e0];omega);exact hs (by omega) _ _ ⟨C4 (by omega),h1,p1,p2⟩
    ·refine ifF (by simp;omega) (hs (by omega) _ _ ⟨C4 (by omega),h1,keep fun b _=>?_,fun a ha=>c a (by omega)⟩);rw[e0];omega
   ·refine ifF (by simp[k6]) (hs (by omega) _ _ ⟨C4 (by omega),h1,keep fun b _=>?_,fun a ha=>c a (by omega)⟩);simp[R0,k0,k1,k2,k6]
  ·refine ifF (by simp;omega) ?_;have t0:TabR w.n (R0 w p) x1.g:=fun a ha=>l a (by omega);by_cases k3:p.Kind=3
   ·refine ifT (by simp[k3]) ?_;obtain⟨s,es,a8,a9⟩:=WG (N:=M) hw (by omega);refine B4 es ?_;refine S8 (fun i (x3:Sl Int) x4=>x4=(i:Int)/\x3.n=w.n+1/\TabR w.n (Yl w.n (fun i=>PR w (p.L.g i)) i) x3.g) p.L.n _ (by omega) ⟨rfl,a8,a9.congr fun a b _ _=>AY5⟩ ?_;rintro a2 j x3 x4 hj ⟨rfl,g1,g2⟩ m;by_cases a3:j<p.L.n
    ·obtain⟨t,et,b0,b1⟩:=ih j a3;refine ifT (by simp;omega) (ifT (by omega) (B4 (by rw[AP2];exact et) ?_));obtain⟨f,ef,o,a4⟩:=ON (N:=M) hw (by omega) g1 b0 g2 b1;exact B4 ef (m a3 _ _ ⟨C4 (by omega),o,a4⟩)
    ·obtain rfl:j=p.L.n:=by omega
     exact ifF (by simp) ⟨x3,rfl,g1,g2.congr fun a b _ _=>by rw[Ki];simp[k3]⟩
   refine ifF (by simp[k3]) ?_;by_cases k4:p.Kind=4
   ·refine ifT (by simp[k4]) ?_;refine S8 (fun i x3 x4=>x4=(i:Int)/\x3.n=w.n+1/\TabR w.n (fun a b=>∃q,q<i/\PR w (p.L.g q) a b) x3.g) p.L.n _ (by omega) ⟨rfl,h1,t0.congr fun a b _ _=>by simp[R0,k4]⟩ ?_;rintro a2 j x3 x4 hj ⟨rfl,g1,g2⟩ m;by_cases a3:j<p.L.n
    ·obtain⟨t,et,b0,b1⟩:=ih j a3;refine ifT (by simp;omega) (ifT (by omega) (B4 (by rw[AP2];exact et) ?_));obtain⟨f,ef,o,a4⟩:=WH (N:=M) hw (by omega) g1 b0 g2 b1;refine B4 ef (m a3 _ _ ⟨C4 (by omega),o,a4.congr fun a b _ _=>⟨?_,?_⟩⟩)
     ·rintro (⟨q,h1,l⟩ | h)
      ·exact⟨q,by omega,l⟩
      ·exact⟨j,by omega,h⟩
     ·rintro⟨q,h1,l⟩;by_cases e:q=j
      ·subst e;exact .inr l
      ·exact .inl ⟨q,by omega,l⟩
    ·obtain rfl:j=p.L.n:=by omega
     exact ifF (by simp) ⟨x3,rfl,g1,g2.congr fun a b _ _=>by rw[Ki];simp[k4]⟩
   refine ifF (by simp[k4]) ?_;by_cases k5:p.Kind=5
   ·obtain⟨hn1,hm0,hm1,hmx⟩:=h5 k5;refine ifT (by simp[k5]) (ifT (by omega) ?_);obtain⟨one,eo,ho1,ho2⟩:=ih 0 (by omega);obtain⟨s,es,a8,a9⟩:=WG (N:=M) hw (by omega);refine B4 eo (B4 es ?_);have hF:=SJ w (p.L.g 0);have fin:∀(t:Sl Int) (k:Nat),t.n=w.n+1->TabR w.n (fun a b=>∃j:Nat,p.Min<=j/\j<k/\GS w.n (PR w (p.L.g 0)) j a b) t.g ->
     (∀a b,a<=w.n->b<=w.n->((∃j:Nat,p.Min<=j/\j<k/\GS w.n (PR w (p.L.g 0)) j a b) ↔ ∃j:Nat,p.Min<=j/\(p.Max = -1 \/ (j:Int)<=p.Max)/\GS w.n (PR w (p.L.g 0)) j a b)) ->
     ∃r,some t=some r/\r.n=w.n+1/\TabR w.n (PR w p) r.g:=by
     intro t k e1 e2 e3;exact⟨t,rfl,e1,e2.congr fun a b ha hb=>(e3 a b ha hb).trans (by rw[Ki];simp[k5])⟩
    refine Ac3 (fun k (x8 x9:Sl Int) b2=>b2=(k:Int)/\x8.n=w.n+1/\x9.n=w.n+1/\TabR w.n (fun a b=>∃j:Nat,p.Min<=j/\j<k/\GS w.n (PR w (p.L.g 0)) j a b) x8.g/\TabR w.n (GS w.n (PR w (p.L.g 0)) k) x9.g/\(p.Max = -1 \/ (k:Int)<=p.Max)) 33 _ (by omega)
     ⟨rfl,h1,a8,t0.congr fun a b _ _=>by simp[R0,k5],a9.congr fun a b _ _=>AY5,by omega⟩ ?_
    rintro a2 k x8 x9 b2 hk ⟨rfl,g1,g2,g3,g4,g5⟩ m;obtain⟨f,ef,o,a4⟩:=ON (N:=M) hw (by omega) g2 ho1 g4 ho2;have next:TabR w.n (GS w.n (PR w (p.L.g 0)) (k+1)) f.g:=a4
    by_cases u:p.Min<=(k:Int)
    ·refine ifT (by simpa using u) ?_;obtain⟨j,ej,a5,hj2⟩:=WH (N:=M) hw (by omega) g1 g2 g3 g4;have a1:TabR w.n (fun a b=>∃j:Nat,p.Min<=j/\j<k+1/\GS w.n (PR w (p.L.g 0)) j a b) j.g:=hj2.congr fun a b _ _=>by
      constructor
      ·rintro (⟨q,h1,l,c⟩ | h)
       ·exact⟨q,h1,by omega,c⟩
       ·exact⟨k,u,by omega,h⟩
      ·rintro⟨q,h1,l,c⟩;by_cases e:q=k
       ·subst e;exact .inr c
       ·exact .inl ⟨q,h1,by omega,c⟩
     refine B4 ej (ltX ?_);by_cases a6:(k:Int)=p.Max
     ·refine ifT (by simp[a6]) (ifT rfl (fin j (k+1) a5 a1 fun a b _ _=>⟨?_,?_⟩))
      ·rintro⟨q,h1,l,c⟩;exact⟨q,h1,.inr (by omega),c⟩
      ·rintro⟨q,h1,l,c⟩;exact⟨q,h1,by omega,c⟩
     ·refine ifF (by simp[a6]) ?_;by_cases b3:p.Min<(k:Int)
      ·refine ifT (by simpa using b3) ?_;obtain⟨b,eb,hb⟩:=Ac4 (N:=M) (x:=x8) (y:=j) hw (by omega) g1 a5;refine B4 eb ?_;by_cases a7:b=true
       ·refine ifT a7 (fin j (k+1) a5 a1 fun a b ha a0=>⟨?_,?_⟩)
        ·rintro⟨q,h1,l,c⟩;exact⟨q,h1,by omega,c⟩
        ·rintro⟨q,h1,l,c⟩;have heq:=hb.1 a7;obtain⟨q',k1,k2,k3⟩:=Au9 hF (mn:=p.Min.toNat) (k:=k) (by omega) (fun a b ha a0 hp=>by have e1:=a1.bit ha (b:=b) (by omega);have e2:=g3.bit ha (b:=b) (by omega);rw[<- heq a ha]at e1;obtain⟨_,q,k1,k2,k3⟩:=e2.1 (e1.2 ⟨a0,k,u,by omega,hp⟩);exact⟨q,by omega,k2,k3⟩) ha q b (by omega) c
         exact⟨q',by omega,by omega,k3⟩
       ·refine ifF a7 (B4 ef ?_);have b4:k<33:=by
         refine Nat.lt_of_le_of_ne hk fun e=>a7 (hb.2 fun a ha=>?_);subst e;refine g3.uniq (a1.congr fun a b ha a0=>⟨?_,?_⟩) ha
         ·rintro⟨q,h1,l,c⟩;by_cases e:q=33
          ·subst e;exact⟨32,by omega,by omega,SH hF ha hw c⟩
          ·exact⟨q,h1,by omega,c⟩
         ·rintro⟨q,h1,l,c⟩;exact⟨q,h1,by omega,c⟩
        exact m b4 _ _ _ ⟨C4 (by omega),a5,o,a1,next,by omega⟩
      ·refine ifF (by simpa using b3) (ifF (by simp) (B4 ef (m (by omega) _ _ _ ⟨C4 (by omega),a5,o,a1,next,by omega⟩)))
    ·refine ifF (by simpa using u) (B4 ef (m (by omega) _ _ _ ⟨C4 (by omega),g1,o,g3.congr fun a b _ _=>⟨?_,?_⟩,next,by omega⟩))
     ·rintro⟨q,h1,l,c⟩;omega
     ·rintro⟨q,h1,l,c⟩;omega
   ·refine ifF (by simp[k5]) ⟨x1,rfl,h1,t0.congr fun a b _ _=>?_⟩;rw[Ki];simp[R0,k3,k4,k5]
end Go.AM
namespace Go.AM
open IntKind (wrap)
open Go.Proofs
abbrev sOf (x y:BitVec 32):Sound:=⟨(x.toNat:Int),(y.toNat:Int)⟩
def okS (s:Sound):Prop:=∃p m:BitVec 32,s=sOf p m
theorem eq0 (x:BitVec 32):((x.toNat:Int)==0)=decide (x=0#32):=by
 rw[AS5];simp only[beq_iff_eq,decide_eq_true_eq];constructor
 ·intro h;apply AT1;show x.toNat=0;omega
 ·rintro rfl;rfl
theorem z32 (x:BitVec 32):x=0#32 ↔ ∀i,i<32->x.getLsbD i=false:=by
 constructor
 ·rintro rfl i a;simp
 ·intro h;apply AU5;intro i a;rw[h i a];simp
theorem Iw {x y:BitVec 32}(h:∀b,b<32->x.getLsbD b=y.getLsbD b):x=y:=AU5 h
theorem WI (x:BitVec 32)(i:Nat):(E5 .and .u32 (shI .shr .u32 (x.toNat:Int) (i:Int)) 1==1)=x.getLsbD i:=by
 rw[Au0,show (1:Int)=((1#32).toNat:Int) from rfl,Es];have h:(x >>> i &&& 1#32)=(BitVec.ofBool (x.getLsbD i)).setWidth 32:=by
  apply AU5;intro j b;simp only[AQ9,Bd3,Be3,Bf5];by_cases a:j=0
  ·subst a;simp
  ·have:(1#32).getLsbD j=false:=by rw[Bd4];simp[a]
   simp[this,a]
 rw[h];cases x.getLsbD i<;>rfl
theorem AC6 (i:Nat):shI .shl .u32 1 (i:Int)=((1#32 <<< i).toNat:Int):=by rw[show (1:Int)=((1#32).toNat:Int) from rfl,AJ1]
theorem Ac5 {i j:Nat}(a:j<32):(1#32 <<< i).getLsbD j=decide (j=i):=by
 rw[Be0,Bd4];by_cases h:j=i
 ·subst h;simp[a]
 ·by_cases b:j<i
  ·simp[h,b]
  ·have:j-i≠0:=by omega
   simp[h,this]
theorem Gb (x:BitVec 32):x.toNat<16777216 ↔ ∀i,24<=i->i<32->x.getLsbD i=false:=by
 constructor
 ·intro h i a b;exact Bf0 (AR4 h (AY2 (n:=2) (i:=24) (by omega) a))
 ·intro h;refine Nat.lt_pow_two_of_testBit (n:=24) _ fun i a=>?_;by_cases c:i<32
  ·exact h i a c
  ·exact Bf0 (AR4 x.isLt (AY2 (by omega) (by omega)))
def vB (p m:BitVec 32):Bool:=decide (∀i:Fin 32,¬(p.getLsbD i=true/\m.getLsbD i=true)/\(24<=i.1->p.getLsbD i=false/\m.getLsbD i=false))
theorem Fm (p m:BitVec 32):vB p m=true ↔ ∀i,i<32->¬(p.getLsbD i=true/\m.getLsbD i=true)/\(24<=i->p.getLsbD i=false/\m.getLsbD i=false):=by rw[vB,decide_eq_true_eq];exact⟨fun h i a=>h ⟨i,a⟩,fun h i=>h i.1 i.2⟩
theorem WJ (p m:BitVec 32):p &&& m=0#32 ↔ ∀i,i<32->¬(p.getLsbD i=true/\m.getLsbD i=true):=by rw[z32];refine forall_congr' fun i=>forall_congr' fun a=>?_;rw[AQ9,Bf6];cases p.getLsbD i<;>cases m.getLsbD i<;>simp
theorem AM7 (p m:BitVec 32):vB p m=true↔p &&& m=0#32/\(p ||| m).toNat<16777216:=by
 rw[Fm,WJ,Gb];constructor
 ·intro h;refine⟨fun i a=>(h i a).1,fun i h1 b=>?_⟩
  have:=(h i b).2 h1
  rw[AQ8,this.1,this.2];rfl
 ·rintro⟨h1,b⟩ i a;refine⟨h1 i a,fun c=>?_⟩
  have:=b i c a
  rw[AQ8,AY3]at this;exact this
theorem AM8 (p m:BitVec 32):vB p m=true↔p &&& m=0#32/\p.toNat<16777216/\m.toNat<16777216:=by rw[Fm,WJ,Gb,Gb];exact⟨fun h=>⟨fun i a=>(h i a).1,fun i h1 b=>((h i b).2 h1).1,fun i h1 b=>((h i b).2 h1).2⟩,fun⟨h1,b,d⟩ i a=>⟨h1 i a,fun c=>⟨b i c a,d i c a⟩⟩⟩
theorem Bj {N:Nat}(p m:BitVec 32):G3 N (sOf p m)=some (vB p m):=by unfold G3;rw[Es,Jy,eq0];congr 1;rw[AS5,AM7];simp only[AP7,decide_eq_true_eq];exact⟨fun h=>⟨h.1,by have:=h.2;omega⟩,fun h=>⟨h.1,by have:=h.2;omega⟩⟩
theorem shr24 (x:BitVec 32):(shI .shr .u32 (x.toNat:Int) 24==0)=decide (x.toNat<16777216):=by
 rw[show (24:Int)=((24:Nat):Int) from rfl,Au0,AS5];simp only[beq_iff_eq,decide_eq_true_eq,Ba8,Ba3]
 have:=Bg5 (a:=x.toNat) (b:=2 ^ 24)
 omega
theorem SY {N:Nat}(p m:BitVec 32):AL N (sOf p m)=some (vB p m):=by unfold AL;rw[Es,Jy,eq0,shr24];congr 1;rw[AS5,AM7];simp only[AP7,decide_eq_true_eq]
theorem SZ {N:Nat}(p m:BitVec 32):N8 N (sOf p m)=some (vB p m):=SY (N:=N) p m
theorem OO {N:Nat}(p m:BitVec 32):Q3 N (sOf p m)=some (vB p m):=by unfold Q3;rw[Es,eq0];congr 1;rw[AS5,AM8];simp only[AP7,decide_eq_true_eq];exact⟨fun h=>⟨h.1.1,by have:=h.1.2;omega,by have:=h.2;omega⟩,fun h=>⟨⟨h.1,by have:=h.2.1;omega⟩,by have:=h.2.2;omega⟩⟩
theorem Z5 {N:Nat}(p m:BitVec 32)(n:1000<=N):I2 N (sOf p m)=some (vB p m):=by
 suffices h:∃r,I2 N (sOf p m)=some r/\r=vB p m by obtain⟨r,h,rfl⟩:=h;exact h
 unfold I2;refine Ae (fun i x1=>x1=(i:Int)/\∀j,j<i->¬(p.getLsbD j=true/\m.getLsbD j=true)/\(24<=j->p.getLsbD j=false/\m.getLsbD j=false)) 32 _ (by omega) ⟨rfl,fun j d=>absurd d (by omega)⟩ ?_;rintro g i x1 o ⟨rfl,h1⟩ hs;by_cases hl:i<32
 ·refine ifT (by simp;omega) (ifT (by omega) ?_);simp only[WI];have e24:decide ((24:Int)<=(i:Int))=decide (24<=i):=decide_eq_decide.2 (by omega);rw[e24];by_cases hb:¬(p.getLsbD i=true/\m.getLsbD i=true)/\(24<=i->p.getLsbD i=false/\m.getLsbD i=false)
  ·refine ifF ?_ (hs hl _ ⟨C4 (by omega),fun j d=>?_⟩)
   ·intro h;obtain⟨l,f⟩:=hb;revert h l f;by_cases c:24<=i
    ·intro h l f;obtain⟨a,b⟩:=f c;simp[a,b]at h
    ·cases p.getLsbD i<;>cases m.getLsbD i<;>simp[c]
   ·by_cases e:j=i
    ·subst e;exact hb
    ·exact h1 j (by omega)
  ·refine ifT ?_ ⟨false,rfl,?_⟩
   ·revert hb;by_cases c:24<=i
    ·cases p.getLsbD i<;>cases m.getLsbD i<;>simp[c]
    ·cases p.getLsbD i<;>cases m.getLsbD i<;>simp[c]
   ·symm;rw[<- Bc2,Fm];exact fun h=>hb (h i hl)
 ·refine ifF (by simp;omega) ⟨true,rfl,?_⟩;symm;rw[Fm];exact fun j d=>h1 j (by omega)
def gB (p m:BitVec 32)(f:Nat):Int:=if p.getLsbD f then 1 else if m.getLsbD f then -1 else 0
theorem WK {N:Nat}(p m:BitVec 32)(a:vB p m=true)(f:Nat)(c:f<24)(b:1000<=N):W4 N (sOf p m) (f:Int)=some (gB p m f):=by
 unfold W4;rw[Z5 p m b];simp only[AP5,lt,Cm,WI,gB,a];rw[if_pos (by omega:(0:Int)<=(f:Int)),if_pos (by omega:(0:Int)<=(f:Int))];have e:(decide ((0:Int)<=(f:Int))&&decide ((f:Int)<24))=true:=by simp;omega
 rw[e];cases h1:p.getLsbD f<;>cases d:m.getLsbD f<;>simp
theorem gB_eq {p m a b:BitVec 32}(g:vB p m=true)(c : vB a b=true)(f:Nat)(d:f<32):(gB a b f≠0->gB p m f=gB a b f)↔((a.getLsbD f=true->p.getLsbD f=true)/\(b.getLsbD f=true->m.getLsbD f=true)):=by have h1:=((Fm p m).1 g f d).1;have i:=((Fm a b).1 c f d).1;revert h1 i;simp only[gB];cases a.getLsbD f<;>cases b.getLsbD f<;>cases p.getLsbD f<;>cases m.getLsbD f<;>simp
def Za (p m a b:BitVec 32):Bool:=vB p m&&(vB a b&&decide (∀i:Fin 32,(a.getLsbD i=true->p.getLsbD i=true)/\(b.getLsbD i=true->m.getLsbD i=true)))
theorem AC7 (a p:BitVec 32):a &&& ~~~ p=0#32 ↔ ∀i,i<32->(a.getLsbD i=true->p.getLsbD i=true):=by rw[z32];refine forall_congr' fun i=>forall_congr' fun b=>?_;rw[AQ9,AU1];cases a.getLsbD i<;>cases p.getLsbD i<;>simp[b]
theorem AC8 {N:Nat}(p m a b:BitVec 32):J5 N (sOf p m) (sOf a b)=some (Za p m a b):=by
 unfold J5;rw[Bj];simp only[AP5,lt,Bj,DX,eq0,Za];cases h1:vB p m
 ·simp
 cases d:vB a b
 ·simp
 simp only[if_true,Bb2];have key:(decide (∀i:Fin 32,(a.getLsbD i=true->p.getLsbD i=true)/\(b.getLsbD i=true->m.getLsbD i=true)))=(decide (a &&& ~~~ p=0#32)&&decide (b &&& ~~~ m=0#32)):=by rw[AS5];simp only[AP7,decide_eq_true_eq,AC7];exact⟨fun h=>⟨fun i c=>(h ⟨i,c⟩).1,fun i c=>(h ⟨i,c⟩).2⟩,fun h i=>⟨h.1 i.1 i.2,h.2 i.1 i.2⟩⟩
 rw[key];by_cases h:a &&& ~~~ p=0#32
 ·simp[h]
 ·simp[h]
theorem AC9 {N:Nat}(p m a b:BitVec 32)(f:1000<=N):O2 N (sOf p m) (sOf a b)=some (Za p m a b):=by
 suffices h:∃r,O2 N (sOf p m) (sOf a b)=some r/\r=Za p m a b by obtain⟨r,h,rfl⟩:=h;exact h
 unfold O2;rw[Z5 p m f];refine B4 rfl (ltX ?_);cases h1:vB p m
 ·exact ifT (by simp) (ifT rfl ⟨false,rfl,by simp[Za,h1]⟩)
 refine ifF (by simp) ?_;rw[Z5 a b f];refine B4 rfl ?_;cases c:vB a b
 ·exact ifT (by simp) ⟨false,rfl,by simp[Za,c]⟩
 refine ifF (by simp) ?_;refine Ae (fun i x3=>x3=(i:Int)/\∀j,j<i->((a.getLsbD j=true->p.getLsbD j=true)/\(b.getLsbD j=true->m.getLsbD j=true))) 24 _ (by omega) ⟨rfl,fun j n=>absurd n (by omega)⟩ ?_;rintro d i x3 q ⟨rfl,o⟩ hs;by_cases hl:i<24
 ·refine ifT (by simp;omega) (B4 (WK a b c i hl f) (ltX ?_));have key:=gB_eq h1 c i (by omega);have fin:(¬(gB a b i≠0->gB p m i=gB a b i))->false=Za p m a b:=fun hn=>by symm;simp only[Za,h1,c,Bb2];rw[<- Bc2,decide_eq_true_eq];intro h;exact hn (key.2 (h ⟨i,by omega⟩))
  have go:(gB a b i≠0->gB p m i=gB a b i)->∃r,d (wrap .i64 ((i:Int)+1))=some r/\r=Za p m a b:=fun hp=>hs hl _ ⟨C4 (by omega),fun j n=>by
   by_cases e:j=i
   ·subst e;exact key.1 hp
   ·exact o j (by omega)⟩
  by_cases g:gB a b i=0
  ·exact ifF (by simp[g]) (ifF (by simp) (go fun h=>absurd g h))
  ·refine ifT (by simp[g]) (B4 (WK p m h1 i hl f) ?_);by_cases l:gB p m i=gB a b i
   ·exact ifF (by simp[l]) (go fun _=>l)
   ·exact ifT (by simp[l]) ⟨false,rfl,fin fun h=>l (h g)⟩
 ·refine ifF (by simp;omega) ⟨true,rfl,?_⟩;symm;simp only[Za,h1,c,Bb2,decide_eq_true_eq];intro j;by_cases n:j.1<24
  ·exact o j.1 (by omega)
  ·have:=((Fm a b).1 c j.1 j.2).2 (by omega)
   exact⟨fun h=>by rw[this.1]at h;exact absurd h (by simp),fun h=>by rw[this.2]at h;exact absurd h (by simp)⟩
def QX (x y s:BitVec 32):BitVec 32:=(x &&& ~~~ s) ||| (y &&& s)
theorem Av0 {N:Nat}(p m a b s:BitVec 32):Bs N (sOf p m) (sOf a b) (s.toNat:Int)=some (sOf (QX p a s) (QX m b s)):=by unfold Bs;simp only[DX,Es,Jy,QX]
def AM9 (x:BitVec 32)(f:Nat)(on:Bool):BitVec 32:=if on then (x &&& ~~~ (1#32 <<< f)) ||| (1#32 <<< f)else x &&& ~~~ (1#32 <<< f)
theorem Gr (x:BitVec 32)(f:Nat)(on:Bool){j:Nat}(a:j<32):(AM9 x f on).getLsbD j=if j=f then on else x.getLsbD j:=by
 unfold AM9;cases on
 ·rw[if_neg (by simp),AQ9,AU1,Ac5 a];by_cases e:j=f<;>simp[e,a]
 ·rw[if_pos rfl,AQ8,AQ9,AU1,Ac5 a];by_cases e:j=f<;>simp[e,a]
theorem Ac6 {N:Nat}(p m:BitVec 32)(f:Nat)(v:Int):BN N (sOf p m) (f:Int) v=some (sOf (AM9 p f (v==1)) (AM9 m f (v == -1))):=by unfold BN;rw[if_pos (by omega)];simp only[AC6,DX,Jy];cases h1:v==1<;>cases a:v == -1<;>simp[AM9]
def Ap0 (p m c a b:BitVec 32):Sound×Int:=if vB p m=true/\vB a b then (if c.toNat<16777216/\c &&& (a ||| b)=0#32 then (sOf (QX p a (c ||| (a ||| b))) (QX m b (c ||| (a ||| b))),0)else (⟨0,0⟩,2))else (⟨0,0⟩,14)
theorem YB {N:Nat}(p m c a b:BitVec 32):N6 N (sOf p m) (c.toNat:Int) (sOf a b)=some (Ap0 p m c a b):=by
 unfold N6 Ap0;rw[Bj];simp only[AP5,lt,Bj,CN,Jy,Es,Av0];cases h1:vB p m
 ·simp
 cases g:vB a b
 ·simp
 by_cases d:c.toNat<16777216
 ·have e:((c &&& (a ||| b)).toNat:Int) != 0 ↔ ¬(c &&& (a ||| b)=0#32):=by
   have:=eq0 (c &&& (a ||| b))
   simp only[bne_iff_ne,ne_eq];rw[<- decide_eq_true_eq (p:=c &&& (a ||| b)=0#32),<- this];simp
  by_cases f:c &&& (a ||| b)=0#32
  ·simp[d,f];omega
  ·have e':=e.2 f;rw[if_neg (by simp<;>omega),e'];simp[d,f]
 ·simp[d];omega
theorem YC {N:Nat}(p m c a b:BitVec 32)(t:1000<=N):P6 N (sOf p m) (c.toNat:Int) (sOf a b)=some (Ap0 p m c a b):=by
 suffices h:∃r,P6 N (sOf p m) (c.toNat:Int) (sOf a b)=some r/\r=Ap0 p m c a b by obtain⟨r,h,rfl⟩:=h;exact h
 unfold P6;rw[Z5 p m t];refine B4 rfl (ltX ?_);cases h1:vB p m
 ·exact ifT (by simp) (ifT rfl ⟨_,rfl,by simp[Ap0,h1]⟩)
 refine ifF (by simp) ?_;rw[Z5 a b t];refine B4 rfl ?_;cases o:vB a b
 ·exact ifT (by simp) ⟨_,rfl,by simp[Ap0,o]⟩
 refine ifF (by simp) ?_;rw[Jy,Es];by_cases hc:c.toNat<16777216/\c &&& (a ||| b)=0#32
 ·obtain⟨q,n⟩:=hc;refine ifF (by rw[n];simp;omega) ?_;have y:∀j,j<32->¬(c.getLsbD j=true/\(a.getLsbD j=true \/ b.getLsbD j=true)):=fun j d=>by
   have:=(z32 _).1 n j d
   rw[AQ9,AQ8]at this;revert this;cases c.getLsbD j<;>cases a.getLsbD j<;>cases b.getLsbD j<;>simp
  refine Ac3 (fun i x2 x3 x4=>x4=(i:Int)/\∃P M:BitVec 32,x2=(P.toNat:Int)/\x3=(M.toNat:Int)/\∀j,j<32 ->
   P.getLsbD j=(if j<i/\(c.getLsbD j=true \/ a.getLsbD j=true \/ b.getLsbD j=true)then a.getLsbD j else p.getLsbD j)/\M.getLsbD j=(if j<i/\(c.getLsbD j=true \/ a.getLsbD j=true \/ b.getLsbD j=true)then b.getLsbD j else m.getLsbD j)) 24 _ (by omega)
   ⟨rfl,p,m,rfl,rfl,fun j d=>by simp⟩ ?_
  rintro w i x2 x3 x4 hi ⟨rfl,P,M,rfl,rfl,f⟩ hs;by_cases hl:i<24
  ·refine ifT (by simp;omega) (ifT (by omega) ?_);rw[WI];have u:=WK (N:=N) a b o i hl t;have v:=((Fm a b).1 o i (by omega)).1;have z:=y i (by omega);by_cases l:c.getLsbD i=true
   ·refine ifT l (B4 (Ac6 P M i 0) (B4 u ?_));have ea:a.getLsbD i=false:=by cases e:a.getLsbD i<;>simp_all
    have eb:b.getLsbD i=false:=by cases e:b.getLsbD i<;>simp_all
    refine ifF (by simp[gB,ea,eb]) (hs hl _ _ _ ⟨C4 (by omega),_,_,rfl,rfl,fun j d=>?_⟩);rw[Gr _ _ _ d,Gr _ _ _ d];by_cases e:j=i
    ·subst e;simp[l,ea,eb]
    ·have:=f j d
     have e2:j<i+1↔j<i:=by omega
     simp only[e,if_false,e2];exact this
   ·refine ifF l (B4 u ?_);by_cases s:gB a b i=0
    ·have ea:a.getLsbD i=false:=by revert s;simp only[gB];cases a.getLsbD i<;>simp
     have eb:b.getLsbD i=false:=by revert s;simp only[gB,ea];cases b.getLsbD i<;>simp
     refine ifF (by simp[s]) (hs hl _ _ _ ⟨C4 (by omega),P,M,rfl,rfl,fun j d=>?_⟩);by_cases e:j=i
     ·subst e;have:=f j d;simpa[l,ea,eb]using this
     ·have:=f j d
      have e2:j<i+1↔j<i:=by omega
      simp only[e2];exact this
    ·refine ifT (by simp[s]) (B4 u (B4 (Ac6 P M i _) (hs hl _ _ _ ⟨C4 (by omega),_,_,rfl,rfl,fun j d=>?_⟩)));rw[Gr _ _ _ d,Gr _ _ _ d];by_cases e:j=i
     ·subst e;revert s v;simp only[gB];cases a.getLsbD j<;>cases b.getLsbD j<;>simp
     ·have:=f j d
      have e2:j<i+1↔j<i:=by omega
      simp only[e,if_false,e2];exact this
  ·obtain rfl:i=24:=by omega
   refine ifF (by simp) ⟨_,rfl,?_⟩;simp only[Ap0,h1,o,q,n,and_self,if_true];have hp:=(Fm p m).1 h1;have x:=(Fm a b).1 o;have a0:=(Gb c).1 q;have eP:P=QX p a (c ||| (a ||| b)):=Iw fun j d=>by
    rw[(f j d).1,QX,AQ8,AQ9,AQ9,AU1,AQ8,AQ8];by_cases g:j<24
    ·cases c.getLsbD j<;>cases a.getLsbD j<;>cases b.getLsbD j<;>cases p.getLsbD j<;>simp[g,d]
    ·have g1:=(hp j d).2 (by omega);have g2:=(x j d).2 (by omega);simp[g,g1.1,g2.1]
   have eM:M=QX m b (c ||| (a ||| b)):=Iw fun j d=>by
    rw[(f j d).2,QX,AQ8,AQ9,AQ9,AU1,AQ8,AQ8];by_cases g:j<24
    ·cases c.getLsbD j<;>cases a.getLsbD j<;>cases b.getLsbD j<;>cases m.getLsbD j<;>simp[g,d]
    ·have g1:=(hp j d).2 (by omega);have g2:=(x j d).2 (by omega);simp[g,g1.2,g2.2]
   rw[eP,eM]
 ·refine ifT ?_ ⟨_,rfl,?_⟩
  ·rw[AR6,decide_eq_true_eq,bne_iff_ne];by_cases h:c.toNat<16777216
   ·right
    intro h0;exact hc ⟨h,AT1 (by show _=0;omega)⟩
   ·left;omega
  ·simp only[Ap0,h1,o,and_self,if_true];rw[if_neg hc]
def Ap1 (p m a b s:BitVec 32):Sound×Int:=if vB p m=true/\vB a b then (if s.toNat<16777216 then (sOf (QX p a s) (QX m b s),0)else (⟨0,0⟩,2))else (⟨0,0⟩,14)
theorem Ap2 {N:Nat}(p m a b s:BitVec 32):S9 N (sOf p m) (sOf a b) (s.toNat:Int)=some (Ap1 p m a b s):=by
 unfold S9 Ap1;rw[Bj];simp only[AP5,lt,Bj,Av0];cases h1:vB p m
 ·simp
 cases d:vB a b
 ·simp
 by_cases c:s.toNat<16777216
 ·simp[c];omega
 ·simp[c];omega
theorem Ap3 {N:Nat}(p m a b s:BitVec 32)(o:1000<=N):Y7 N (sOf p m) (sOf a b) (s.toNat:Int)=some (Ap1 p m a b s):=by
 suffices h:∃r,Y7 N (sOf p m) (sOf a b) (s.toNat:Int)=some r/\r=Ap1 p m a b s by obtain⟨r,h,rfl⟩:=h;exact h
 unfold Y7;rw[Z5 p m o];refine B4 rfl (ltX ?_);cases h1:vB p m
 ·exact ifT (by simp) (ifT rfl ⟨_,rfl,by simp[Ap1,h1]⟩)
 refine ifF (by simp) ?_;rw[Z5 a b o];refine B4 rfl ?_;cases l:vB a b
 ·exact ifT (by simp) ⟨_,rfl,by simp[Ap1,l]⟩
 refine ifF (by simp) ?_;by_cases hc:s.toNat<16777216
 ·refine ifF (by simp;omega) ?_;refine Ac3 (fun i x2 x3 x4=>x4=(i:Int)/\∃P M:BitVec 32,x2=(P.toNat:Int)/\x3=(M.toNat:Int)/\∀j,j<32 ->
   P.getLsbD j=(if j<i/\s.getLsbD j then a.getLsbD j else p.getLsbD j)/\M.getLsbD j=(if j<i/\s.getLsbD j then b.getLsbD j else m.getLsbD j)) 24 _ (by omega)
   ⟨rfl,p,m,rfl,rfl,fun j c=>by simp⟩ ?_
  rintro t i x2 x3 x4 u ⟨rfl,P,M,rfl,rfl,d⟩ hs;by_cases hl:i<24
  ·refine ifT (by simp;omega) (ifT (by omega) ?_);rw[WI];have q:=((Fm a b).1 l i (by omega)).1;by_cases g:s.getLsbD i=true
   ·refine ifT g (B4 (WK (N:=N) a b l i hl o) (B4 (Ac6 P M i _) (hs hl _ _ _ ⟨C4 (by omega),_,_,rfl,rfl,fun j c=>?_⟩)));rw[Gr _ _ _ c,Gr _ _ _ c];by_cases e:j=i
    ·subst e;revert q;simp only[gB,g];cases a.getLsbD j<;>cases b.getLsbD j<;>simp
    ·have:=d j c
     have e2:j<i+1↔j<i:=by omega
     simp only[e,if_false,e2];exact this
   ·refine ifF g (hs hl _ _ _ ⟨C4 (by omega),P,M,rfl,rfl,fun j c=>?_⟩);by_cases e:j=i
    ·subst e;have:=d j c;simpa[g]using this
    ·have:=d j c
     have e2:j<i+1↔j<i:=by omega
     simp only[e2];exact this
  ·obtain rfl:i=24:=by omega
   refine ifF (by simp) ⟨_,rfl,?_⟩;simp only[Ap1,h1,l,hc,and_self,if_true];have n:=(Gb s).1 hc;have eP:P=QX p a s:=Iw fun j c=>by
    rw[(d j c).1,QX,AQ8,AQ9,AQ9,AU1];by_cases f:j<24
    ·cases s.getLsbD j<;>cases a.getLsbD j<;>cases p.getLsbD j<;>simp[f,c]
    ·rw[if_neg (by simp[f]),n j (by omega) c];simp[c]
   have eM:M=QX m b s:=Iw fun j c=>by
    rw[(d j c).2,QX,AQ8,AQ9,AQ9,AU1];by_cases f:j<24
    ·cases s.getLsbD j<;>cases b.getLsbD j<;>cases m.getLsbD j<;>simp[f,c]
    ·rw[if_neg (by simp[f]),n j (by omega) c];simp[c]
   rw[eP,eM]
 ·exact ifT (by simp;omega) ⟨_,rfl,by simp[Ap1,h1,l,hc]⟩
end Go.AM
namespace Go.AM
open Go.Proofs
def vS (s:Sound):Prop:=∃p m:BitVec 32,s=sOf p m/\vB p m=true
def Gw (p:Pat):Prop:=
 (0<=p.Kind/\p.Kind<=6)/\(p.Kind≠1->(p.Is.Plus=0/\p.Is.Minus=0)/\p.Not=false)/\(p.Kind≠3->p.Kind≠4->p.Kind≠5->p.L.n=0)/\(p.Kind≠5->p.Min=0/\p.Max=0) /\
 (p.Kind=5->p.L.n=1/\0<=p.Min/\p.Min<=32/\(p.Max = -1 \/ (p.Min<=p.Max/\p.Max<=32)))/\vS p.Is
theorem Vn {s:Sound}{p m:BitVec 32}(h:s=sOf p m):vS s↔vB p m=true:=by
 constructor
 ·rintro⟨q,r,e,a⟩;rw[h]at e;have e1:(p.toNat:Int)=q.toNat:=congrArg Sound.Plus e;have e2:(m.toNat:Int)=r.toNat:=congrArg Sound.Minus e;rw[AT1 (show p.toNat=q.toNat by omega),AT1 (show m.toNat=r.toNat by omega)];exact a
 ·exact fun a=>⟨p,m,h,a⟩
def okPS:Pat->Prop
 |.nil=>True
 |.mk _ is _ _ _ n g=>okS is/\∀i,i<n->okPS (g i)
theorem okPS.is {p:Pat}(h:okPS p):okS p.Is:=by
 cases p with
 |nil=>exact⟨0#32,0#32,rfl⟩
 |mk _ is _ _ _ n g=>exact h.1
theorem okPS.L {p:Pat}(h:okPS p){i:Nat}(a:i<p.L.n):okPS (p.L.g i):=by
 cases p with
 |nil=>exact absurd a (by show ¬i<0;omega)
 |mk _ is _ _ _ n g=>exact h.2 i a
def chk:Nat->List Pat->Prop
 |0,l=>l=[]
 |_+1,[]=>True
 |k+1,p::l=>Gw p/\chk k (p.L.toList++l)
theorem Ac7:∀k,chk k []
 |0=>rfl
 |_+1=>trivial
theorem Mw:∀(k:Nat) (l:List Pat),chk k l->l.length<=k
 |0,l,h=>by rw[show l=[] from h];exact AP8 _
 |k+1,[],_=>AX9 _
 |k+1,p::l,⟨_,h⟩=>by
  have:=Mw k _ h
  rw[AT7]at this;simp only[AS3];omega
theorem WL:∀(d:Nat) (p:Pat),okP d p->okP (d+1) p
 |0,_,h=>h.elim
 |d+1,p,⟨h1,h2,h3⟩=>⟨h1,h2,fun i a=>WL d _ (h3 i a)⟩
theorem OP {α : Type}{s:Sl α}{i:Nat}(h:i<s.n):s.g i∈s.toList:=AW8.2 ⟨i,AU8.2 h,rfl⟩
theorem AP {α : Type}(s:Sl α):s.toList.length=s.n:=by simp[Sl.toList]
theorem Mx:∀(k:Nat) (l:List Pat),k<=40->chk k l->∀p∈l,okP k p
 |0,l,_,h,p,hp=>by rw[show l=[] from h]at hp;cases hp
 |k+1,[],_,_,p,hp=>by cases hp
 |k+1,q::l,hk,⟨hn,h⟩,p,hp=>by
  have ih:=Mx k _ (by omega) h;rcases AS6.1 hp with rfl|hp
  ·have hl:=Mw k _ h;rw[AT7,AP]at hl;exact⟨by omega,fun a=>hn.2.2.2.2.1 a,fun i b=>ih _ (AR9 _ (OP b))⟩
  ·exact WL k p (ih p (AQ7 _ hp))
theorem Ap4 {N:Nat}{p:Pat}(hp:okS p.Is):∃e,Eb N p=some e/\(e=0↔Gw p):=by
 obtain⟨a,b,f⟩:=hp;have i:=Vn f;unfold Eb Gw;by_cases h1:0<=p.Kind/\p.Kind<=6
 case neg=>exact ifT (by simp;omega) ⟨2,rfl,by simp;omega⟩
 refine ifF (by simp;omega) ?_;have e0:((p.Is.Plus==0)&&(p.Is.Minus==0))=decide (p.Is.Plus=0/\p.Is.Minus=0):=by rw[AS5];simp
 rw[e0];by_cases c:p.Kind≠1->(p.Is.Plus=0/\p.Is.Minus=0)/\p.Not=false
 case neg=>
  refine ifT ?_ ⟨2,rfl,by simp[c]⟩;simp only[AP7,AR6,bne_iff_ne,ne_eq,Bc2,decide_eq_false_iff_not];rw[Classical.not_imp]at c;refine⟨c.1,?_⟩;by_cases h:p.Is.Plus=0/\p.Is.Minus=0
  ·right
   cases hn:p.Not
   ·exact absurd ⟨h,hn⟩ c.2
   ·rfl
  ·exact .inl h
 refine ifF ?_ (ltX ?_)
 ·simp only[AP7,AR6,bne_iff_ne,ne_eq,Bc2,decide_eq_false_iff_not];rintro⟨g1,g2⟩;obtain⟨g3,g4⟩:=c g1;rcases g2 with g2|g2
  ·exact g2 g3
  ·rw[g4]at g2;cases g2
 have rest:(p.Kind≠3->p.Kind≠4->p.Kind≠5->p.L.n=0)->∃e,(if ((p.Kind != 5)&&((p.Min != 0)||(p.Max != 0))) then some (2:Int)else
  lt (fun (z2:Bool)=>if z2 then some 2 else (Q3 N p.Is).bind fun y1=>if (!y1) then some 14 else some 0) fun k2=>
   if (p.Kind==5) then if (((p.L.n:Nat):Int) != 1) then k2 true else if (decide (p.Min<0)) then k2 true else if (decide (32<p.Min)) then k2 true else
    if (p.Max != (-1)) then if (decide (p.Max<p.Min)) then k2 true else k2 (decide (32<p.Max))else k2 false else k2 false)=some e /\
  (e=0↔(0<=p.Kind/\p.Kind<=6)/\(p.Kind≠1->(p.Is.Plus=0/\p.Is.Minus=0)/\p.Not=false)/\(p.Kind≠3->p.Kind≠4->p.Kind≠5->p.L.n=0)/\(p.Kind≠5->p.Min=0/\p.Max=0) /\
   (p.Kind=5->p.L.n=1/\0<=p.Min/\p.Min<=32/\(p.Max = -1 \/ (p.Min<=p.Max/\p.Max<=32)))/\vS p.Is):=by
  intro j;by_cases d:p.Kind≠5->p.Min=0/\p.Max=0
  case neg=>refine ifT ?_ ⟨2,rfl,by simp[d]⟩;rw[Classical.not_imp]at d;simp only[AP7,AR6,bne_iff_ne,ne_eq];omega
  refine ifF ?_ (ltX ?_)
  ·simp only[AP7,AR6,bne_iff_ne,ne_eq];rintro⟨g1,g2⟩
   have:=d g1
   omega
  have last:(p.Kind=5->p.L.n=1/\0<=p.Min/\p.Min<=32/\(p.Max = -1 \/ (p.Min<=p.Max/\p.Max<=32)))->∃e,(if false then some (2:Int)else (Q3 N p.Is).bind fun y1=>if (!y1) then some 14 else some 0)=some e /\
   (e=0↔(0<=p.Kind/\p.Kind<=6)/\(p.Kind≠1->(p.Is.Plus=0/\p.Is.Minus=0)/\p.Not=false)/\(p.Kind≠3->p.Kind≠4->p.Kind≠5->p.L.n=0)/\(p.Kind≠5->p.Min=0/\p.Max=0) /\
    (p.Kind=5->p.L.n=1/\0<=p.Min/\p.Min<=32/\(p.Max = -1 \/ (p.Min<=p.Max/\p.Max<=32)))/\vS p.Is):=by
   intro g;refine ifF (by simp) ?_;rw[i,f,OO];refine B4 rfl ?_;cases l:vB a b
   ·exact ifT rfl ⟨14,rfl,by simp⟩
   ·exact ifF (by simp) ⟨0,rfl,by rw[<- f];exact⟨fun _=>⟨h1,c,j,d,g,rfl⟩,fun _=>rfl⟩⟩
  have bad:¬(p.Kind=5->p.L.n=1/\0<=p.Min/\p.Min<=32/\(p.Max = -1 \/ (p.Min<=p.Max/\p.Max<=32)))->∃e,(if true then some (2:Int)else (Q3 N p.Is).bind fun y1=>if (!y1) then some 14 else some 0)=some e /\
   (e=0↔(0<=p.Kind/\p.Kind<=6)/\(p.Kind≠1->(p.Is.Plus=0/\p.Is.Minus=0)/\p.Not=false)/\(p.Kind≠3->p.Kind≠4->p.Kind≠5->p.L.n=0)/\(p.Kind≠5->p.Min=0/\p.Max=0) /\
    (p.Kind=5->p.L.n=1/\0<=p.Min/\p.Min<=32/\(p.Max = -1 \/ (p.Min<=p.Max/\p.Max<=32)))/\vS p.Is):=fun g=>ifT rfl ⟨2,rfl,⟨fun h=>absurd h (by decide),fun h=>absurd h.2.2.2.2.1 g⟩⟩
  by_cases k5:p.Kind=5
  ·refine ifT (by simp[k5]) ?_;by_cases g1:p.L.n=1
   case neg=>exact ifT (by simp;omega) (bad fun h=>g1 (h k5).1)
   refine ifF (by simp;omega) ?_;by_cases g2:p.Min<0
   ·exact ifT (by simpa using g2) (bad fun h=>by have:=h k5;omega)
   refine ifF (by simpa using g2) ?_;by_cases g3:32<p.Min
   ·exact ifT (by simpa using g3) (bad fun h=>by have:=h k5;omega)
   refine ifF (by simpa using g3) ?_;by_cases g4:p.Max = -1
   ·exact ifF (by simp[g4]) (last fun _=>⟨g1,by omega,by omega,.inl g4⟩)
   refine ifT (by simp[g4]) ?_;by_cases g5:p.Max<p.Min
   ·exact ifT (by simpa using g5) (bad fun h=>by have:=h k5;omega)
   refine ifF (by simpa using g5) ?_;by_cases g6:32<p.Max
   ·rw[decide_eq_true g6];exact bad fun h=>by have:=h k5;omega
   ·rw[decide_eq_false g6];exact last fun _=>⟨g1,by omega,by omega,.inr ⟨by omega,by omega⟩⟩
  ·exact ifF (by simp[k5]) (last fun h=>absurd h k5)
 by_cases k3:p.Kind=3
 ·exact ifF (by simp[k3]) (ifF (by simp) (rest fun h=>absurd k3 h))
 refine ifT (by simp[k3]) ?_;by_cases k4:p.Kind=4
 ·exact ifF (by simp[k4]) (ifF (by simp) (rest fun _ h=>absurd k4 h))
 refine ifT (by simp[k4]) ?_;by_cases k5:p.Kind=5
 ·exact ifF (by simp[k5]) (ifF (by simp) (rest fun _ _ h=>absurd k5 h))
 refine ifT (by simp[k5]) ?_;by_cases hn:p.L.n=0
 ·exact ifF (by simp;omega) (rest fun _ _ _=>hn)
 ·exact ifT (by simp;omega) ⟨2,rfl,⟨fun h=>absurd h (by decide),fun h=>absurd (h.2.2.1 k3 k4 k5) hn⟩⟩
theorem EU {α : Type}(s:Sl α){i:Nat}(h:i<s.n):s.toList.drop i=s.g i::s.toList.drop (i+1):=by
 have hl:i<s.toList.length:=by rw[AP];exact h
 rw[Ba1 hl];simp[Sl.toList]
theorem CY {α : Type}(s:Sl α):s.toList.drop s.n=[]:=AW3 (by rw[AP];exact AP8 _)
theorem Ac8 {N:Nat}(o:1000<=N):∀(d:Nat),d<=40->∀(p:Pat),okPS p->∀M,N+d+1<=M->∃r,Cv M p ((40-d:Nat):Int)=some r /\
 ∃k:Nat,r.1=(k:Int)/\40-d<=k/\k<=40/\(r.2=0->40-d<k/\∀l,chk d (p::l)↔chk (40-k) l)/\(r.2≠0->∀l,¬chk d (p::l))
 |d,hd,p,hp,0,hM=>by omega
 |0,hd,p,hp,M+1,hM=>by show ∃r,W8 (Cv M) M p _=some r/\_;unfold W8;exact ifT (by simp) ⟨_,rfl,40,rfl,by omega,by omega,fun h=>absurd h (by decide),fun _ l h=>by cases h⟩
 |d+1,hd,p,hp,M+1,hM=>by
  show ∃r,W8 (Cv M) M p _=some r/\_;unfold W8;refine ifF (by simp;omega) ?_;obtain⟨e,q,hn⟩:=Ap4 (N:=M) hp.is;refine B4 q ?_;by_cases c:e=0
  case neg=>exact ifT (by simp[c]) ⟨_,rfl,40-(d+1),rfl,AP8 _,by omega,fun h=>absurd h c,fun _ l h=>c (hn.2 h.1)⟩
  refine ifF (by simp[c]) ?_;have a:=hn.1 c;rw[C4 (by omega)];refine S8 (fun i x1 x2=>x2=(i:Int)/\∃k:Nat,x1=(k:Int)/\40-(d+1)+1+i<=k/\k<=40/\i<=p.L.n/\∀l,chk (d+1) (p::l)↔chk (40-k) (p.L.toList.drop i++l)) 41 _ (by omega)
   ⟨rfl,40-(d+1)+1,rfl,by omega,by omega,by omega,fun l=>by rw[show 40-(40-(d+1)+1)=d by omega];exact⟨fun h=>h.2,fun h=>⟨a,h⟩⟩⟩ ?_
  rintro j i x1 x2 t ⟨rfl,k,rfl,h1,s,u,f⟩ hs;by_cases hl:i<p.L.n
  ·refine ifT (by simp;omega) (ifT (by omega) ?_);obtain⟨r,m,k',r1,r2,r3,r4,r5⟩:=Ac8 o (40-k) (by omega) (p.L.g i) (hp.L hl) M (by omega);rw[show ((40-(40-k):Nat):Int)=(k:Int) by omega]at m;refine B4 (by rw[AP2];exact m) ?_;by_cases b:r.2=0
   ·refine ifF (by simp[b]) (hs (by omega) _ _ ⟨C4 (by omega),k',r1,by have:=(r4 b).1;omega,r3,by omega,fun l=>?_⟩);rw[f,EU _ hl,AT3];exact (r4 b).2 _
   ·refine ifT (by simp[b]) ⟨_,rfl,k',r1,by omega,r3,fun h=>absurd h b,fun _ l hc=>?_⟩;rw[f,EU _ hl,AT3]at hc;exact r5 b _ hc
  ·obtain rfl:i=p.L.n:=by omega
   refine ifF (by simp) ⟨_,rfl,k,rfl,by omega,s,fun _=>⟨by omega,fun l=>?_⟩,fun h=>absurd rfl h⟩;rw[f,CY];rfl
theorem My {N:Nat}(f:2000<=N){p:Pat}(hp:okPS p):∃e,AE N p=some e/\(e=0↔chk 40 [p]):=by
 obtain⟨r,b,k,h1,g,i,c,d⟩:=Ac8 (N:=1500) (by omega) 40 (AP8 _) p hp N (by omega);unfold AE;refine B4 b ⟨_,rfl,fun h=>?_,fun h=>?_⟩
 ·exact ((c h).2 []).2 (Ac7 _)
 ·by_cases a:r.2=0
  ·exact a
  ·exact absurd h (d a [])
end Go.AM
namespace Go.AM
open Go.Proofs
theorem Ac9 (x:BitVec 64)(h:x≠0#64):Lib.ctz 64 x.toNat<64/\x.getLsbD (Lib.ctz 64 x.toNat)=true/\∀j,j<Lib.ctz 64 x.toNat->x.getLsbD j=false:=by
 have b:x.toNat≠0:=fun e=>h (AT1 (by simpa using e));obtain⟨m,hm,a⟩:=Lib.ctzFrom_spec 64 x.toNat (by omega) x.isLt;have e:Lib.ctz 64 x.toNat=Lib.ctzFrom 64 x.toNat:=by unfold Lib.ctz;rw[if_neg b]
 rw[e];refine⟨a,?_,fun j c=>?_⟩
 ·show x.toNat.testBit _=true;rw[hm,Be4];simp[<- hm,Nat.testBit_zero]
 ·show x.toNat.testBit _=false;rw[hm,Be4];simp[<- hm];omega
def EV (x:BitVec 64)(i:Nat):List Int:=((List.range' i (64-i)).filter fun j=>x.getLsbD j).map fun (j:Nat)=>(j:Int)
theorem Jf {x:BitVec 64}{i:Nat}(h:∀j,j<64->x.getLsbD j=false):EV x i=[]:=by
 unfold EV;rw[Bf1.2 fun j a=>by
  have:=List.mem_range'.1 a
  simp;exact h j (by omega)]
 rfl
theorem OQ {x:BitVec 64}{t:Nat}:∀(k i:Nat),t=i+k->t<64->x.getLsbD t=true->(∀j,j<t->x.getLsbD j=false)->EV x i=(t:Int)::EV x (t+1)
 |0,i,h,ht,hb,hl=>by
  obtain rfl:t=i:=by omega
  unfold EV;rw[show 64-t=(64-(t+1))+1 by omega,Ba5,Be5 hb];rfl
 |k+1,i,h,ht,hb,hl=>by rw[<- OQ k (i+1) (by omega) ht hb hl];unfold EV;rw[show 64-i=(64-(i+1))+1 by omega,Ba5,Be6 (by simp;exact hl i (by omega))]
theorem Vo {x y:BitVec 64}{i:Nat}(h:∀j,i<=j->x.getLsbD j=y.getLsbD j):EV x i=EV y i:=by unfold EV;rw[List.filter_congr fun j a=>h j (by have:=List.mem_range'.1 a;omega)]
def AO9 (M:Nat)(a:Int->Option (List Int))(x1:Int):Option (List Int):=
 if (x1 != 0) then
  (G0 M x1).bind fun y3=>
  if (0:Int)<=y3 then
   AB y3 (
    a (E5 .andNot .u64 x1 (shI .shl .u64 1 y3))
    )
  else none
 else
  some []
theorem Ad0 {x:BitVec 64}{M:Nat}{a:Int->Option (List Int)}(hx:x≠0#64):AO9 M a (U x)=AB ((Lib.ctz 64 x.toNat:Nat):Int) (a (U (x &&& ~~~(1#64 <<< Lib.ctz 64 x.toNat)))):=by
 have c:x.toNat≠0:=fun e=>hx (AT1 (by simpa using e));have b:=x.isLt;unfold AO9;rw[if_pos (by simp;omega)]
 have:G0 M (U x)=some ((Lib.ctz 64 x.toNat:Nat):Int):=by unfold G0;rw[if_pos ⟨show (0:Int)<=(x.toNat:Int) by omega,show (x.toNat:Int)<18446744073709551616 by omega⟩];rfl
 rw[this,AP5,if_pos (by omega),SF _ (Ac9 x hx).1,Ao3]
theorem Tb {M:Nat}{a:Int->Option (List Int)}:AO9 M a (U 0#64)=some []:=rfl
theorem AD0 (M:Nat):∀(k i:Nat) (x:BitVec 64),64-i<=k->(∀j,j<i->x.getLsbD j=false)->∀N,k<N->R6 N (AO9 M) (U x)=some (EV x i):=by
 intro k
 induction k with
 |zero=>
  intro i x hk hl N b;have g:x=0#64:=AU5 fun j a=>by simp;exact hl j (by omega)
  subst g
  match N,b with
  |N+1,_=>rw[Jf fun j a=>by simp,AY,Tb]
 |succ k ih=>
  intro i x hk hl N b
  match N,b with
  |N+1,b=>
   by_cases hx:x=0#64
   ·subst hx;rw[Jf fun j a=>by simp,AY,Tb]
   ·obtain⟨h1,c,d⟩:=Ac9 x hx;have l:i<=Lib.ctz 64 x.toNat:=by
     by_cases m:Lib.ctz 64 x.toNat<i
     ·rw[hl _ m]at c;cases c
     ·omega
    rw[OQ (Lib.ctz 64 x.toNat-i) i (by omega) h1 c d,AY,Ad0 hx];generalize Lib.ctz 64 x.toNat=t at h1 c d l;have hb:∀j,j<64->(x &&& ~~~(1#64 <<< t)).getLsbD j=(x.getLsbD j && !decide (j=t)):=fun j a=>by rw[AQ9,AU1,FO h1 a];simp[a]
    have hc:EV x (t+1)=EV (x &&& ~~~(1#64 <<< t)) (t+1):=Vo fun j a=>by
     by_cases f:j<64
     ·rw[hb j f];have:¬j=t:=by omega
      simp[this]
     ·rw[Bg0 _ _ (by omega),Bg0 _ _ (by omega)]
    rw[ih (t+1) (x &&& ~~~(1#64 <<< t)) (by omega) (fun j a=>by
     rw[hb j (by omega)];by_cases e:j=t
     ·simp[e]
     ·rw[d j (by omega)];rfl) N (by omega),<- hc]
    rfl
theorem Ho (x:BitVec 64){N:Nat}(b:100<=N):P0 N (U x)=some (EV x 0):=
 AD0 N 64 0 x (by omega) (fun j a=>absurd a (by omega)) N (by omega)
theorem mem_bitsF {x:BitVec 64}{i:Nat}{y:Int}:y∈EV x i ↔ ∃j:Nat,y=(j:Int)/\i<=j/\j<64/\x.getLsbD j=true:=by
 unfold EV;simp only[AW8,Bb4,Be1];constructor
 ·rintro⟨j,⟨h1,a⟩,rfl⟩;exact⟨j,rfl,h1.1,by omega,a⟩
 ·rintro⟨j,rfl,h1,a,b⟩;exact⟨j,⟨⟨h1,by omega⟩,b⟩,rfl⟩
theorem Ap5 {T A R:Type}{body:(A->Option R)->T->A->Option R}{k:A->Option R}{K0:R->Prop}(J:List T->A->Prop)(c:∀a,J [] a->∃r,k a=some r/\K0 r)
 (b:∀t L a self,J (t::L) a->(∀a',J L a' -> ∃r,self a' = some r/\K0 r)->∃r,body self t a=some r/\K0 r):∀(L:List T) (a:A),J L a->∃r,O6 L body k a=some r/\K0 r
 |[],a,h=>c a h
 |t::L,a,h=>b t L a _ h fun a' h'=>Ap5 J c b L a' h'
def TabA (n:Nat)(R:Nat->Nat->Prop)(f:Nat->Int):Prop:=TabR n R f/\∀a,n<a->f a=0
theorem TabA.congr {n:Nat}{R R' : Nat->Nat->Prop}{f:Nat->Int}(h:TabA n R f)(c:∀a b,a<=n->b<=n->(R a b↔R' a b)):TabA n R' f:=⟨h.1.congr c,h.2⟩
theorem zeroA (n:Nat):TabA n (fun _ _=>False) (fun _=>0):=⟨Ao9 fun _ _=>rfl,fun _ _=>rfl⟩
theorem Dp (f:Nat->Int)(i:Nat)(v:Int)(a:Nat):Lh f i v a=if a=i then v else f a:=rfl
theorem Av1 {N n:Nat}{R S:Nat->Nat->Prop}{x y:Nat->Int}(hn:n<=32)(f:1000<=N)(hR:TabA n R x)(hS:TabA n S y) :∃s,K9 N x y=some s/\TabA n (fun a b=>R a b \/ S a b) s:=by
 unfold K9;refine S8 (fun i x1 x2=>x2=(i:Int)/\∀a,x1 a=if a<i then E5 .or .u64 (x a) (y a)else x a) 33 _ (by omega) ⟨rfl,fun a=>by rw[if_neg (by omega)]⟩ ?_;rintro d i x1 x2 g ⟨rfl,c⟩ hs;by_cases hl:i<33
 ·refine ifT (by simp;omega) (ifT (by omega) (ifT (by omega) (hs (by omega) _ _ ⟨C4 (by omega),fun a=>?_⟩)));rw[Dp,AP2,AS4,AU3];by_cases e:a=i
  ·subst e;rw[if_pos rfl,if_pos (by omega),c a,if_neg (by omega)]
  ·rw[if_neg e,c a];by_cases e2:a<i
   ·rw[if_pos e2,if_pos (by omega)]
   ·rw[if_neg e2,if_neg (by omega)]
 ·refine ifF (by simp;omega) ⟨x1,rfl,fun a ha=>?_,fun a ha=>?_⟩
  ·obtain⟨u,e1,g1⟩:=hR.1 a ha;obtain⟨v,e2,g2⟩:=hS.1 a ha;refine⟨u ||| v,by rw[c a,if_pos (by omega),e1,e2,AO8],fun b hb=>?_⟩;rw[AQ8,AR6,g1 b hb,g2 b hb];constructor
   ·rintro (⟨h1,c⟩ | ⟨h1,c⟩)
    ·exact⟨h1,.inl c⟩
    ·exact⟨h1,.inr c⟩
   ·rintro⟨h1,c|c⟩
    ·exact .inl ⟨h1,c⟩
    ·exact .inr ⟨h1,c⟩
  ·rw[c a];split
   ·rw[hR.2 a ha,hS.2 a ha];rfl
   ·exact hR.2 a ha
theorem Gc {N n:Nat}(hn:n<=32)(f:1000<=N):∃s,O3 N (n:Int)=some s/\TabA n (fun a b=>a=b) s:=by
 unfold O3;rw[C4 (by omega)];refine S8 (fun i x1 x2=>x2=(i:Int)/\∀a,x1 a=if a<i then U (1#64 <<< a)else 0) (n+1) _ (by omega) ⟨rfl,fun a=>rfl⟩ ?_;rintro d i x1 x2 g ⟨rfl,c⟩ hs;by_cases hl:i<=n
 ·refine ifT (by simp;omega) (ifT (by omega) (hs (by omega) _ _ ⟨C4 (by omega),fun a=>?_⟩));rw[Dp,AP2,AS4,AU3];by_cases e:a=i
  ·subst e;rw[if_pos rfl,if_pos (by omega),SF _ (by omega)]
  ·rw[if_neg e,c a];by_cases e2:a<i
   ·rw[if_pos e2,if_pos (by omega)]
   ·rw[if_neg e2,if_neg (by omega)]
 ·refine ifF (by simp;omega) ⟨x1,rfl,fun a ha=>⟨1#64 <<< a,by rw[c a,if_pos (by omega)],fun b hb=>?_⟩,fun a ha=>by rw[c a,if_neg (by omega)]⟩;rw[FO (by omega) hb,decide_eq_true_eq];omega
theorem Ku {N n:Nat}{R S:Nat->Nat->Prop}{x y:Nat->Int}(hn:n<=32)(hN:1000<=N)(hR:TabA n R x)(hS:TabA n S y) :∃s,D9 N x y=some s/\TabA n (fun a b=>∃c,c<=n/\R a c/\S c b) s:=by
 unfold D9;refine S8 (fun i x3 x4=>x4=(i:Int)/\(∀a,a<i->a<=n->∃z:BitVec 64,x3 a=U z/\∀b,b<64->(z.getLsbD b=true↔b<=n/\∃c,c<=n/\R a c/\S c b))/\∀a,i<=a \/ n<a->x3 a=0) 33 _ (by omega)
  ⟨rfl,fun a ha=>absurd ha (by omega),fun a _=>rfl⟩ ?_
 rintro a1 i x3 x4 hi ⟨rfl,q,m⟩ hs;by_cases hl:i<33
 ·refine ifT (by simp;omega) (ifT (by omega) ?_);rw[AP2,AS4,AU3];refine B4 (x:=x i) rfl ?_;by_cases r:i<=n
  ·obtain⟨u,e1,g1⟩:=hR.1 i r;refine B4 (x:=EV u 0) (by rw[e1];exact Ho u (by omega)) ?_;refine Ap5 (fun L z=>(∀a,a≠i->z a=x3 a)/\(∀t∈L,∃c:Nat,t=(c:Int)/\c<=n/\R i c)/\∃v:BitVec 64,z i=U v/\∀b,b<64->((v.getLsbD b=true \/ ∃c:Nat,(c:Int)∈L/\b<=n/\S c b)↔(b<=n/\∃c,c<=n/\R i c/\S c b))) ?_ ?_ _ _ ?_
   ·rintro z ⟨k1,k2,v,k3,k4⟩;refine hs (by omega) _ _ ⟨C4 (by omega),fun a ha f=>?_,fun a ha=>?_⟩
    ·by_cases e:a=i
     ·subst e;exact⟨v,k3,fun b hb=>by rw[<- k4 b hb];simp⟩
     ·obtain⟨z',p1,p2⟩:=q a (by omega) f;exact⟨z',by rw[k1 a e];exact p1,p2⟩
    ·rw[k1 a (by omega)];exact m a (by omega)
   ·rintro t L z w ⟨k1,k2,v,k3,k4⟩ a0;obtain⟨c,rfl,hc,a2⟩:=k2 t (by simp);refine ifT (by omega) (a0 _ ⟨fun a ha=>?_,fun t ht=>k2 t (by simp[ht]),?_⟩)
    ·rw[Dp,if_neg (by omega)];exact k1 a ha
    ·obtain⟨yc,e2,g2⟩:=hS.1 c hc;refine⟨v ||| yc,?_,fun b hb=>?_⟩
     ·rw[Dp,if_pos (by omega)];simp only[AP2,AS4,AU3];rw[k3,e2,AO8]
     ·rw[<- k4 b hb,AQ8,AR6,g2 b hb];constructor
      ·rintro ((h|⟨h,h'⟩)|⟨c',h,h'⟩)
       ·exact .inl h
       ·exact .inr ⟨c,by simp,h,h'⟩
       ·exact .inr ⟨c',by simp[h],h'⟩
      ·rintro (h|⟨c',h,h',d⟩)
       ·exact .inl (.inl h)
       ·rcases AS6.1 h with h|h
        ·have:c' = c:=by omega
         subst this;exact .inl (.inr ⟨h',d⟩)
        ·exact .inr ⟨c',h,h',d⟩
   ·refine⟨fun _ _=>rfl,fun t ht=>?_,0#64,m i (.inl (AP8 _)),fun b hb=>?_⟩
    ·obtain⟨j,rfl,_,o,hb⟩:=mem_bitsF.1 ht;exact⟨j,rfl,((g1 j o).1 hb).1,((g1 j o).1 hb).2⟩
    ·simp only[Bd0,AQ0,false_or];constructor
     ·rintro⟨c,hc,h,h'⟩;obtain⟨j,o,_,g,l⟩:=mem_bitsF.1 hc;obtain rfl:c=j:=by omega
      exact⟨h,c,((g1 c g).1 l).1,((g1 c g).1 l).2,h'⟩
     ·rintro⟨h,c,hc,h',d⟩;exact⟨c,mem_bitsF.2 ⟨c,rfl,by omega,by omega,(g1 c (by omega)).2 ⟨hc,h'⟩⟩,h,d⟩
  ·refine B4 (x:=[]) (by rw[hR.2 i (by omega)];exact (Ho 0#64 (by omega)).trans (by rw[Jf fun j o=>by simp])) ?_;exact hs (by omega) _ _ ⟨C4 (by omega),fun a ha f=>q a (by omega) f,fun a ha=>m a (by omega)⟩
 ·exact ifF (by simp;omega) ⟨x3,rfl,fun a ha=>q a (by omega) ha,fun a ha=>m a (.inr ha)⟩
theorem Ap6 (N:Nat)(x:Nat->Int):I5 N x=D9 N x x:=rfl
end Go.AM
namespace Go.AM
open Go.Proofs
theorem AN0:∀m:Fin 33,(E5 .and .i64 ((m.val:Nat):Int) 1==1)=decide (m.val % 2=1)/\shI .shr .i64 ((m.val:Nat):Int) 1=((m.val / 2:Nat):Int):=by decide +kernel
theorem Tc {N n:Nat}{R:Nat->Nat->Prop}{x:Nat->Int}(hn:n<=32)(o:1000<=N)(u:Fwd n R)(hR:TabA n R x){k:Nat}(hk:k<=32) :∃s,F1 N x (k:Int) (n:Int)=some s/\TabA n (GS n R k) s:=by
 unfold F1;obtain⟨y1,e1,h1⟩:=Gc (N:=N) hn o;refine B4 e1 ?_;refine Ac3 (fun i x1 x2 x3=>x1=((k / 2 ^ i:Nat):Int)/\TabA n (GS n R (2 ^ i)) x2/\TabA n (GS n R (k % 2 ^ i)) x3) 6 _ (by omega) ⟨by simp,?_,?_⟩ ?_
 ·exact hR.congr fun a b ha hb=>⟨fun h=>⟨a,ha,rfl,h⟩,fun⟨c,hc,(h:a=c),h'⟩=>h ▸ h'⟩
 ·rw[Nat.pow_zero,Nat.mod_one];exact h1
 ·rintro v i x1 x2 x3 w ⟨rfl,q,l⟩ hs;have hm:k / 2 ^ i<=32:=AU9 (Nat.div_le_self _ _) hk;obtain⟨b1,b2⟩:=AN0 ⟨k / 2 ^ i,by omega⟩;simp only at b1 b2;have f:k / 2 ^ i / 2=k / 2 ^ (i+1):=by rw[Nat.div_div_eq_div_mul,Nat.pow_succ]
  have g:k % 2 ^ (i+1)=k % 2 ^ i+2 ^ i*(k / 2 ^ i % 2):=Nat.mod_pow_succ;have d:∃s,I5 N x2=some s/\TabA n (GS n R (2 ^ (i+1))) s:=by obtain⟨s,e,h⟩:=Ku hn o q q;refine⟨s,(Ap6 N x2).trans e,h.congr fun a b ha hb=>?_⟩;rw[show 2 ^ (i+1)=2 ^ i+2 ^ i by rw[Nat.pow_succ];omega];exact (Dj u (2 ^ i) ha (2 ^ i) b).symm
  obtain⟨sq,esq,d⟩:=d;by_cases m:k / 2 ^ i=0
  ·refine ifF (by simp[m]) ⟨x3,rfl,?_⟩
   have:k % 2 ^ i=k:=AX7 (by
    have:=Bg5.1 m
    rcases this with h|h
    ·exact absurd h (Nat.ne_of_gt (Nat.two_pow_pos i))
    ·exact h)
   rw[this]at l;exact l
  ·have j:i<6:=by
    by_cases h:i<6
    ·exact h
    ·exact absurd (AX1 (Bh2 hk (AR4 (by decide:32<2 ^ 6) (AY2 (by omega) (by omega))))) m
   refine ifT (decide_eq_true (Int.natCast_pos.2 (Nat.pos_of_ne_zero m))) ?_;by_cases r:k / 2 ^ i % 2=1
   ·refine ifT (by rw[b1];simp[r]) ?_;obtain⟨t,et,ht⟩:=Ku hn o l q;refine B4 et (B4 esq (hs j _ _ _ ⟨by rw[b2,f],d,ht.congr fun a b ha hb=>?_⟩));rw[g,r,AU3];exact (Dj u (k % 2 ^ i) ha (2 ^ i) b).symm
   ·refine ifF (by rw[b1];simp[r]) (B4 esq (hs j _ _ _ ⟨by rw[b2,f],d,?_⟩));rw[g,show k / 2 ^ i % 2=0 by omega,Nat.mul_zero,AX4];exact l
theorem AD1 {s c:Sound}(hs:okS s)(hc:okS c):((E5 .or .u32 (E5 .andNot .u32 c.Plus s.Plus) (E5 .andNot .u32 c.Minus s.Minus))==0)=US s c:=by
 obtain⟨p,m,rfl⟩:=hs;obtain⟨a,b,rfl⟩:=hc;have e:∀x y:BitVec 32,((E5 .and .u32 (x.toNat:Int) (y.toNat:Int))==(y.toNat:Int))=decide (y &&& ~~~ x=0#32):=by
  intro x y;rw[Es,AS5];simp only[beq_iff_eq,decide_eq_true_eq];constructor
  ·intro h;have h:x &&& y=y:=AT1 (by omega);refine (z32 _).2 fun i d=>?_
   have:=congrArg (·.getLsbD i) h
   simp only[AQ9,AU1,d,decide_true,Bb2]at this⊢;cases hx:x.getLsbD i<;>cases hy:y.getLsbD i<;>simp_all
  ·intro h
   have:x &&& y=y:=Iw fun i d=>by
    have:=(z32 _).1 h i d
    simp only[AQ9,AU1,d,decide_true,Bb2]at this⊢;cases hx:x.getLsbD i<;>cases hy:y.getLsbD i<;>simp_all
   rw[this]
 unfold US;simp only[e,DX,Jy,eq0];rw[AS5];simp only[AP7,decide_eq_true_eq];constructor
 ·intro h;have h:=(z32 _).1 h;exact⟨(z32 _).2 fun i d=>by have:=h i d;rw[AQ8,AY3]at this;exact this.1,(z32 _).2 fun i d=>by have:=h i d;rw[AQ8,AY3]at this;exact this.2⟩
 ·rintro⟨h1,f⟩;rw[h1,f];rfl
theorem Ad1 {N:Nat}(q:1000<=N){w:Sl Sound}(hw:w.n<=32)(l:∀i,i<w.n->okS (w.g i)){c:Sound}(hc:okS c)(no:Bool) :∃f,X1 N ⟨c,no⟩ w=some f/\TabA w.n (fun a b=>a<w.n/\b=a+1/\(US (w.g a) c != no)=true) f:=by
 unfold X1;refine S8 (fun i x1 x2=>x2=(i:Int)/\∀a,x1 a=if a<i/\(US (w.g a) c != no) then U (1#64 <<< (a+1))else 0) w.n _ (by omega) ⟨rfl,fun a=>by rw[if_neg (by omega)]⟩ ?_;rintro m i x1 x2 r ⟨rfl,d⟩ hs;by_cases hl:i<w.n
 ·refine ifT (by simp;omega) (ifT (by omega) ?_);rw[AP2,AD1 (l i hl) hc];by_cases hb:(US (w.g i) c != no)=true
  ·refine ifT (by revert hb;cases US (w.g i) c<;>cases no<;>simp) ?_;rw[C4 (by omega)];refine ifT (by omega) (hs hl _ _ ⟨rfl,fun a=>?_⟩);rw[Dp,AS4,AU3,SF _ (by omega)];by_cases e:a=i
   ·subst e;rw[if_pos rfl,if_pos ⟨by omega,hb⟩]
   ·rw[if_neg e,d a];by_cases e2:a<i
    ·simp only[e2,show a<i+1 by omega,true_and]
    ·rw[if_neg (by omega),if_neg (by omega)]
  ·refine ifF (by revert hb;cases US (w.g i) c<;>cases no<;>simp) (hs hl _ _ ⟨C4 (by omega),fun a=>?_⟩);rw[d a];by_cases e:a=i
   ·subst e;rw[if_neg (by omega),if_neg (fun h=>hb h.2)]
   ·by_cases e2:a<i
    ·simp only[e2,show a<i+1 by omega,true_and]
    ·rw[if_neg (by omega),if_neg (by omega)]
 ·refine ifF (by simp;omega) ⟨x1,rfl,fun a ha=>?_,fun a ha=>by rw[d a,if_neg (by omega)]⟩;by_cases hb:a<w.n/\(US (w.g a) c != no)=true
  ·refine⟨1#64 <<< (a+1),by rw[d a,if_pos ⟨by omega,hb.2⟩],fun b j=>?_⟩;rw[FO (by omega) j,decide_eq_true_eq];exact⟨fun h=>⟨by omega,hb.1,h,hb.2⟩,fun h=>h.2.2.1⟩
  ·refine⟨0#64,by rw[d a,if_neg (fun h=>hb ⟨by omega,h.2⟩)];rfl,fun b j=>?_⟩;simp only[Bd0,AQ0,false_iff];rintro⟨_,h1,d,o⟩;exact hb ⟨h1,o⟩
theorem Ad2 {n a0 b0:Nat}(ha:a0<=n)(hb:b0<=n)(hn:n<=32):TabA n (fun a b=>a=a0/\b=b0) (Lh (fun _=>0) a0 (U (1#64 <<< b0))):=by
 refine⟨fun a d=>?_,fun a d=>by rw[Dp,if_neg (by omega)]⟩;by_cases e:a=a0
 ·refine⟨1#64 <<< b0,by rw[Dp,if_pos e],fun b c=>?_⟩;rw[FO (by omega) c,decide_eq_true_eq];omega
 ·refine⟨0#64,by rw[Dp,if_neg e];rfl,fun b c=>?_⟩;simp only[Bd0,AQ0,false_iff];exact fun h=>e h.2.1
theorem WM {N:Nat}{w:Sl Sound}(hw:w.n<=32)(e:Bool):∃f,Aq N ⟨e⟩ w=some f/\TabA w.n (fun a b=>a=(if e then w.n else 0)/\b=(if e then w.n else 0)) f:=by
 unfold Aq;cases e
 ·refine ifF (by simp) (ifT (by decide) ⟨_,rfl,?_⟩);exact Ad2 (n:=w.n) (a0:=0) (b0:=0) (by omega) (by omega) hw
 ·refine ifT rfl (ifT (by omega) ⟨_,rfl,?_⟩);rw[AP2,AS4,AU3,SF _ (by omega)];exact Ad2 (AP8 _) (AP8 _) hw
theorem AD2 {N:Nat}(a:1000<=N){w:Sl Sound}(hw:w.n<=32){rec:Part->Sl Sound->Option (Nat->Int)}{m:Nat}(hm:m<=40){g:Nat->Part}{Q:Nat->Nat->Nat->Prop}
 (hc:∀i,i<m->∃f,rec (g i) w=some f/\TabA w.n (Q i) f):∃f,Be rec N ⟨⟨m,g⟩⟩ w=some f/\TabA w.n (Yl w.n Q m) f:=by
 unfold Be;obtain⟨y1,e1,h1⟩:=Gc (N:=N) hw a;refine B4 e1 ?_;refine S8 (fun i x1 x2=>x2=(i:Int)/\i<=m/\TabA w.n (Yl w.n Q i) x1) m _ (by omega) ⟨rfl,by omega,h1⟩ ?_;rintro b i x1 x2 o ⟨rfl,d,c⟩ hs;by_cases hl:i<m
 ·refine ifT (by simp;omega) (ifT (by show (0:Int)<=i/\(i:Int)<m;omega) ?_);obtain⟨f,e2,j⟩:=hc i hl;refine B4 (by rw[AP2];exact e2) ?_;obtain⟨s,e3,l⟩:=Ku hw a c j;exact B4 e3 (hs hl _ _ ⟨C4 (by omega),hl,l⟩)
 ·obtain rfl:i=m:=by omega
  exact ifF (by simp) ⟨x1,rfl,c⟩
theorem AD3 {N:Nat}(l:1000<=N){w:Sl Sound}(hw:w.n<=32){rec:Part->Sl Sound->Option (Nat->Int)}{m:Nat}(hm:m<=40){g:Nat->Part}{Q:Nat->Nat->Nat->Prop}
 (hc:∀i,i<m->∃f,rec (g i) w=some f/\TabA w.n (Q i) f):∃f,Bf rec N ⟨⟨m,g⟩⟩ w=some f/\TabA w.n (fun a b=>∃i,i<m/\Q i a b) f:=by
 unfold Bf;refine S8 (fun i x1 x2=>x2=(i:Int)/\i<=m/\TabA w.n (fun a b=>∃j,j<i/\Q j a b) x1) m _ (by omega) ⟨rfl,by omega,(zeroA _).congr fun a b _ _=>⟨False.elim,fun⟨j,h,_⟩=>absurd h (by omega)⟩⟩ ?_;rintro c i x1 x2 t ⟨rfl,o,d⟩ hs;by_cases hl:i<m
 ·refine ifT (by simp;omega) (ifT (by show (0:Int)<=i/\(i:Int)<m;omega) ?_);obtain⟨f,e2,q⟩:=hc i hl;refine B4 (by rw[AP2];exact e2) ?_;obtain⟨s,e3,r⟩:=Av1 hw l d q;refine B4 e3 (hs hl _ _ ⟨C4 (by omega),hl,r.congr fun a b _ _=>⟨?_,?_⟩⟩)
  ·rintro (⟨j,h,h'⟩ | h)
   ·exact⟨j,by omega,h'⟩
   ·exact⟨i,by omega,h⟩
  ·rintro⟨j,h,h'⟩;by_cases e:j=i
   ·subst e;exact .inr h'
   ·exact .inl ⟨j,by omega,h'⟩
 ·obtain rfl:i=m:=by omega
  exact ifF (by simp) ⟨x1,rfl,d⟩
end Go.AM
namespace Go.AM
open Go.Proofs
theorem AD4 {N:Nat}(l:1000<=N){w:Sl Sound}(hw:w.n<=32){rec:Part->Sl Sound->Option (Nat->Int)}{pt:Part}{Q:Nat->Nat->Prop}(d:Fwd w.n Q){f:Nat->Int}(u:rec pt w=some f)(r:TabA w.n Q f)
 {mn mx:Int}(y:0<=mn) (h1:mn<=32) (z:mx = -1 \/ (mn<=mx/\mx<=32)) :
 ∃s,Bg rec N ⟨pt,mn,mx⟩ w=some s/\TabA w.n (fun a b=>∃k:Nat,mn<=k/\(mx = -1 \/ (k:Int)<=mx)/\GS w.n Q k a b) s:=by
 obtain⟨m,rfl⟩:∃m:Nat,mn=(m:Int):=⟨mn.toNat,by omega⟩;unfold Bg;refine B4 u ?_;obtain⟨y2,e2,t2⟩:=Tc hw l d r (k:=m) (by omega);refine B4 e2 ?_;obtain⟨y3,e3,t3⟩:=Gc (N:=N) hw l;refine B4 e3 ?_;obtain⟨y4,e4,t4⟩:=Av1 hw l r t3;refine B4 e4 ?_;have o : Fwd w.n (fun a b=>Q a b \/ a=b):=fun a b ha h=>by
  rcases h with h|h
  ·exact d a b ha h
  ·omega
 have key:∀(K:Nat),K<=32->∃s,((F1 N y4 (K:Int) (w.n:Int)).bind fun y5=>(D9 N y2 y5).bind fun y6=>some y6)=some s/\TabA w.n (fun a b=>∃j,j<=K/\GS w.n Q (m+j) a b) s:=by
  intro K v;obtain⟨y5,e5,t5⟩:=Tc hw l o t4 (k:=K) v;refine B4 e5 ?_;obtain⟨y6,e6,t6⟩:=Ku hw l t2 t5;refine B4 e6 ⟨y6,rfl,t6.congr fun a b ha hb=>?_⟩;constructor
  ·rintro⟨c,hc,g1,g2⟩;obtain⟨j,i,g3⟩:=(Mc d hc K b).1 g2;exact⟨j,i,(Dj d m ha j b).2 ⟨c,hc,g1,g3⟩⟩
  ·rintro⟨j,i,g⟩;obtain⟨c,hc,g1,g3⟩:=(Dj d m ha j b).1 g;exact⟨c,hc,g1,(Mc d hc K b).2 ⟨j,i,g3⟩⟩
 by_cases hx:mx<0
 ·refine ifT (decide_eq_true hx) ?_;obtain⟨s,e,t⟩:=key w.n hw;refine⟨s,e,t.congr fun a b ha hb=>?_⟩;constructor
  ·rintro⟨j,i,g⟩;exact⟨m+j,by omega,.inl (by omega),g⟩
  ·rintro⟨k,hk,_,g⟩;obtain⟨c,hc,g1,g3⟩:=(Dj d m ha (k-m) b).1 (by rw[show m+(k-m)=k by omega];exact g);obtain⟨j,i,g4⟩:=SI d hc (k-m) g3;exact⟨j,i,(Dj d m ha j b).2 ⟨c,hc,g1,g4⟩⟩
 ·refine ifF (by simpa using hx) ?_;obtain⟨M,rfl⟩:∃M:Nat,mx=(M:Int):=⟨mx.toNat,by omega⟩;have q:IntKind.i64.wrap ((M:Int)-(m:Int))=((M-m:Nat):Int):=by rw[F2 (by omega) (by omega)];omega
  rw[show IntKind.i64.wrap ((⟨pt,(m:Int),(M:Int)⟩:AM0).max-(⟨pt,(m:Int),(M:Int)⟩:AM0).min)=((M-m:Nat):Int) from q];obtain⟨s,e,t⟩:=key (M-m) (by omega);refine⟨s,e,t.congr fun a b ha hb=>?_⟩;constructor
  ·rintro⟨j,i,g⟩;exact⟨m+j,by omega,.inr (by omega),g⟩
  ·rintro⟨k,hk,x,g⟩;exact⟨k-m,by omega,by rw[show m+(k-m)=k by omega];exact g⟩
def okQ:Nat->Pat->Prop
 |0,_=>False
 |d+1,p=>Gw p/\p.L.n<=40/\∀i,i<p.L.n->okQ d (p.L.g i)
theorem WN:∀(d:Nat) (p:Pat),okQ d p->okQ (d+1) p
 |0,_,h=>h.elim
 |d+1,p,⟨h1,h2,h3⟩=>⟨h1,h2,fun i a=>WN d _ (h3 i a)⟩
theorem Ad3:∀(k:Nat) (l:List Pat),k<=40->chk k l->∀p∈l,okQ k p
 |0,l,_,h,p,hp=>by rw[show l=[] from h]at hp;cases hp
 |k+1,[],_,_,p,hp=>by cases hp
 |k+1,q::l,hk,⟨hn,h⟩,p,hp=>by
  have ih:=Ad3 k _ (by omega) h;rcases AS6.1 hp with rfl|hp
  ·have hl:=Mw k _ h;rw[AT7,AP]at hl;exact⟨hn,by omega,fun i a=>ih _ (AR9 _ (OP a))⟩
  ·exact WN k p (ih p (AQ7 _ hp))
theorem vS.ok {s:Sound}(h:vS s):okS s:=by obtain⟨p,m,e,_⟩:=h;exact⟨p,m,e⟩
def AD5 (K:Nat)(p:Pat)(pt:Part):Prop:=∀(w:Sl Sound),w.n<=32->(∀i,i<w.n->okS (w.g i))->∀M,K<=M->∃f,At M pt w=some f/\TabA w.n (PR w p) f
theorem Mz {N:Nat}(x:1000<=N):∀(d:Nat),d<=40->∀(p:Pat),okQ d p->∀M,N+d<=M->∃pt,Ar M p=some pt/\AD5 (N+d) p pt
 |0,_,p,h,_,_=>h.elim
 |d+1,hd,p,⟨hn,hc,hch⟩,0,hM=>by omega
 |d+1,hd,p,⟨hn,hc,hch⟩,M+1,hM=>by
  show ∃pt,T9 (Ar M) M p=some pt/\_;unfold T9;refine S8 (fun i x1 x2=>x2=(i:Int)/\i<=p.L.n/\x1.n=i/\∀j,j<i->AD5 (N+d) (p.L.g j) (x1.g j)) p.L.n _ (by omega) ⟨rfl,by omega,rfl,fun j t=>absurd t (by omega)⟩ ?_;rintro u i x1 x2 v ⟨rfl,h1,q,o⟩ hs;by_cases hl:i<p.L.n
  ·refine ifT (by simp;omega) (ifT (by omega) ?_);obtain⟨pt,e,y⟩:=Mz x d (by omega) (p.L.g i) (hch i hl) M (by omega);refine B4 (by rw[AP2];exact e) ?_;refine ifT (by show (x1.n+1)*16<=_/\x1.n+1<=_;omega) (hs hl _ _ ⟨C4 (by omega),hl,by show x1.n+1=i+1;omega,fun j t=>?_⟩);by_cases e2:j=i
   ·subst e2
    have:(x1.push pt).g j=pt:=by simp[Sl.push,q]
    rw[this];exact y
   ·have:(x1.push pt).g j=x1.g j:=by simp[Sl.push];omega
    rw[this];exact o j (by omega)
  ·obtain rfl:i=p.L.n:=by omega
   have fin:∀(pt:Part),(∀(w:Sl Sound),w.n<=32->(∀i,i<w.n->okS (w.g i))->∀M,N+d<=M->∃f,At (M+1) pt w=some f/\TabA w.n (PR w p) f)->∃r,some pt=some r/\AD5 (N+(d+1)) p r:=by intro pt h;refine⟨pt,rfl,fun w hw c M' l=>?_⟩;obtain⟨M'',rfl⟩:∃M'',M' = M'' + 1:=⟨M' - 1,by omega⟩;exact h w hw c M'' (by omega)
   refine ifF (by simp) ?_;obtain⟨⟨k0,k6⟩,n1,n2,n3,n4,n5⟩:=hn;by_cases k1:p.Kind=1
   ·refine ifT (by simp[k1]) (fin _ fun w hw c M' l=>?_);obtain⟨f,e,h⟩:=Ad1 (N:=M') (by omega) hw c n5.ok p.Not;refine⟨f,e,h.congr fun a b _ _=>?_⟩;rw[Ki];simp[k1]
   refine ifF (by simp[k1]) ?_;by_cases k2:p.Kind=2
   ·refine ifT (by simp[k2]) (fin _ fun w hw c M' l=>?_);obtain⟨f,e,h⟩:=WM (N:=M') hw false;refine⟨f,e,h.congr fun a b _ _=>?_⟩;rw[Ki];simp[k2]
   refine ifF (by simp[k2]) ?_;by_cases k6:p.Kind=6
   ·refine ifT (by simp[k6]) (fin _ fun w hw c M' l=>?_);obtain⟨f,e,h⟩:=WM (N:=M') hw true;refine⟨f,e,h.congr fun a b _ _=>?_⟩;rw[Ki];simp[k6]
   refine ifF (by simp[k6]) ?_;by_cases k4:p.Kind=4
   ·refine ifT (by simp[k4]) (fin _ fun w hw c M' l=>?_);obtain⟨f,e,h⟩:=AD3 (N:=M') (by omega) hw (rec:=At M') (m:=x1.n) (g:=x1.g) (Q:=fun i=>PR w (p.L.g i)) (by omega) fun i v=>o i (by omega) w hw c M' (by omega);refine⟨f,e,h.congr fun a b _ _=>?_⟩;rw[Ki,q];simp[k4]
   refine ifF (by simp[k4]) ?_;by_cases k5:p.Kind=5
   ·obtain⟨g1,g2,g3,g4⟩:=n4 k5;refine ifT (by simp[k5]) (ifT (by omega) (fin _ fun w hw c M' l=>?_));obtain⟨f,e,h⟩:=o 0 (by omega) w hw c M' (by omega);obtain⟨s,e2,z⟩:=AD4 (N:=M') (by omega) hw (rec:=At M') (SJ w (p.L.g 0)) e h g2 g3 g4;refine⟨s,e2,z.congr fun a b _ _=>?_⟩;rw[Ki];simp[k5]
   ·refine ifF (by simp[k5]) (fin _ fun w hw c M' l=>?_);obtain⟨f,e,h⟩:=AD2 (N:=M') (by omega) hw (rec:=At M') (m:=x1.n) (g:=x1.g) (Q:=fun i=>PR w (p.L.g i)) (by omega) fun i v=>o i (by omega) w hw c M' (by omega);refine⟨f,e,h.congr fun a b _ _=>?_⟩;rw[Ki,q];by_cases k3:p.Kind=3
    ·simp[k3]
    ·have k0' : p.Kind=0:=by omega
     rw[n2 k3 k4 k5];simp[k0',Yl]
end Go.AM
namespace Go.AM
open IntKind (wrap)
open Go.Proofs
theorem YD {N:Nat}{p:Pat}(hp:okS p.Is):∃e,An N p=some e/\(e=0↔Gw p):=by
 obtain⟨a,b,i⟩:=hp;have m:=Vn i;have V:N8 N p.Is=some (vB a b):=by rw[i];exact SZ a b
 have e0:((p.Is.Plus==0)&&(p.Is.Minus==0))=decide (p.Is.Plus=0/\p.Is.Minus=0):=by rw[AS5];simp
 have fin:(Gw p↔vS p.Is)->∃e,((N8 N p.Is).bind fun y1=>if (!y1) then some (14:Int)else some 0)=some e/\(e=0↔Gw p):=by
  intro c;rw[V];refine B4 rfl ?_;rw[c,m];cases vB a b
  ·exact ifT rfl ⟨14,rfl,by simp⟩
  ·exact ifF (by simp) ⟨0,rfl,by simp⟩
 have bad:∀{x:Int},x≠0->¬Gw p->∃e,some x=some e/\(e=0↔Gw p):=fun hx h=>⟨_,rfl,fun d=>absurd d hx,fun d=>absurd d h⟩;unfold An;by_cases hk:p.Kind=0 \/ p.Kind=2 \/ p.Kind=6
 ·refine ifT (by rcases hk with h|h|h<;>simp[h]) (ltX ?_);rw[e0];by_cases g1:p.Is.Plus=0/\p.Is.Minus=0
  case neg=>exact ifT (by simp[g1]) (ifT rfl (bad (by decide) fun h=>g1 (h.2.1 (by omega)).1))
  refine ifF (by simp[g1]) ?_;by_cases g2:p.Not=true
  ·exact ifT g2 (ifT rfl (bad (by decide) fun h=>by have:=(h.2.1 (by omega)).2;rw[g2]at this;cases this))
  refine ifF g2 ?_;by_cases g3:p.Min=0
  case neg=>exact ifT (by simp[g3]) (ifT rfl (bad (by decide) fun h=>g3 (h.2.2.2.1 (by omega)).1))
  refine ifF (by simp[g3]) ?_;by_cases g4:p.Max=0
  case neg=>exact ifT (by simp[g4]) (ifT rfl (bad (by decide) fun h=>g4 (h.2.2.2.1 (by omega)).2))
  refine ifF (by simp[g4]) ?_;by_cases g5:p.L.n=0
  case neg=>exact ifT (by simp;omega) (bad (by decide) fun h=>g5 (h.2.2.1 (by omega) (by omega) (by omega)))
  refine ifF (by simp;omega) (fin ?_);exact⟨fun h=>h.2.2.2.2.2,fun h=>⟨by omega,fun _=>⟨g1,by simpa using g2⟩,fun _ _ _=>g5,fun _=>⟨g3,g4⟩,fun f=>by omega,h⟩⟩
 refine ifF (by simp only[not_or]at hk;simp[hk]) ?_;by_cases k1:p.Kind=1
 ·refine ifT (by simp[k1]) (ltX ?_);refine ifF (by simp) ?_;by_cases g3:p.Min=0
  case neg=>exact ifT (by simp[g3]) (ifT rfl (bad (by decide) fun h=>g3 (h.2.2.2.1 (by omega)).1))
  refine ifF (by simp[g3]) ?_;by_cases g4:p.Max=0
  case neg=>exact ifT (by simp[g4]) (ifT rfl (bad (by decide) fun h=>g4 (h.2.2.2.1 (by omega)).2))
  refine ifF (by simp[g4]) ?_;by_cases g5:p.L.n=0
  case neg=>exact ifT (by simp;omega) (bad (by decide) fun h=>g5 (h.2.2.1 (by omega) (by omega) (by omega)))
  refine ifF (by simp;omega) (fin ?_);exact⟨fun h=>h.2.2.2.2.2,fun h=>⟨by omega,fun h1=>absurd k1 h1,fun _ _ _=>g5,fun _=>⟨g3,g4⟩,fun f=>by omega,h⟩⟩
 refine ifF (by simp[k1]) (ltX ?_);rw[e0];have tail:∀(x y:Int),(Gw p↔(p.Is.Plus=0/\p.Is.Minus=0)/\p.Not=false/\x=0/\y=0/\vS p.Is)->∃e,(if (((((decide (p.Is.Plus=0/\p.Is.Minus=0) != true)||p.Not)||(x != 0))||(y != 0))||(decide (0<0))) then some (2:Int)else
  (N8 N p.Is).bind fun y3=>if (!y3) then some 14 else some 0)=some e/\(e=0↔Gw p):=by
  intro x y c;by_cases g:(p.Is.Plus=0/\p.Is.Minus=0)/\p.Not=false/\x=0/\y=0
  ·obtain⟨g1,g2,g3,g4⟩:=g;exact ifF (by simp[g1,g2,g3,g4]) (fin (c.trans ⟨fun h=>h.2.2.2.2,fun h=>⟨g1,g2,g3,g4,h⟩⟩))
  ·refine ifT ?_ (bad (by decide) fun h=>g ⟨(c.1 h).1,(c.1 h).2.1,(c.1 h).2.2.1,(c.1 h).2.2.2.1⟩);simp only[AR6,bne_iff_ne,ne_eq,decide_eq_true_eq];by_cases g1:p.Is.Plus=0/\p.Is.Minus=0
   ·by_cases g2:p.Not=true
    ·simp[g2]
    ·by_cases g3:x=0
     ·have:¬y=0:=fun g4=>g ⟨g1,by simpa using g2,g3,g4⟩
      simp[this]
     ·simp[g3]
   ·simp[g1]
 by_cases k34:p.Kind=3 \/ p.Kind=4
 ·refine ifT (by rcases k34 with h|h<;>simp[h]) (tail _ _ ?_);constructor
  ·exact fun h=>⟨(h.2.1 k1).1,(h.2.1 k1).2,(h.2.2.2.1 (by omega)).1,(h.2.2.2.1 (by omega)).2,h.2.2.2.2.2⟩
  ·rintro⟨h1,d,j,l,f⟩;exact⟨by omega,fun _=>⟨h1,d⟩,fun h h'=>by omega,fun _=>⟨j,l⟩,fun h=>by omega,f⟩
 refine ifF (by simp only[not_or]at k34;simp[k34]) ?_;by_cases k5:p.Kind=5
 ·refine ifT (by simp[k5]) ?_;by_cases g:p.L.n=1/\0<=p.Min/\p.Min<=32/\(p.Max = -1 \/ (p.Min<=p.Max/\p.Max<=32))
  ·refine ifF (by simp only[AR6,AP7,bne_iff_ne,ne_eq,decide_eq_true_eq];omega) (tail 0 0 ?_);constructor
   ·exact fun h=>⟨(h.2.1 k1).1,(h.2.1 k1).2,rfl,rfl,h.2.2.2.2.2⟩
   ·rintro⟨h1,d,j,l,f⟩;exact⟨by omega,fun _=>⟨h1,d⟩,fun _ _ h=>absurd k5 h,fun h=>absurd k5 h,fun _=>g,f⟩
  ·exact ifT (by simp only[AR6,AP7,bne_iff_ne,ne_eq,decide_eq_true_eq];omega) (bad (by decide) fun h=>g (h.2.2.2.2.1 k5))
 ·exact ifF (by simp[k5]) (bad (by decide) fun h=>by have:=h.1;omega)
theorem Ad4 {x:Sl Pat}{m:Nat}(h:x.n=m+1):x.toList.reverse=x.g m::(x.take m).toList.reverse:=by unfold Sl.toList;rw[h,AY6,AY7,AX5];rfl
theorem Ap7 (z:Sl Pat)(q:Pat):((z.push Pat.nil).upd z.n q).toList.reverse=q::z.toList.reverse:=by
 rw[Ad4 (m:=z.n) rfl];have e1:((z.push Pat.nil).upd z.n q).g z.n=q:=by simp
 have e2:(((z.push Pat.nil).upd z.n q).take z.n).toList=z.toList:=by
  unfold Sl.toList;refine AS2 fun i a=>?_
  have:i<z.n:=AU8.1 a
  show (if i=z.n then q else if i<z.n then z.g i else Pat.nil)=z.g i;rw[if_neg (by omega),if_pos this]
 rw[e1,e2]
theorem Vp {N:Nat}(q:Sl Pat)(c:q.n<N)(hs:q.n<1000000):C9 N q=some ((List.range q.n).reverse.map fun (i:Nat)=>((i:Int),q.g i)):=by
 unfold C9;have h:∀(m:Nat),m<=q.n->∀F,m<F->R6 F (fun (a:Int->Option (List (Int×Pat))) (x1:Int)=>
  if (decide (0<=x1)) then
   if ((0:Int)<=x1/\x1<(q.n:Int))then
    AB (x1,q.g x1.toNat) (
     a (wrap .i64 (x1-1))
     )
   else none
  else
   some []) ((m:Int)-1)=some ((List.range m).reverse.map fun (i:Nat)=>((i:Int),q.g i)):=by
  intro m
  induction m with
  |zero=>
   intro _ F b
   match F,b with
   |F+1,_=>rfl
  |succ m ih=>
   intro hm F b
   match F,b with
   |F+1,b=>rw[AY];rw[show ((m+1:Nat):Int)-1=(m:Int) by omega,if_pos (by simp),if_pos (by omega),F2 (by omega) (by omega),ih (by omega) F (by omega),AP2,AY6,AX5,Bf2,Bf7,AS0];rfl
 rw[F2 (by omega) (by omega)];exact h q.n (AP8 _) N c
theorem AD6 {k:Nat}(hk:k<=40){c:Sl Pat}{l:List Pat}:chk k ((c.take (min 41 c.n)).toList++l)↔chk k (c.toList++l):=by
 by_cases h:c.n<=41
 ·rw[Bc1 h]
 ·constructor
  ·intro a
   have:=Mw _ _ a
   rw[AT7,AP]at this
   have:(c.take (min 41 c.n)).n=41:=AW4 (by omega)
   omega
  ·intro a
   have:=Mw _ _ a
   rw[AT7,AP]at this;omega
theorem QB {N:Nat}(hN:2000<=N){p:Pat}(hp:okPS p):∃e,X2 N p=some e/\(e=0↔chk 40 [p]):=by
 unfold X2;refine S8 (fun i x3 x4=>x4=(i:Int)/\x3.n<=1+41*i/\(∀q∈x3.toList.reverse,okPS q)/\(chk 40 [p]↔chk (40-i) x3.toList.reverse)) 40 _ (by omega)
  ⟨rfl,by show 1<=_;omega,fun q l=>by rw[show (Sl.of [p]:Sl Pat).toList.reverse=[p] from rfl]at l;rw[AX8.1 l];exact hp,AY5⟩ ?_
 rintro x i x3 x4 hi ⟨rfl,h1,c,f⟩ hs;rcases hn:x3.n with _|m
 ·refine ifF (by simp) ⟨0,rfl,fun _=>f.2 ?_,fun _=>rfl⟩
  have:x3.toList.reverse=[]:=by unfold Sl.toList;rw[hn];rfl
  rw[this];exact Ac7 _
 ·rw[Ad4 hn]at f c;refine ifT (decide_eq_true (by omega)) ?_;by_cases r:i=40
  ·subst r;refine ifT (by simp) ⟨12,rfl,fun h=>absurd h (by decide),fun h=>?_⟩
   have:(x3.g m::(x3.take m).toList.reverse)=[]:=f.1 h
   cases this
  refine ifF (by simp;omega) ?_;have hw:IntKind.i64.wrap (((m+1:Nat):Int)-1)=(m:Int):=by rw[F2 (by omega) (by omega)];omega
  simp only[hw,AP2];refine ifT (by omega) (ifT (by omega) ?_);obtain⟨e,y,a⟩:=YD (N:=N) (c (x3.g m) (by simp)).is;refine B4 y ?_;rw[show 40-i=(39-i)+1 by omega]at f;by_cases o:e=0
  case neg=>exact ifT (by simp[o]) ⟨e,rfl,fun h=>absurd h o,fun h=>absurd (a.2 (f.1 h).1) o⟩
  refine ifF (by simp[o]) ?_;have hc:(if (41:Int)<((x3.g m).L.n:Int)then (41:Int)else ((x3.g m).L.n:Int))=((min 41 (x3.g m).L.n:Nat):Int):=by split<;>omega
  simp only[hc,AP2];refine ifT (by omega) (B4 rfl (B4 (Vp _ (by show min 41 _<N;omega) (by show min 41 _<1000000;omega)) ?_));generalize s:(x3.g m).L.take (min 41 (x3.g m).L.n)=C;have a0:C.n<=41:=by rw[<- s];exact Nat.min_le_left _ _
  refine Ap5 (fun L z=>∃j,j<=C.n/\L=((List.range j).reverse.map fun (i:Nat)=>((i:Int),C.g i))/\z.n=m+(C.n-j)/\z.toList.reverse=C.toList.drop j++(x3.take m).toList.reverse) ?_ ?_ _ _ ⟨C.n,AP8 _,rfl,by show m=_;omega,by rw[CY];rfl⟩
  ·rintro z ⟨j,hj,hL,hz,b⟩;have u:j=0:=by
    cases j with
    |zero=>rfl
    |succ j=>simp[AY6]at hL
   subst u;rw[Bd5]at b;refine hs (by omega) _ _ ⟨C4 (by omega),by omega,fun q l=>?_,?_⟩
   ·rw[b]at l;rcases List.mem_append.1 l with h|h
    ·obtain⟨i',d,rfl⟩:=AW8.1 h;have d:=AU8.1 d;rw[<- s]at d⊢;exact (c (x3.g m) (by simp)).L (AR4 d (Nat.min_le_right _ _))
    ·exact c q (by simp[h])
   ·rw[b,f,show 40-(i+1)=39-i by omega,<- s,AD6 (by omega)];exact⟨fun h=>h.2,fun h=>⟨a.1 o,h⟩⟩
  ·rintro t L z v ⟨j,hj,hL,hz,b⟩ w;cases j with
   |zero=>simp at hL
   |succ j=>rw[AY6,AX5,Bf2,Bf7,AS0]at hL;obtain⟨rfl,rfl⟩:=List.cons.inj hL;have e1:(z.n:Int).toNat=z.n:=AP2 _;refine ifT ⟨⟨⟨by show (z.n+1)*64<=_;omega,by show z.n+1<=_;omega⟩,by show (0:Int)<=_/\(z.n:Int)<((z.n+1:Nat):Int);omega⟩,by show z.n<z.n+1;omega⟩ ?_;refine w _ ⟨j,by omega,rfl,by show z.n+1=_;omega,?_⟩;rw[Ap7,b,EU C (i:=j) (by omega),AT3]
end Go.AM
namespace Go.AM
open IntKind (wrap)
open Go.Proofs
def wOk (w:Sl Sound):Prop:=w.n<=32/\∀i,i<w.n->vS (w.g i)
theorem JU {N:Nat}{w:Sl Sound}(m:w.n<N)(hs:w.n<1000000){f:Sound->Option Bool}{b:Nat->Bool}(o:∀i,i<w.n->f (w.g i)=some (b i)) :∃r,B5 N w f=some r/\(r=true ↔ ∃i,i<w.n/\b i=true):=by
 unfold B5 D8
 have:∃y,R6 N (fun (a:Int->Option Int) (x1:Int)=>
  if (decide (x1<(w.n:Int))) then
   if ((0:Int)<=x1/\x1<(w.n:Int))then
    (f (w.g x1.toNat)).bind fun y3=>
    if y3 then
     some x1
    else
     a (wrap .i64 (x1+1))
   else none
  else
   some (-1)) 0=some y/\(0<=y ↔ ∃i,i<w.n/\b i=true):=by
  refine Ae (fun i x1=>x1=(i:Int)/\∀j,j<i->b j=false) w.n _ m ⟨rfl,fun j c=>absurd c (by omega)⟩ ?_;rintro l i x1 q ⟨rfl,h⟩ d;by_cases hl:i<w.n
  ·refine ifT (by simp;omega) (ifT (by omega) (B4 (by rw[AP2];exact o i hl) ?_));cases hb:b i
   ·refine ifF (by simp) (d hl _ ⟨C4 (by omega),fun j c=>?_⟩);by_cases e:j=i
    ·subst e;exact hb
    ·exact h j (by omega)
   ·exact ifT rfl ⟨i,rfl,fun _=>⟨i,hl,hb⟩,fun _=>by omega⟩
  ·refine ifF (by simp;omega) ⟨-1,rfl,fun h=>absurd h (by decide),?_⟩;rintro⟨j,c,hb⟩;rw[h j (by omega)]at hb;cases hb
 obtain⟨y,e,hy⟩:=this;exact B4 e ⟨_,rfl,by rw[decide_eq_true_eq];exact hy⟩
theorem OT {N:Nat}(z:3000<=N){p:Pat}(hp:okPS p){w:Sl Sound}(hs:w.n<1000000/\w.n+1000<N)(hw:∀i,i<w.n->okS (w.g i)) :∃r,Z1 N p w=some r/\(r.2=0↔chk 40 [p]/\wOk w)/\(r.2=0->TabA w.n (PR w p) r.1):=by
 unfold Z1;obtain⟨e,l,hc⟩:=QB (N:=N) (by omega) hp;refine B4 l ?_;by_cases d:e=0
 case neg=>exact ifT (by simp[d]) ⟨_,rfl,⟨fun h=>absurd h d,fun h=>absurd (hc.2 h.1) d⟩,fun h=>absurd h d⟩
 refine ifF (by simp[d]) ?_;by_cases hn:32<w.n
 ·exact ifT (by simp;omega) ⟨_,rfl,⟨fun h=>absurd h (by decide),fun h=>by have:=h.2.1;omega⟩,fun h=>absurd h (by decide)⟩
 refine ifF (by simp;omega) ?_;have s:∀i,∃b:Bool,i<w.n->S2 N (w.g i)=some b/\(b=true ↔ ¬vS (w.g i)):=by
  intro i;by_cases a:i<w.n
  ·obtain⟨x,y,l⟩:=hw i a;refine⟨!vB x y,fun _=>⟨?_,?_⟩⟩
   ·unfold S2;rw[l,SZ];rfl
   ·rw[Vn l];cases vB x y<;>simp
  ·exact⟨false,fun h=>absurd h a⟩
 obtain⟨b,hb⟩:=AX3 s;obtain⟨r,t,j⟩:=JU (N:=N) (by omega) hs.1 (f:=fun u1=>S2 N u1) fun i a=>(hb i a).1;refine B4 t ?_;by_cases c:r=true
 ·refine ifT c ⟨_,rfl,⟨fun h=>absurd h (by decide),fun h=>?_⟩,fun h=>absurd h (by decide)⟩;obtain⟨i,a,m⟩:=j.1 c;exact absurd (h.2.2 i a) ((hb i a).2.1 m)
 ·refine ifF c ?_;have o:wOk w:=⟨by omega,fun i a=>AS9 fun q=>c (j.2 ⟨i,a,(hb i a).2.2 q⟩)⟩;obtain⟨pt,ep,u⟩:=Mz (N:=1000) (by omega) 40 (AP8 _) p (Ad3 40 [p] (AP8 _) (hc.1 d) p (by simp)) N (by omega);refine B4 ep ?_;obtain⟨f,ef,v⟩:=u w (by omega) hw N (by omega);exact B4 ef ⟨_,rfl,⟨fun _=>⟨hc.1 d,o⟩,fun _=>rfl⟩,fun _=>v⟩
end Go.AM
namespace Go.AM
open Go.Proofs
theorem YE {N:Nat}(o:3000<=N){p:Pat}(hp:okPS p){w:Sl Sound}(hs:w.n<1000000/\w.n+1000<N)(hw:∀i,i<w.n->okS (w.g i))(at_:Int) :∃r,Bh N p w at_=some r/\(0<r.1.n↔chk 40 [p]/\wOk w/\0<=at_/\at_<=w.n/\∃a,a<=w.n/\PR w p a at_.toNat):=by
 unfold Bh;obtain⟨y,e,h1,q⟩:=OT o hp hs hw;refine B4 e (ltX ?_);by_cases c:y.2=0
 case neg=>refine ifF (by simp[c]) (ifT (by simp[c]) ⟨_,rfl,fun h=>absurd h (by show ¬ 0<0;omega),fun h=>absurd (h1.2 ⟨h.1,h.2.1⟩) c⟩)
 refine ifT (by simp[c]) ?_;obtain⟨hc,d⟩:=h1.1 c;have s:=q c;have hn:=d.1;unfold Y8;by_cases f:at_<0 \/ (w.n:Int)<at_
 ·rw[if_pos (by simpa using f)];refine B4 rfl (ifT (by decide) ⟨_,rfl,fun h=>absurd h (by show ¬ 0<0;omega),fun h=>by omega⟩)
 rw[if_neg (by simpa using f)];refine B4 rfl (ifF (by simp) ?_);obtain⟨k,rfl⟩:∃k:Nat,at_=(k:Int):=⟨at_.toNat,by omega⟩;rw[C4 (by omega),AP2];refine S8 (fun i x2 x3=>x3=(i:Int)/\x2.n<=i/\(0<x2.n ↔ ∃a,a<i/\PR w p a k)) (w.n+1) _ (by omega) ⟨rfl,AP8 _,fun h=>absurd h (by show ¬ 0<0;omega),fun⟨a,h,_⟩=>absurd h (by omega)⟩ ?_;rintro m i x2 x3 t ⟨rfl,g1,g2⟩ j;by_cases hl:i<=w.n
 ·refine ifT (by simp;omega) (ifT (by omega) ?_);rw[AP2,AS4,AU3];have hb:=s.1.bit hl (b:=k) (by omega);by_cases l:PR w p i k
  ·refine ifT (hb.2 ⟨by omega,l⟩) (ifT (by show (x2.n+1)*8<=_/\x2.n+1<=_;omega) (j (by omega) _ _ ⟨C4 (by omega),by show x2.n+1<=_;omega,fun _=>⟨i,by omega,l⟩,fun _=>by show 0<x2.n+1;omega⟩))
  ·refine ifF (fun h=>l (hb.1 h).2) (j (by omega) _ _ ⟨C4 (by omega),by omega,fun h=>?_,fun⟨a,ha,h⟩=>?_⟩)
   ·obtain⟨a,ha,h'⟩:=g2.1 h;exact⟨a,by omega,h'⟩
   ·by_cases e2:a=i
    ·subst e2;exact absurd h l
    ·exact g2.2 ⟨a,by omega,h⟩
 ·refine ifF (by simp;omega) ⟨_,rfl,fun h=>?_,fun h=>?_⟩
  ·obtain⟨a,ha,h'⟩:=g2.1 h;exact⟨hc,d,by omega,by omega,a,by omega,h'⟩
  ·obtain⟨a,ha,h'⟩:=h.2.2.2.2;exact g2.2 ⟨a,by omega,h'⟩
theorem Vq {N:Nat}(L:List Int)(hL:L.length<1000):∃s,K4 N L=some s/\s.n=L.length:=by
 unfold K4 H1
 have:∃s:Sl Int,O6 L (fun (a:Sl Int->Option (Sl Int)) (x1:Int) (z1:Sl Int)=>
  if ((z1.n+(Sl.of [x1]:Sl Int).n)*8<=140737488355328/\z1.n+(Sl.of [x1]:Sl Int).n<=140737488355328)then
   a (z1.push x1)
  else none
  ) (fun (z1:Sl Int)=>some z1) (Sl.nil:Sl Int)=some s/\s.n=L.length:=by
  refine Ap5 (fun l z=>z.n+l.length=L.length) (fun z h=>⟨z,rfl,by simpa using h⟩) (fun t l z b h hs=>?_) L _ (by simp);simp only[AS3]at h;exact ifT (by show (z.n+1)*8<=_/\z.n+1<=_;omega) (hs _ (by show z.n+1+l.length=_;omega))
 obtain⟨s,e,hn⟩:=this;exact B4 e ⟨s,rfl,hn⟩
theorem Ap8 {N:Nat}(l:3000<=N){p:Pat}(hp:okPS p){w:Sl Sound}(hs:w.n<1000000/\w.n+1000<N)(hw:∀i,i<w.n->okS (w.g i))(at_:Int) :∃r,CU N p w at_=some r/\(0<r.1.n↔chk 40 [p]/\wOk w/\0<=at_/\at_<=w.n/\∃b,b<=w.n/\PR w p at_.toNat b):=by
 unfold CU;obtain⟨y,e,h1,m⟩:=OT l hp hs hw;refine B4 e (ltX ?_);by_cases c:y.2=0
 case neg=>refine ifF (by simp[c]) (ifT (by simp[c]) ⟨_,rfl,fun h=>absurd h (by show ¬ 0<0;omega),fun h=>absurd (h1.2 ⟨h.1,h.2.1⟩) c⟩)
 refine ifT (by simp[c]) ?_;obtain⟨hc,d⟩:=h1.1 c;have o:=m c;have hn:=d.1;unfold Y8;by_cases f:at_<0 \/ (w.n:Int)<at_
 ·rw[if_pos (by simpa using f)];refine B4 rfl (ifT (by decide) ⟨_,rfl,fun h=>absurd h (by show ¬ 0<0;omega),fun h=>by omega⟩)
 rw[if_neg (by simpa using f)];refine B4 rfl (ifF (by simp) ?_);obtain⟨k,rfl⟩:∃k:Nat,at_=(k:Int):=⟨at_.toNat,by omega⟩;refine ifT (by omega) ?_;rw[AP2,AS4,AU3];obtain⟨u,e1,g1⟩:=o.1 k (by omega);refine B4 (x:=y.1 k) rfl (B4 (x:=EV u 0) (by rw[e1];exact Ho u (by omega)) ?_);obtain⟨s,es,j⟩:=Vq (N:=N) (EV u 0) (by unfold EV;rw[AU6];exact Bh2 (List.length_filter_le _ _) (by simp))
 refine B4 es ⟨_,rfl,?_⟩;show 0<s.n↔_;rw[j,List.length_pos_iff_exists_mem];constructor
 ·rintro⟨t,ht⟩;obtain⟨b,rfl,_,hb,a⟩:=mem_bitsF.1 ht;exact⟨hc,d,by omega,by omega,b,((g1 b hb).1 a).1,((g1 b hb).1 a).2⟩
 ·rintro⟨_,_,_,_,b,hb,h⟩;exact⟨(b:Int),mem_bitsF.2 ⟨b,rfl,by omega,by omega,(g1 b (by omega)).2 ⟨hb,h⟩⟩⟩
end Go.AM
namespace Go.AM
open IntKind (wrap)
open Go.Proofs
def Vr (w:Sl Sound)(e:Int):Prop:=(32<w.n/\e=11) \/ (w.n<=32/\(∃i,i<w.n/\¬vS (w.g i))/\e=14) \/ (wOk w/\e=0)
theorem Ix {w:Sl Sound}{e e' : Int}(h:Vr w e)(h' : Vr w e'):e=e':=by
 rcases h with⟨h1,a⟩ | ⟨h1,⟨i,b,c⟩,a⟩ | ⟨h1,a⟩<;>rcases h' with⟨g1,g2⟩ | ⟨g1,⟨j,d,gv⟩,g2⟩ | ⟨g1,g2⟩
 ·omega
 ·omega
 ·have:=g1.1;omega
 ·omega
 ·omega
 ·exact absurd (g1.2 i b) c
 ·have:=h1.1;omega
 ·exact absurd (h1.2 j d) gv
 ·omega
theorem N2 {w:Sl Sound}{e:Int}(h:Vr w e):e=0↔wOk w:=by
 rcases h with⟨h1,a⟩ | ⟨h1,⟨i,b,c⟩,a⟩ | ⟨h1,a⟩
 ·exact⟨fun h=>by omega,fun h=>by have:=h.1;omega⟩
 ·exact⟨fun h=>by omega,fun h=>absurd (h.2 i b) c⟩
 ·exact⟨fun _=>h1,fun _=>a⟩
theorem Td {N:Nat}(o:1000<=N){w:Sl Sound}(hw:∀i,i<w.n->okS (w.g i))(V:Sound->Option Bool)(f:∀p m:BitVec 32,V (sOf p m)=some (vB p m)) :∃e,(if (decide (32<(w.n:Int))) then
 some (11:Int)
 else
  R6 N (fun a (x1:Int)=>
   if (decide (x1<(w.n:Int))) then
    if ((0:Int)<=x1/\x1<(w.n:Int))then
     (V (w.g x1.toNat)).bind fun y3=>
     if (!y3) then
      some 14
     else
      a (wrap .i64 (x1+1))
    else none
   else
    some 0
   ) 0)=some e/\Vr w e:=by
 by_cases hn:32<w.n
 ·exact ifT (by simp;omega) ⟨11,rfl,.inl ⟨hn,rfl⟩⟩
 refine ifF (by simp;omega) ?_;refine Ae (fun i x1=>x1=(i:Int)/\∀j,j<i->vS (w.g j)) w.n _ (by omega) ⟨rfl,fun j b=>absurd b (by omega)⟩ ?_;rintro d i x1 q ⟨rfl,h⟩ hs;by_cases hl:i<w.n
 ·obtain⟨p,m,c⟩:=hw i hl;refine ifT (by simp;omega) (ifT (by omega) (B4 (by rw[AP2,c];exact f p m) ?_));cases hb:vB p m
  ·refine ifT rfl ⟨14,rfl,.inr (.inl ⟨by omega,⟨i,hl,fun l=>?_⟩,rfl⟩)⟩
   have:=(Vn c).1 l;rw[hb]at this;cases this
  ·refine ifF (by simp) (hs hl _ ⟨C4 (by omega),fun j b=>?_⟩);by_cases e:j=i
   ·subst e;exact (Vn c).2 hb
   ·exact h j (by omega)
 ·exact ifF (by simp;omega) ⟨0,rfl,.inr (.inr ⟨⟨by omega,fun j b=>h j (by omega)⟩,rfl⟩)⟩
theorem Gd {N:Nat}(a:1000<=N){w:Sl Sound}(hw:∀i,i<w.n->okS (w.g i)):∃e,K3 N w=some e/\Vr w e:=
 Td a hw (AL N) fun p m=>SY p m
theorem CA {N:Nat}(a:1000<=N){w:Sl Sound}(hw:∀i,i<w.n->okS (w.g i)):∃e,W5 N w=some e/\Vr w e:=
 Td a hw (Q3 N) fun p m=>OO p m
theorem WO {N:Nat}(d:2000<=N){p:Pat}(hp:okPS p){w:Sl Sound}(hw:∀i,i<w.n->okS (w.g i)):∃e,Cw N p w=some e/\(e=0↔chk 40 [p]/\wOk w):=by
 unfold Cw;obtain⟨e,f,hc⟩:=My d hp;refine B4 f ?_;by_cases a:e=0
 ·obtain⟨e2,b,c⟩:=CA (N:=N) (by omega) hw;exact ifT (by simp[a]) (B4 b ⟨e2,rfl,(N2 c).trans ⟨fun h=>⟨hc.1 a,h⟩,fun h=>h.2⟩⟩)
 ·exact ifF (by simp[a]) ⟨e,rfl,fun h=>absurd h a,fun h=>absurd (hc.2 h.1) a⟩
theorem Vs {N:Nat}(s:3000<=N){p:Pat}(hp:okPS p){w:Sl Sound}(hw:∀i,i<w.n->okS (w.g i))(at_:Int) :∃r,BO N p w at_=some r/\(0<r.1.n↔chk 40 [p]/\wOk w/\0<=at_/\at_<=w.n/\∃a,a<=w.n/\PR w p a at_.toNat):=by
 unfold BO;obtain⟨e,o,h1⟩:=WO (N:=N) (by omega) hp hw;refine B4 o ?_;by_cases j:e=0
 case neg=>exact ifT (by simp[j]) ⟨_,rfl,fun h=>absurd h (by show ¬ 0<0;omega),fun h=>absurd (h1.2 ⟨h.1,h.2.1⟩) j⟩
 refine ifF (by simp[j]) ?_;obtain⟨hc,c⟩:=h1.1 j;have hn:=c.1;by_cases d:at_<0 \/ (w.n:Int)<at_
 ·exact ifT (by simpa using d) ⟨_,rfl,fun h=>absurd h (by show ¬ 0<0;omega),fun h=>by omega⟩
 refine ifF (by simpa using d) ?_;obtain⟨k,rfl⟩:∃k:Nat,at_=(k:Int):=⟨at_.toNat,by omega⟩;obtain⟨t,et,tn,q⟩:=Mv (N:=1000) (by omega) hn 40 p (Mx 40 [p] (AP8 _) hc p (by simp)) N (by omega);refine B4 et ?_;rw[AP2];refine S8 (fun i x2 x3=>x3=(i:Int)/\x2.n<=i/\(0<x2.n ↔ ∃a,a<i/\PR w p a k)) (w.n+1) _ (by omega) ⟨rfl,AP8 _,fun h=>absurd h (by show ¬ 0<0;omega),fun⟨a,h,_⟩=>absurd h (by omega)⟩ ?_;rintro m i x2 x3 u ⟨rfl,g1,g2⟩ f;by_cases hl:i<=w.n
 ·refine ifT (by simp;omega) (ifT (by omega) ?_);rw[AP2];have hb:=q.bit hl (b:=k) (by omega);by_cases l:PR w p i k
  ·refine ifT (hb.2 ⟨by omega,l⟩) (ifT (by show (x2.n+1)*8<=_/\x2.n+1<=_;omega) (f (by omega) _ _ ⟨C4 (by omega),by show x2.n+1<=_;omega,fun _=>⟨i,by omega,l⟩,fun _=>by show 0<x2.n+1;omega⟩))
  ·refine ifF (fun h=>l (hb.1 h).2) (f (by omega) _ _ ⟨C4 (by omega),by omega,fun h=>?_,fun⟨a,ha,h⟩=>?_⟩)
   ·obtain⟨a,ha,h'⟩:=g2.1 h;exact⟨a,by omega,h'⟩
   ·by_cases e2:a=i
    ·subst e2;exact absurd h l
    ·exact g2.2 ⟨a,by omega,h⟩
 ·refine ifF (by simp;omega) ⟨_,rfl,fun h=>?_,fun h=>?_⟩
  ·obtain⟨a,ha,h'⟩:=g2.1 h;exact⟨hc,c,by omega,by omega,a,by omega,h'⟩
  ·obtain⟨a,ha,h'⟩:=h.2.2.2.2;exact g2.2 ⟨a,by omega,h'⟩
theorem Ad5 {N:Nat}(s:3000<=N){p:Pat}(hp:okPS p){w:Sl Sound}(hw:∀i,i<w.n->okS (w.g i))(at_:Int) :∃r,Ed N p w at_=some r/\(0<r.1.n↔chk 40 [p]/\wOk w/\0<=at_/\at_<=w.n/\∃b,b<=w.n/\PR w p at_.toNat b):=by
 unfold Ed;obtain⟨e,o,h1⟩:=WO (N:=N) (by omega) hp hw;refine B4 o ?_;by_cases j:e=0
 case neg=>exact ifT (by simp[j]) ⟨_,rfl,fun h=>absurd h (by show ¬ 0<0;omega),fun h=>absurd (h1.2 ⟨h.1,h.2.1⟩) j⟩
 refine ifF (by simp[j]) ?_;obtain⟨hc,c⟩:=h1.1 j;have hn:=c.1;by_cases d:at_<0 \/ (w.n:Int)<at_
 ·exact ifT (by simpa using d) ⟨_,rfl,fun h=>absurd h (by show ¬ 0<0;omega),fun h=>by omega⟩
 refine ifF (by simpa using d) ?_;obtain⟨k,rfl⟩:∃k:Nat,at_=(k:Int):=⟨at_.toNat,by omega⟩;obtain⟨t,et,tn,q⟩:=Mv (N:=1000) (by omega) hn 40 p (Mx 40 [p] (AP8 _) hc p (by simp)) N (by omega);refine B4 et ?_;rw[AP2];refine S8 (fun i x2 x3=>x3=(i:Int)/\x2.n<=i/\(0<x2.n ↔ ∃b,b<i/\PR w p k b)) (w.n+1) _ (by omega) ⟨rfl,AP8 _,fun h=>absurd h (by show ¬ 0<0;omega),fun⟨a,h,_⟩=>absurd h (by omega)⟩ ?_;rintro m i x2 x3 u ⟨rfl,g1,g2⟩ f;by_cases hl:i<=w.n
 ·refine ifT (by simp;omega) (ifT (by omega) ?_);have hb:=q.bit (a:=k) (by omega) (b:=i) (by omega);by_cases l:PR w p k i
  ·refine ifT (hb.2 ⟨by omega,l⟩) (ifT (by show (x2.n+1)*8<=_/\x2.n+1<=_;omega) (f (by omega) _ _ ⟨C4 (by omega),by show x2.n+1<=_;omega,fun _=>⟨i,by omega,l⟩,fun _=>by show 0<x2.n+1;omega⟩))
  ·refine ifF (fun h=>l (hb.1 h).2) (f (by omega) _ _ ⟨C4 (by omega),by omega,fun h=>?_,fun⟨a,ha,h⟩=>?_⟩)
   ·obtain⟨a,ha,h'⟩:=g2.1 h;exact⟨a,by omega,h'⟩
   ·by_cases e2:a=i
    ·subst e2;exact absurd h l
    ·exact g2.2 ⟨a,by omega,h⟩
 ·refine ifF (by simp;omega) ⟨_,rfl,fun h=>?_,fun h=>?_⟩
  ·obtain⟨a,ha,h'⟩:=g2.1 h;exact⟨hc,c,by omega,by omega,a,by omega,h'⟩
  ·obtain⟨a,ha,h'⟩:=h.2.2.2.2;exact g2.2 ⟨a,by omega,h'⟩
end Go.AM
namespace Go.AM
open Go.Proofs
def AG3 (s c:Sound):Prop:=∃p m a b:BitVec 32,s=sOf p m/\c=sOf a b/\Za p m a b=true
theorem Ad6 {p m a b:BitVec 32}(h:sOf p m=sOf a b):p=a/\m=b:=by have e1:(p.toNat:Int)=a.toNat:=congrArg Sound.Plus h;have e2:(m.toNat:Int)=b.toNat:=congrArg Sound.Minus h;exact⟨AT1 (by omega),AT1 (by omega)⟩
theorem satS_of {p m a b:BitVec 32}:AG3 (sOf p m) (sOf a b)↔Za p m a b=true:=by
 constructor
 ·rintro⟨p',m',a',b',h1,c,d⟩;obtain⟨rfl,rfl⟩:=Ad6 h1;obtain⟨rfl,rfl⟩:=Ad6 c;exact d
 ·exact fun h=>⟨_,_,_,_,rfl,rfl,h⟩
theorem Ap9 {N:Nat}{s c:Sound}(hs:okS s)(hc:okS c):∃b,J5 N s c=some b/\(b=true↔AG3 s c):=by obtain⟨p,m,rfl⟩:=hs;obtain⟨a,b,rfl⟩:=hc;exact⟨_,AC8 p m a b,satS_of.symm⟩
theorem Aq0 {N:Nat}(d:1000<=N){s c:Sound}(hs:okS s)(hc:okS c):∃b,O2 N s c=some b/\(b=true↔AG3 s c):=by obtain⟨p,m,rfl⟩:=hs;obtain⟨a,b,rfl⟩:=hc;exact⟨_,AC9 p m a b d,satS_of.symm⟩
def okL (l:Law):Prop:=okPS l.Left/\okPS l.Right/\∀i,i<l.If.n->okS (l.If.g i)
def arP (l:Law)(w:Sl Sound)(i:Nat):Prop:=chk 40 [l.Left]/\chk 40 [l.Right]/\wOk w/\i+l.If.n<=w.n/\(∃a,a<=w.n/\PR w l.Left a i)/\∃b,b<=w.n/\PR w l.Right (i+l.If.n) b
def OU (l:Law)(w:Sl Sound)(i:Nat):Prop:=i+l.If.n<=w.n/\(∀j,j<l.If.n->AG3 (w.g (i+j)) (l.If.g j))/\arP l w i
def okW (w:Sl Sound):Prop:=w.n<1000/\∀i,i<w.n->okS (w.g i)
theorem YF {N:Nat}(c:3000<=N){l:Law}(hl:okL l)(hk:l.If.n<=4){w:Sl Sound}(hw:okW w)(i:Nat)(f:i<2000) :∃b,U3 N (i:Int) l w=some b/\(b=true↔arP l w i):=by
 unfold U3;obtain⟨y1,e1,h1⟩:=YE (N:=N) c hl.1 (w:=w) ⟨by have:=hw.1;omega,by have:=hw.1;omega⟩ hw.2 (i:Int);refine B4 e1 ?_;rw[AP2]at h1;by_cases d:y1.1.n=0
 ·refine ifT (by simp[d]) ⟨false,rfl,by simp,fun h=>?_⟩
  have:=h1.2 ⟨h.1,h.2.2.1,by omega,by have:=h.2.2.2.1;omega,h.2.2.2.2.1⟩
  omega
 ·refine ifF (by simp;omega) ?_;rw[Da (by omega)];obtain⟨y2,e2,a⟩:=Ap8 (N:=N) c hl.2.1 (w:=w) ⟨by have:=hw.1;omega,by have:=hw.1;omega⟩ hw.2 ((i+l.If.n:Nat):Int);rw[AP2]at a;refine B4 e2 ⟨_,rfl,?_⟩;have h1:=h1.1 (by omega);rw[decide_eq_true_eq];constructor
  ·intro h;have a:=a.1 (by omega);exact⟨h1.1,a.1,h1.2.1,by omega,h1.2.2.2.2,a.2.2.2.2⟩
  ·intro h
   have:=a.2 ⟨h.2.1,h.2.2.1,by omega,by have:=h.2.2.2.1;omega,h.2.2.2.2.2⟩
   omega
theorem QC {N:Nat}(f:3000<=N){l:Law}(hl:okL l)(hk:l.If.n<=4){w:Sl Sound}(hw:okW w)(i:Nat)(o:i<2000) :∃b,Ao N l w (i:Int)=some b/\(b=true↔OU l w i):=by
 unfold Ao;rw[Da (by omega)];by_cases hn:w.n<i+l.If.n
 ·exact ifT (by simp;omega) ⟨false,rfl,by simp,fun h=>by have:=h.1;omega⟩
 refine ifF (by simp;omega) ?_;refine Ae (fun j x1=>x1=(j:Int)/\∀k,k<j->AG3 (w.g (i+k)) (l.If.g k)) l.If.n _ (by omega) ⟨rfl,fun k hk=>absurd hk (by omega)⟩ ?_;rintro m j x1 q ⟨rfl,h⟩ hs;by_cases c:j<l.If.n
 ·rw[Da (by omega)];refine ifT (by simp;omega) (ifT (by omega) ?_);obtain⟨b,eb,hb⟩:=Aq0 (N:=N) (by omega) (hw.2 (i+j) (by omega)) (hl.2.2 j c);refine B4 (by rw[AP2,AP2];exact eb) ?_;cases b
  ·refine ifT rfl ⟨false,rfl,by simp,fun a=>?_⟩
   have:=hb.2 (a.2.1 j c);cases this
  ·refine ifF (by simp) (hs c _ ⟨C4 (by omega),fun k d=>?_⟩);by_cases e:k=j
   ·subst e;exact hb.1 rfl
   ·exact h k (by omega)
 ·refine ifF (by simp;omega) ?_;obtain⟨y1,e1,h1⟩:=Vs (N:=N) f hl.1 (w:=w) hw.2 (i:Int);obtain⟨y2,e2,a⟩:=Ad5 (N:=N) f hl.2.1 (w:=w) hw.2 ((i+l.If.n:Nat):Int);rw[AP2]at h1 a;refine B4 e1 (B4 e2 ⟨_,rfl,?_⟩);simp only[AP7,decide_eq_true_eq];constructor
  ·rintro⟨g1,g2⟩;have h1:=h1.1 (by omega);have a:=a.1 (by omega);exact⟨by omega,fun k d=>h k (by omega),h1.1,a.1,h1.2.1,by omega,h1.2.2.2.2,a.2.2.2.2⟩
  ·intro g;have a1:=h1.2 ⟨g.2.2.1,g.2.2.2.2.1,by omega,by omega,g.2.2.2.2.2.2.1⟩;have a2:=a.2 ⟨g.2.2.2.1,g.2.2.2.2.1,by omega,by omega,g.2.2.2.2.2.2.2⟩;exact⟨by omega,by omega⟩
end Go.AM
namespace Go.AM
open IntKind (wrap)
open Go.Proofs
open Classical in
noncomputable def hitB (l:Law) (w:Sl Sound) (i:Nat):Bool:=decide (OU l w i)
theorem hitB_iff {l:Law}{w:Sl Sound}{i:Nat}:hitB l w i=true↔OU l w i:=by simp[hitB]
noncomputable def DH (l:Law) (w:Sl Sound) (i:Nat):List Int:=((List.range' i (w.n+1-i)).filter (hitB l w)).map fun (j:Nat)=>(j:Int)
theorem Jg {l:Law}{w:Sl Sound}{i:Nat}(h:w.n<i+l.If.n):DH l w i=[]:=by
 unfold DH;rw[Bf1.2 fun j a hb=>by
  have:=Be1.1 a
  have:=(hitB_iff.1 hb).1
  omega]
 rfl
theorem Iy {l:Law}{w:Sl Sound}{i:Nat}(a:i<=w.n)(h:OU l w i):DH l w i=(i:Int)::DH l w (i+1):=by unfold DH;rw[show w.n+1-i=(w.n+1-(i+1))+1 by omega,Ba5,Be5 (hitB_iff.2 h)];rfl
theorem Iz {l:Law}{w:Sl Sound}{i:Nat}(h:¬OU l w i):DH l w i=DH l w (i+1):=by
 unfold DH;by_cases a:i<=w.n
 ·rw[show w.n+1-i=(w.n+1-(i+1))+1 by omega,Ba5,Be6 fun hb=>h (hitB_iff.1 hb)]
 ·rw[show w.n+1-i=0 by omega,show w.n+1-(i+1)=0 by omega];rfl
theorem Aq1 {l:Law}{w:Sl Sound}{i:Nat}{y:Int}(h:y∈DH l w i):(i:Int)<=y:=by
 obtain⟨j,a,rfl⟩:=AW8.1 h
 have:=Be1.1 (Bb4.1 a).1
 omega
theorem WQ {N:Nat}(z:3000<=N){l:Law}(hl:okL l)(hk:l.If.n<=4){w:Sl Sound}(hw:okW w)(i:Nat)(v:i<1500):X4 N l w (i:Int)=some (DH l w i):=by
 unfold X4;show (some (l,w)).bind _=_;rw[AP5];simp only[]
 suffices h:∀(k i:Nat),i<1501->w.n+1-i<=k->∀F,k<F->∃r,R6 F (fun (a:Int->Option (List Int)) (x2:Int)=>
  if (decide ((wrap .i64 (x2+(l.If.n:Int)))<=(w.n:Int))) then
   R6 N (fun (d:Int->Option (List Int)) (x4:Int)=>
    if (decide (x4<(l.If.n:Int))) then
     if ((0:Int)<=x4/\x4<(l.If.n:Int))then
      if ((0:Int)<=(wrap .i64 (x2+x4))/\(wrap .i64 (x2+x4))<(w.n:Int))then
       (J5 N (w.g (wrap .i64 (x2+x4)).toNat) (l.If.g x4.toNat)).bind fun s=>
       if (!s) then
        a (wrap .i64 (x2+1))
       else
        d (wrap .i64 (x4+1))
      else none
     else none
    else
     (U3 N x2 l w).bind fun t=>
     if t then
      AB x2 (
       a (wrap .i64 (x2+1))
       )
     else
      a (wrap .i64 (x2+1))
    ) 0
  else
   some []
  ) (i:Int)=some r/\r=DH l w i by
  obtain⟨r,h1,rfl⟩:=h (w.n+1-i) i (by omega) (AP8 _) N (by have:=hw.1;omega);exact h1
 intro k
 induction k with
 |zero=>
  intro i v f F q
  match F,q with
  |F+1,_=>rw[AY,Da (by omega)];exact ifF (by simp;omega) ⟨_,rfl,(Jg (by omega)).symm⟩
 |succ k ih=>
  intro i v f F q
  match F,q with
  |F+1,q=>
   rw[AY,Da (by omega)];by_cases hn:i+l.If.n<=w.n
   case neg=>exact ifF (by simp;omega) ⟨_,rfl,(Jg (by omega)).symm⟩
   refine ifT (by simp;omega) ?_;have a0:=hw.1;obtain⟨r,x,o⟩:=ih (i+1) (by omega) (by omega) F (by omega);have c:∀(Q:List Int->Prop),Q (DH l w (i+1))->∃r,R6 F _ (IntKind.i64.wrap ((i:Int)+1))=some r/\Q r:=fun Q hQ=>⟨r,by rw[C4 (by omega)];exact x,by rw[o];exact hQ⟩;refine Ae (fun j x1=>x1=(j:Int)/\∀k,k<j->AG3 (w.g (i+k)) (l.If.g k)) l.If.n _ (by omega) ⟨rfl,fun k hk=>absurd hk (by omega)⟩ ?_;rintro y j x1 hj ⟨rfl,h⟩ hs;by_cases m:j<l.If.n
   ·rw[Da (by omega)];refine ifT (by simp;omega) (ifT (by omega) (ifT (by omega) ?_));obtain⟨b,eb,hb⟩:=Ap9 (N:=N) (hw.2 (i+j) (by omega)) (hl.2.2 j m);refine B4 (by rw[AP2,AP2];exact eb) ?_;cases b
    ·refine ifT rfl (c _ ?_);exact (Iz fun u=>by have:=hb.2 (u.2.1 j m);cases this).symm
    ·refine ifF (by simp) (hs m _ ⟨C4 (by omega),fun k f=>?_⟩);by_cases e:k=j
     ·subst e;exact hb.1 rfl
     ·exact h k (by omega)
   ·refine ifF (by simp;omega) ?_;obtain⟨b,eb,hb⟩:=YF z hl hk hw i (by omega);refine B4 eb ?_;cases b
    ·refine ifF (by simp) (c _ ?_);exact (Iz fun u=>by have:=hb.2 u.2.2;cases this).symm
    ·refine ifT rfl ?_;have hh:OU l w i:=⟨hn,fun k f=>h k (by omega),hb.1 rfl⟩;refine⟨(i:Int)::DH l w (i+1),?_,(Iy (by omega) hh).symm⟩;rw[C4 (by omega),x,o];rfl
theorem Ad7 {N:Nat}(a:3000<=N){l:Law}(hl:okL l)(hk:l.If.n<=4){w:Sl Sound}(hw:okW w)(i:Nat)(c:i<1500) :∃b,BS N l w (i:Int)=some b/\(b=true↔OU l w i):=by
 unfold BS;refine B4 (x:=(l,w,(i:Int))) rfl (B4 (WQ a hl hk hw i c) ?_);by_cases h:OU l w i
 ·rw[Iy (by have:=h.1;omega) h];exact⟨true,by simp[O6],by simp[h]⟩
 ·rw[Iz h];rcases hL:DH l w (i+1)with _|⟨t,L⟩
  ·exact⟨false,rfl,by simp[h]⟩
  ·have:((i+1:Nat):Int)<=t:=Aq1 (l:=l) (w:=w) (by rw[hL];simp)
   exact⟨false,by show some (t==(i:Int))=some false;congr 1;simp;omega,by simp[h]⟩
end Go.AM
