/- What a law's walk and its plain proof need, part 15: no condition of its own. -/
import Derived.Test.YtlbooedblpdmaaaGreatDoorAJ
import Derived.Test.YtlbooedblpdmaaaGreatDoorAH
import Derived.Test.YtlbooedblpdmaaaGreatDoorAI
import Derived.Test.YtlbooedblpdmaaaGreatDoorAK
import Derived.Lay
set_option linter.defProp false
set_option linter.unusedSimpArgs false
set_option linter.unusedVariables false
set_option linter.unusedSectionVars false
namespace Go.AM
def Cs1:=@Go.Claim7.holds_tied_plain_at
def Ct9:=@Go.Proofs.Tryz.underlying28
def Cu6:=@Go.OpenSpec.preRow_of_cond
def Cv3:=@Go.OpenClaim.holds_of_cond
def Cw0:=@Go.OpenClaim.pre_eq_preRow
def Cy5:=@Nat.gcd_pos_of_pos_left
def Cz0:=@List.filterMap_cons
def CA1:=@List.mem_toArray
def CA8:=@List.not_mem_nil
def CC4:=@Nat.le_of_dvd
def CE3:=@Nat.gcd_zero_right
def CH4:=@Nat.gcd_comm
def CI4:=@Nat.gcd_dvd_right
def CI9:=@Nat.dvd_gcd
def CJ0:=@Nat.mul_div_cancel_left
def CJ5:=@Nat.gcd_dvd_left
def CK3:=@Nat.dvd_of_mod_eq_zero
def CK5:=@Nat.mod_eq_zero_of_dvd
def CM7:=@Go.Proofs.Tryz.params12
def CX8:=@Nat.div_self
def CY6:=@Go.Proofs.Tryz.func29
def Dd6:=@Nat.gcd_div
def Dd7:=@Go.Proofs.Tryz.func12
open Go.Proofs
abbrev CW:Nat:=12
def GC:Cl1[CW]? = some Tryz.f12:=Dd7
abbrev IG:Nat:=29
def So:Cl1[IG]? = some Tryz.f29:=CY6
abbrev Tj:Nat:=44
abbrev My:Nat:=69
abbrev Ol:Nat:=70
abbrev QR:Nat:=71
abbrev Om:Nat:=73
abbrev DO:Nat:=98
abbrev Kq:Nat:=101
abbrev Cf:Nat:=126
abbrev X7:Nat:=128
end Go.AM
namespace Go.AM
open Go.Proofs
section
variable {S:W1}(hS:H9 S Tryz.prog) (hL:GD S)
include hS hL
def I9 (N:Nat)(s:Sl Hk):Option (Sl Hk):=if (0+s.n)*32<=140737488355328/\0+s.n<=140737488355328 then some s else none
theorem Cg {N:Nat}{s y:Sl To}(h:B9 N s=some y):FunO S J9 [.p (vSl 2 A0 s)] [] (.p (vSl 2 A0 y)) [] []:=by
 unfold B9 at h;obtain⟨c1,h⟩:=C7 h;obtain rfl:=C0 h;refine A1 hS Tryz.func127 ?_;refine BU5 hS T3 3 (k:=2) (n:=s.n) (f:=fun i=>A0 (s.g i)) (fun a=>?_) ?_
 .obtain⟨n,g⟩:=s;obtain rfl:n=0:=a;exact A8 hS T3 ⟨[(2,.p (vSl 2 A0 ⟨0,g⟩))],[]⟩ [] (ids:=[]) ⟨rfl,rfl,rfl⟩
 exact A8 hS (And.intro (rfl:true=true) c1) ⟨[(2,.p (vSl 2 A0 s))],[]⟩ [] (ids:=[]) ⟨rfl,rfl,rfl⟩
  (hle:=klR [(0,.fn (0+s.n) s.n (I4 0 (D0 [pI .u32 0,pI .u32 0] []) (fun i=>A0 (s.g i))) (fun i=>A0 (s.g i)))] (al1 ⟨Cp5 _,fun i _=>by simp[I4]⟩ al0))
theorem Dk {N:Nat}{s y:Sl Hk}(h:I9 N s=some y):FunO S X7 [.p (vSl 6 P1 s)] [] (.p (vSl 6 P1 y)) [] []:=by
 unfold I9 at h;obtain⟨c1,h⟩:=C7 h;obtain rfl:=C0 h;refine A1 hS Tryz.func128 ?_;refine BU5 hS T3 3 (k:=6) (n:=s.n) (f:=fun i=>P1 (s.g i)) (fun a=>?_) ?_
 .obtain⟨n,g⟩:=s;obtain rfl:n=0:=a;exact A8 hS T3 ⟨[(2,.p (vSl 6 P1 ⟨0,g⟩))],[]⟩ [] (ids:=[]) ⟨rfl,rfl,rfl⟩
 exact A8 hS (And.intro (rfl:true=true) c1) ⟨[(2,.p (vSl 6 P1 s))],[]⟩ [] (ids:=[]) ⟨rfl,rfl,rfl⟩
  (hle:=klR [(0,.fn (0+s.n) s.n (I4 0 (D0 [pI .i64 0,pI .u32 0,pI .u32 0,pI .u32 0,pI .u32 0,pI .i64 0] []) (fun i=>P1 (s.g i))) (fun i=>P1 (s.g i)))] (al1 ⟨Cp5 _,fun i _=>by simp[I4]⟩ al0))
end
end Go.AM
namespace Go.AM
variable {N:Nat}
open IntKind (wrap)
open Go.Proofs
set_option maxRecDepth 10000
set_option maxHeartbeats 2000000
variable {S:W1}(hS:H9 S Tryz.prog) (hL:GD S)
include hS hL
def EH (N:Nat)(b:A5)(a:Int):Option Bool:= some ((decide (0<=a))&&(decide (a<(b.Tree.n:Int))))
theorem Af1 {c:A5}{b:Int}{y:Bool}(h:EH N c b=some y) :FunO S Ol [.p (.agg (A4 c)),pN b] [] (pB y) ([]) []:=by unfold EH at h;refine A1 hS Tryz.func70 ?_;refine kB hS (A2 hS) T3 T3 6 (.n (.a (decide (0<=b))) (.a (decide (b<(c.Tree.n:Int))))) ?_;cases h;exact kR hS
def Z9 (N:Nat)(q0:Int)(q1:Sl J6):Option (List (Int)):= P9 N (fun a (x1:Int) (x2:Sl Int)=>if (decide (0<=x1)) then if (((x2.n+(Sl.of [x1]:Sl Int).n)*8<=140737488355328/\x2.n+(Sl.of [x1]:Sl Int).n<=140737488355328)/\((0:Int)<=x1/\x1<(q1.n:Int)))then a (q1.g x1.toNat).Parent (x2.push x1) else none else T9 N (fun b (x3:Int)=>if (decide (0<=x3)) then if (((0:Int)<=x3/\x3<(x2.n:Int))/\x3.toNat<x2.n)then Be (x2.g x3.toNat) (b (wrap .i64 (x3-1))) else none else some []) (wrap .i64 ((x2.n:Int)-1))) q0 (Sl.nil:Sl Int)
theorem YP {q0:Int}{q1:Sl J6}{L:List (Int)}(h:Z9 N q0 q1=some L) :IN S DO [] [.reg 0 0,.reg 1 0] [.cells [pN q0],.cells [.p (vSl 2 E4 q1)]] (L.map (fun (x:Int)=>[pI .i64 x])):=by
 unfold Z9 at h;refine IT hS Tryz.func98 ?_;refine Ap0 hS T3 h (fun x1 x2 L1=>⟨[(4,.vec 5500),(2,.reg 1 0),(1,.reg 0 0),(0,.yf 2)],[(5500,.vec B8 1 x2.n (fun i=>cI .i64 (x2.g i)) false),(2,.yld (L1.map (fun (x:Int)=>[pI .i64 x])) true),(1,.cells [.p (vSl 2 E4 q1)]),(0,.cells [pN x1])]⟩) (ids:=[(0,0),(1,1),(2,2)]) (fun _ _ _ _ _ f x1 x2 L1 j h=>?_);apply kI hS h<;>intro h
 .obtain⟨c4,h⟩:=C7 h;exact j _ [(0,0),(1,1),(2,2),(5500,17000)] _ (q1.g x1.toNat).Parent (x2.push x1) L1 (And.intro (And.intro (rfl:true=true) c4.1) c4.2) h (hle:=klR [(0,.fn (x2.n+1) (x2.push x1).n (I4 x2.n (fun i=>cI .i64 (x2.g i)) (D0 [pI .i64 0] [(0,cI .i64 x1)])) (fun i=>cI .i64 ((x2.push x1).g i)))] (al1 ⟨rfl,W3 (c:=cI .i64) (v:=x2) (x:=x1) (z:=[(pI .i64 0)]) same rfl rfl⟩ al0))
 refine IS hS T3 h (fun x3 L2=>⟨[(5,pN x3),(4,.vec 5500),(0,.yf 2)],[(5500,.vec B8 1 x2.n (fun i=>cI .i64 (x2.g i)) false),(2,.yld (L2.map (fun (x:Int)=>[pI .i64 x])) true),(1,.cells [.p (vSl 2 E4 q1)]),(0,.cells [pN x1])]⟩) (ids:=[(0,0),(1,1),(2,2),(5500,5500)]) (fun _ _ _ _ _ l x3 L2 m h=>?_);apply kI hS h<;>intro h
 .obtain⟨c14,h⟩:=C7 h;obtain⟨L5,rfl,d⟩:=VD h;replace h:=d;refine FX hS c14 (ys:=(fun (x:Int)=>[pI .i64 x]) (x2.g x3.toNat)) (rest:=L5.map (fun (x:Int)=>[pI .i64 x])) ?_ ?_
  .refine D1 hS T3 (b:=false) (fun c15=>?_) (fun c15=>?_)
   .exact Bool.noConfusion ((rfl:false=false).symm.trans c15)
   exact m _ [(0,0),(1,1),(2,2),(5500,5500)] _ (wrap .i64 (x3-1)) L5 T3 h
  refine D1 hS T3 (b:=true) (fun c16=>?_) (fun c16=>?_)
  .exact A8 hS T3 (a:=.tup []) (objs:=[(.cells [pN x1]),.cells [.p (vSl 2 E4 q1)],.yld [] false]) ⟨[],[(2,.yld [] false),(1,.cells [.p (vSl 2 E4 q1)]),(0,.cells [pN x1])]⟩ [0,1,2] (ids:=[(0,0),(1,1),(2,2)]) ⟨false,rfl,rfl,_,rfl⟩
  exact Bool.noConfusion ((rfl:true=true).symm.trans c16)
 obtain rfl:=C0 h;exact A8 hS T3 (a:=.tup []) (objs:=[(.cells [pN x1]),.cells [.p (vSl 2 E4 q1)],.yld [] true]) ⟨[],[(2,.yld [] true),(1,.cells [.p (vSl 2 E4 q1)]),(0,.cells [pN x1])]⟩ [0,1,2] (ids:=[(0,0),(1,1),(2,2)]) ⟨true,rfl,rfl,_,rfl⟩
def FC (N:Nat)(a:Sl J6)(b:Int):Option (Int×(Sl J6)):= some (b,a)
theorem Av6 {a:Sl J6}{b:Int}{y:Int×(Sl J6)}(h:FC N a b=some y) :FunO S QR [.p (vSl 2 E4 a),pN b] [] (.clo DO [] [.reg 0 0,.reg 1 0]) ([.cells [pN y.1],.cells [.p (vSl 2 E4 y.2)]]) []:=by unfold FC at h;refine A1 hS Tryz.func71 ?_;obtain rfl:=C0 h;exact A8 hS T3 ⟨[(4,.clo DO [] [.reg 4000 0,.reg 3000 0])],[(4000,.cells [pN b]),(3000,.cells [.p (vSl 2 E4 a)])]⟩ [4000,3000] (ids:=[(3000,3000),(4000,4000)]) ⟨rfl,rfl,rfl⟩
def W0 (rec:Pat->Option Pat)(N:Nat)(a:Pat):Option Pat:= P9 N (fun b (x1:Sl Pat) (x2:Int)=>if (decide (x2<(a.L.n:Int))) then if ((0:Int)<=x2/\x2<(a.L.n:Int))then (rec (a.L.g x2.toNat)).bind fun y3=>if ((x1.n+(Sl.of [y3]:Sl Pat).n)*64<=140737488355328/\x1.n+(Sl.of [y3]:Sl Pat).n<=140737488355328)then b (x1.push y3) (wrap .i64 (x2+1)) else none else none else some (Pat.mk a.Kind a.Is a.Not a.Min a.Max x1.n x1.g)) (Sl.nil:Sl Pat) 0
def U9:Nat->Pat->Option Pat
 |0=>fun _=>none
 |N+1=>W0 (U9 N) N
theorem QS {rec:Pat->Option Pat}(b:∀{a:Pat}{y:Pat},rec a=some y->FunO S Cf [.p (.agg (C4 a))] [] (.p (.agg (C4 y))) ([]) []){a:Pat}{y:Pat}(h:W0 rec N a=some y) :FunO S Cf [.p (.agg (C4 a))] [] (.p (.agg (C4 y))) ([]) []:=by
 unfold W0 at h;refine A1 hS Tryz.func126 ?_;refine G9 hS T3 8 ⟨[(7,.p (vSl 7 C4 a.L)),(3,.p G6),(2,.reg 3000 0),(1,.reg 2000 0)],[(3000,.cells [pN 0,pU 0,pU 0,.p (.v (.bool false)),pN 0,pN 0,.p G6]),(2000,.cells ((C4 a).map .p))]⟩ (ids:=[(2000,2000),(3000,3000)]) ?_ (hle:=klR [(0,.fn a.L.n a.L.n (T1 a) (fun i=>C4 (a.L.g i)))] (al1 ⟨rfl,G8 a⟩ al0));refine D7 hS T3 h (fun x1 x2=>⟨[(9,pN x2),(8,pN (a.L.n:Int)),(7,.p (vSl 7 C4 a.L)),(3,.vec 4500),(2,.reg 3000 0),(1,.reg 2000 0)],[(4500,.vec HQ 7 x1.n (fun i=>C4 (x1.g i)) false),(3000,.cells [pN 0,pU 0,pU 0,.p (.v (.bool false)),pN 0,pN 0,.p G6]),(2000,.cells ((C4 a).map .p))]⟩) (ids:=[(2000,2000),(3000,3000)]) (fun _ _ _ _ _ d x1 x2 f h=>?_);apply kI hS h<;>intro h
 .obtain⟨c6,h⟩:=C7 h;obtain⟨y3,e3,h⟩:=B1 h;refine B6 hS [] (And.intro c6 (by decide:(7:Nat)<=7)) (b e3) ?_;obtain⟨c7,h⟩:=C7 h;exact f _ [(2000,2000),(3000,3000),(4500,18000)] _ (x1.push y3) (wrap .i64 (x2+1)) (And.intro (rfl:true=true) c7) h (hle:=klR [(3,.fn (x1.n+1) (x1.push y3).n (I4 x1.n (fun i=>C4 (x1.g i)) (D0 [pI .i64 0,pI .u32 0,pI .u32 0,.v (.bool false),pI .i64 0,pI .i64 0,G6] [(0,C4 y3)])) (fun i=>C4 ((x1.push y3).g i)))] (al1 ⟨rfl,W3 (c:=C4) (v:=x1) (x:=y3) (z:=[(pI .i64 0),pI .u32 0,pI .u32 0,.v (.bool false),pI .i64 0,pI .i64 0,G6]) same rfl rfl⟩ al0))
 obtain rfl:=C0 h;exact A8 hS T3 ⟨[(2,.reg 3000 0)],[(3000,.cells [pN a.Kind,pU a.Is.Plus,pU a.Is.Minus,pB a.Not,pN a.Min,pN a.Max,.p (.sl false 7 x1.n (T1 (Pat.mk a.Kind a.Is a.Not a.Min a.Max x1.n x1.g)))])]⟩ [] (ids:=[(3000,3000)]) ⟨rfl,rfl,rfl⟩
theorem IH {a:Pat}{y:Pat}(h:U9 N a=some y) :FunO S Cf [.p (.agg (C4 a))] [] (.p (.agg (C4 y))) ([]) []:=by
 induction N generalizing a y with
 |zero=>cases (show (none:Option Pat)=some y from h)
 |succ N ih=>exact QS hS hL (fun e=>ih e) h
def AG (N:Nat)(a:Law):Option Law:= (U9 N a.Left).bind fun y1=>(U9 N a.Right).bind fun y2=>(B9 N a.If).bind fun y3=>(I9 N a.Out).bind fun y4=>some (⟨a.Name,y1,y2,y3,y4,a.Mode⟩:Law)
theorem UG {a:Law}{y:Law}(h:AG N a=some y) :FunO S Kq [.p (.agg (B2 a))] [] (.p (.agg (B2 y))) ([]) []:=by unfold AG at h;refine A1 hS Tryz.func101 ?_;refine C5 hS T3 [2,5] ?_;obtain⟨y1,e1,h⟩:=B1 h;refine F8 T3 (IH hS hL e1) ?_;obtain⟨y2,e2,h⟩:=B1 h;refine F8 T3 (IH hS hL e2) ?_;refine D9 T3 ?_;refine C5 hS T3 [2,5] ?_;obtain⟨y3,e3,h⟩:=B1 h;refine F8 T3 (Cg hS hL e3) ?_;obtain⟨y4,e4,h⟩:=B1 h;refine F8 T3 (Dk hS hL e4) ?_;refine D9 T3 ?_;cases h;exact kR hS
def AW (N:Nat)(c:A5)(a:Sl Int):Option (Sl Law):= P9 N (fun b (x1:Sl Law) (x2:Int)=>if (decide (x2<(a.n:Int))) then if (((0:Int)<=x2/\x2<(a.n:Int))/\((0:Int)<=(a.g x2.toNat)/\(a.g x2.toNat)<(c.Laws.n:Int)))then (AG N (c.Laws.g (a.g x2.toNat).toNat)).bind fun y3=>if ((x1.n+(Sl.of [y3]:Sl Law).n)*200<=140737488355328/\x1.n+(Sl.of [y3]:Sl Law).n<=140737488355328)then b (x1.push y3) (wrap .i64 (x2+1)) else none else none else some x1) (Sl.nil:Sl Law) 0
theorem Af2 {b:A5}{a:Sl Int}{y:Sl Law}(h:AW N b a=some y) :FunO S Om [.p (.agg (A4 b)),.p (vSl 1 (cI .i64) a)] [] (.p (vSl 18 B2 y)) ([]) []:=by
 unfold AW at h;refine A1 hS Tryz.func73 ?_;refine D7 hS T3 h (fun x1 x2=>⟨[(10,pN x2),(9,pN (a.n:Int)),(8,.p (vSl 1 (cI .i64) a)),(5,.vec 6500),(2,.reg 3000 0)],[(6500,.vec H7 18 x1.n (fun i=>B2 (x1.g i)) false),(3000,.cells ((A4 b).map .p))]⟩) (ids:=[(3000,3000)]) (fun _ _ _ _ _ d x1 x2 f h=>?_);apply kI hS h<;>intro h
 .obtain⟨c6,h⟩:=C7 h;obtain⟨y3,e3,h⟩:=B1 h;refine B6 hS [] (And.intro (And.intro c6.1 c6.2) (by decide:(18:Nat)<=18)) (UG hS hL e3) ?_;obtain⟨c7,h⟩:=C7 h;exact f _ [(3000,3000),(6500,23000)] _ (x1.push y3) (wrap .i64 (x2+1)) (And.intro (rfl:true=true) c7) h (hle:=klR [(3,.fn (x1.n+1) (x1.push y3).n (I4 x1.n (fun i=>B2 (x1.g i)) (D0 [.str [],pI .i64 0,pI .u32 0,pI .u32 0,.v (.bool false),pI .i64 0,pI .i64 0,G6,pI .i64 0,pI .u32 0,pI .u32 0,.v (.bool false),pI .i64 0,pI .i64 0,G6,G6,G6,pI .i64 0] [(0,B2 y3)])) (fun i=>B2 ((x1.push y3).g i)))] (al1 ⟨rfl,W3 (c:=B2) (v:=x1) (x:=y3) (z:=[(.str []),pI .i64 0,pI .u32 0,pI .u32 0,.v (.bool false),pI .i64 0,pI .i64 0,G6,pI .i64 0,pI .u32 0,pI .u32 0,.v (.bool false),pI .i64 0,pI .i64 0,G6,G6,G6,pI .i64 0]) same rfl rfl⟩ al0))
 obtain rfl:=C0 h;exact A8 hS T3 ⟨[(4,.p (vSl 18 B2 x1))],[]⟩ [] (ids:=[]) ⟨rfl,rfl,rfl⟩
def DQ (N:Nat)(a:A5)(b:Sl To):Option Int:= (R6 N a).bind fun y1=>if (y1 != 0) then some y1 else (Q7 N b).bind fun y2=>some y2
theorem YQ {a:A5}{b:Sl To}{y:Int}(h:DQ N a b=some y) :FunO S My [.p (.agg (A4 a)),.p (vSl 2 A0 b)] [] (pN y) ([]) []:=by
 unfold DQ at h;refine A1 hS Tryz.func69 ?_;refine kC hS h (Gg hS hL) (fun y1 h=>?_);apply kI hS h<;>intro h
 .cases h;exact kR hS
 refine kC hS h (EM hS hL) (fun y2 h=>?_);cases h;exact kR hS
def EZ (N:Nat)(a:A5)(c:Sl To)(d:Int):Option ((Sl To)×Int):= (DQ N a c).bind fun y1=>if (y1 != 0) then some ((Sl.nil:Sl To),y1) else (EH N a d).bind fun y2=>if (!y2) then some ((Sl.nil:Sl To),3) else (FC N a.Tree d).bind fun y3=>(Z9 N y3.1 y3.2).bind fun L1=>Q5 L1 (fun b (x1:Int) (z1:Sl To)=>if ((0:Int)<=x1/\x1<(a.On.n:Int))then (AW N a (a.On.g x1.toNat)).bind fun y8=>(J4 N y8 z1).bind fun y9=>if (y9.2 != 0) then some ((Sl.nil:Sl To),y9.2) else b y9.1 else none) (fun (z1:Sl To)=>some (z1,0)) c
theorem AI9 {a:A5}{b:Sl To}{c:Int}{y:(Sl To)×Int}(h:EZ N a b c=some y) :FunO S Tj [.p (.agg (A4 a)),.p (vSl 2 A0 b),pN c] [] (.tup [.p (vSl 2 A0 y.1),pN y.2]) ([]) []:=by
 unfold EZ at h;refine A1 hS Tryz.func44 ?_;refine D8 hS T3 4 4000 (A4 a) ?_;obtain⟨y1,e1,h⟩:=B1 h;refine B6 hS [] (by decide:(3:Nat)<=3) (YQ hS hL e1) ?_;apply kI hS h<;>intro h
 .obtain rfl:=C0 h;exact A8 hS T3 ⟨[(7,.reg 8000 0),(6,.reg 7000 0)],[(8000,.cells [pN y1]),(7000,.cells [.p (vSl 2 A0 (Sl.nil:Sl To))])]⟩ [] (ids:=[(7000,7000),(8000,8000)]) ⟨rfl,rfl,rfl⟩
 obtain⟨y2,e2,h⟩:=B1 h;refine B6 hS [] (by decide:(3:Nat)<=3) (Af1 hS hL e2) ?_;apply kI hS h<;>intro h
 .obtain rfl:=C0 h;exact A8 hS T3 ⟨[(7,.reg 8000 0),(6,.reg 7000 0)],[(8000,.cells [pN 3]),(7000,.cells [.p (vSl 2 A0 (Sl.nil:Sl To))])]⟩ [] (ids:=[(7000,7000),(8000,8000)]) ⟨rfl,rfl,rfl⟩
 refine kC hS h (Av6 hS hL) (fun y3 h=>?_);obtain⟨L1,e4,h⟩:=B1 h;refine Hj hS T3 [25000,25001] [7,6,4,3] 901 (fun z1=>⟨[(7,.reg 8000 0),(6,.reg 7000 0),(4,.reg 5000 0),(3,.p (.ptr (A4 a)))],[(8000,.cells [pN 0]),(7000,.cells [.p G6]),(5000,.cells [.p (vSl 2 A0 z1)])]⟩) (idl:=[(5000,5000),(7000,7000),(8000,8000)]) h (YP hS hL e4) (fun _=>by kernel_rfl) (fun _=>by kernel_rfl) (fun _=>by kernel_rfl) (fun _=>by kernel_rfl) (fun x1 _ d z1 f h=>?_) (fun z1 h=>?_)
 .refine OC hS T3 ?_;refine C5 hS T3 [0,2,4,5,6,8] ?_;obtain⟨c7,h⟩:=C7 h;obtain⟨y8,e9,h⟩:=B1 h;refine F8 (And.intro (by decide:(3:Nat)<=3) c7) (Af2 hS hL e9) ?_;obtain⟨y9,e10,h⟩:=B1 h;refine F8 T3 (KS hS hL e10) ?_;refine D9 T3 ?_;apply kI hS h<;>intro h
  .refine UO hS T3 ⟨[(7,.reg 8000 0),(6,.reg 7000 0),(4,.reg 5000 0),(3,.p (.ptr (A4 a)))],[(8000,.cells [pN y9.2]),(7000,.cells [.p G6]),(5000,.cells [.p (vSl 2 A0 y9.1)])]⟩ (ids:=[(901,901),(5000,5000),(7000,7000),(8000,8000)]) ?_;obtain rfl:=C0 h;exact A8 hS T3 ⟨[(7,.reg 8000 0),(6,.reg 7000 0)],[(8000,.cells [pN y9.2]),(7000,.cells [.p (vSl 2 A0 (Sl.nil:Sl To))])]⟩ [] (ids:=[(7000,7000),(8000,8000)]) ⟨rfl,rfl,rfl⟩
  exact f _ [(901,901),(5000,5000),(7000,7000),(8000,8000)] _ y9.1 T3 h
 cases h;exact kR hS
end Go.AM
namespace Go.AM
open IntKind (wrap)
open Go.Proofs
set_option maxRecDepth 10000
set_option maxHeartbeats 2000000
variable {S:W1}(hS:H9 S Tryz.prog) (hL:GD S)
include hS hL
def DR (N:Nat)(i:A5)(a:Sl E6)(b:Sl Entry):Option Int:= (P6 N i).bind fun y1=>if (y1 != 0) then some y1 else if (decide (256<(b.n:Int))) then some 12 else (K5 N i.Tree).bind fun y2=>lt (fun (z1:Bool)=>if z1 then some 2 else T9 N (fun c (x3:Int)=>if (decide (x3<(b.n:Int))) then if ((0:Int)<=x3/\x3<(b.n:Int))then lt (fun (z4:Bool)=>if z4 then some 2 else c (wrap .i64 (x3+1))) fun k4=>if (((b.g x3.toNat).Forms.n:Int) != (y2.1.n:Int)) then k4 true else if ((0:Int)<=x3/\x3<(b.n:Int))then (I7 N (b.g x3.toNat).Forms).bind fun j=>k4 (!j) else none else none else T9 N (fun d (x6:Int)=>if (decide (x6<(b.n:Int))) then if ((0:Int)<=x6/\x6<(b.n:Int))then (S2 N (b.g x6.toNat).Gloss).bind fun l=>if (!l) then some 15 else d (wrap .i64 (x6+1)) else none else (H2 N a).bind fun m=>P9 N (fun f (x7:Int) (x8:Int)=>if ((decide (x8<(b.n:Int)))&&(x7==0)) then if ((0:Int)<=x8/\x8<(b.n:Int))then (H2 N (b.g x8.toNat).Forms).bind fun o=>f o (wrap .i64 (x8+1)) else none else some x7) m 0) 0) 0) fun k1=>if ((a.n:Int) != (b.n:Int)) then k1 true else (I7 N a).bind fun y4=>k1 (!y4)
def T0 (N:Nat)(f:A5)(b:Sl E6)(d:Sl Entry)(a:Int):Option ((Sl A3)×Int):= (DR N f b d).bind fun y1=>if (y1 != 0) then some ((Sl.nil:Sl A3),y1) else if ((decide (a<0))||(decide (1073741824<a))) then some ((Sl.nil:Sl A3),2) else P9 N (fun i (x3:Sl A3) (x4:Int)=>if (decide (x4<(d.n:Int))) then P9 N (fun c (x7:Sl A3) (x8:Int)=>if ((0:Int)<=x4/\x4<(d.n:Int))then if (decide (x8<((d.g x4.toNat).Forms.n:Int))) then if (((0:Int)<=x4/\x4<(d.n:Int))/\((0:Int)<=x8/\x8<((d.g x4.toNat).Forms.n:Int)))then if (!((d.g x4.toNat).Forms.g x8.toNat).Has) then c x7 (wrap .i64 (x8+1)) else if ((0:Int)<=x4/\x4<(b.n:Int))then (I8 N f (b.g x4.toNat) x8 ((d.g x4.toNat).Forms.g x8.toNat) (-1)).bind fun j=>if j then c x7 (wrap .i64 (x8+1)) else if ((0:Int)<=x4/\x4<(b.n:Int))then (O2 N f (b.g x4.toNat) x8 (-1)).bind fun l=>if (!l.Has) then if ((x7.n+(Sl.of [(⟨x4,x8,2,a⟩:A3)]:Sl A3).n)*32<=140737488355328/\x7.n+(Sl.of [(⟨x4,x8,2,a⟩:A3)]:Sl A3).n<=140737488355328)then c (x7.push (⟨x4,x8,2,a⟩:A3)) (wrap .i64 (x8+1)) else none else if ((x7.n+(Sl.of [(⟨x4,x8,1,a⟩:A3)]:Sl A3).n)*32<=140737488355328/\x7.n+(Sl.of [(⟨x4,x8,1,a⟩:A3)]:Sl A3).n<=140737488355328)then c (x7.push (⟨x4,x8,1,a⟩:A3)) (wrap .i64 (x8+1)) else none else none else none else none else i x7 (wrap .i64 (x4+1)) else none) x3 0 else some (x3,0)) (Sl.nil:Sl A3) 0
def BF (N:Nat)(a:Sl Entry):Option Int:= P9 N (fun c (x3:Int) (x4:Int)=>if (decide (x4<(a.n:Int))) then P9 N (fun b (x7:Int) (x8:Int)=>if ((0:Int)<=x4/\x4<(a.n:Int))then if (decide (x8<((a.g x4.toNat).Forms.n:Int))) then if (((0:Int)<=x4/\x4<(a.n:Int))/\((0:Int)<=x8/\x8<((a.g x4.toNat).Forms.n:Int)))then if ((a.g x4.toNat).Forms.g x8.toNat).Has then b (wrap .i64 (x7+1)) (wrap .i64 (x8+1)) else b x7 (wrap .i64 (x8+1)) else none else c x7 (wrap .i64 (x4+1)) else none) x3 0 else some x3) 0 0
def Ew (N:Nat)(d:A5)(a:Sl E6)(c:Sl Entry):Option (VK×Int):= (T0 N d a c 0).bind fun y1=>if (y1.2 != 0) then some ((⟨0,0⟩:VK),y1.2) else (BF N c).bind fun y2=>if (y2==0) then some ((⟨0,1⟩:VK),0) else Zb N (fun b (x1:Int) (x2:Int) (x3:Int)=>if (decide (1<x3)) then if x3≠0 then if (((x2.tmod x3)==0)=true->x3≠0)then if (((x2.tmod x3)==0)&&((x1.tmod x3)==0)) then if (x3≠0/\x3≠0)then b (wrap .i64 (x1.tdiv x3)) (wrap .i64 (x2.tdiv x3)) (wrap .i64 (x3-1)) else none else b x1 x2 (wrap .i64 (x3-1)) else none else none else some ((⟨x2,x1⟩:VK),0)) y2 (wrap .i64 (y2-(y1.1.n:Int))) y2
end Go.AM
namespace Go.AM
open IntKind (wrap)
open Go.Proofs
set_option maxRecDepth 10000
set_option maxHeartbeats 2000000
variable {S:W1}(hS:H9 S Tryz.prog) (hL:GD S)
include hS hL
def Aa (N:Nat)(b:A5)(a:Sl E6)(c:Sl Entry):Option Bool:= (S8 N b).bind fun y1=>lt (fun (z1:Bool)=>some z1) fun k1=>if y1 then (S9 N a c).bind fun y4=>if y4 then (N8 N b a c).bind fun y5=>k1 (y5==0) else k1 false else k1 false
theorem Sq {N:Nat}{c:A5}{a:Sl E6}{d:Sl Entry}{y:Bool}(h:Aa N c a d=some y) :FunO S IG [.p (.agg (A4 c)),.p (vSl 2 C6 a),.p (vSl 2 B7 d)] [] (pB y) ([]) []:=by
 unfold Aa at h;refine A1 hS So ?_;refine kC hS h (Ek hS hL) (fun y1 h=>?_);refine Ai hS T3 (A2 hS) h 0 (fun z1=>⟨[(6,pB z1)],[]⟩) (fun M1 k1 b h=>?_) (fun z1 h=>?_)
 .refine kG hS h (fun h=>?_) (fun h=>?_)
  .refine kC hS h (El hS hL) (fun y4 h=>?_);refine kG hS h (fun h=>?_) (fun h=>?_)
   .refine kC hS h (AS hS hL) (fun y5 h=>?_);exact b _ [] _ (y5==0) T3 h
   exact b _ [] _ false T3 h
  exact b _ [] _ false T3 h
 cases h;exact kR hS
def Av (N:Nat)(m:A5)(a:Sl E6)(d:Sl Entry)(i:Int):Option Bool:= (Aa N m a d).bind fun y1=>if ((!y1)||(decide (1073741824<i))) then (E1 N ).bind fun y2=>some y2 else (G2 N m a d (wrap .i64 i)).bind fun y3=>(O3 N m a d).bind fun y4=>(U1 N m.Tree).bind fun y5=>if ((((y3.2 != 0)||(y4.2 != 0))||(y5.2 != 0))||(decide (y4.1.D<1))) then some false else Zb N (fun r (o:Int) (u:Int) (b:Int)=>if (decide (b<(d.n:Int))) then if ((0:Int)<=b/\b<(d.n:Int))then if (((d.g b.toNat).Forms.n:Int) != (y5.1.n:Int)) then some false else Zb N (fun j (q:Int) (f:Int) (c:Int)=>if (decide (c<(y5.1.n:Int))) then if (((0:Int)<=b/\b<(d.n:Int))/\((0:Int)<=c/\c<((d.g b.toNat).Forms.n:Int)))then if (!((d.g b.toNat).Forms.g c.toNat).Has) then j q f (wrap .i64 (c+1)) else if ((0:Int)<=b/\b<(a.n:Int))then lt (fun (v:Int)=>if (decide ((y3.1.n:Int)<=f)) then some false else if (((0:Int)<=f/\f<(y3.1.n:Int))/\f.toNat<y3.1.n)then if ((((y3.1.g f.toNat).Entry==b)&&(((y3.1.g f.toNat).Leaf==c)&&(((y3.1.g f.toNat).Kind==v)&&((y3.1.g f.toNat).Cost==(wrap .i64 i))))) != true) then some false else j (wrap .i64 (q+1)) (wrap .i64 (f+1)) (wrap .i64 (c+1)) else none) fun k26=>if (a.g b.toNat).Has then if ((((0:Int)<=b/\b<(a.n:Int))/\((0:Int)<=c/\c<(y5.1.n:Int)))/\c.toNat<y5.1.n)then (EZ N m (a.g b.toNat).W (y5.1.g c.toNat)).bind fun s=>lt (fun (w:Bool)=>if w then j (wrap .i64 (q+1)) f (wrap .i64 (c+1)) else if (s.2==0) then k26 1 else k26 2) fun k27=>if (s.2==0) then if (((0:Int)<=b/\b<(d.n:Int))/\((0:Int)<=c/\c<((d.g b.toNat).Forms.n:Int)))then (N2 N s.1 ((d.g b.toNat).Forms.g c.toNat).W).bind fun x=>k27 x else none else k27 false else none else k26 2 else none else none else r q f (wrap .i64 (b+1))) o u 0 else none else if (((u != (y3.1.n:Int))||((o==0)&&(((y4.1.N==0)&&(y4.1.D==1)) != true)))||((wrap .i64 (y4.1.N*o)) != (wrap .i64 (y4.1.D*(wrap .i64 (o-(y3.1.n:Int))))))) then some false else T9 N (fun t (l:Int)=>if (decide (l<=y4.1.D)) then if l≠0 then if (((y4.1.N.tmod l)==0)=true->l≠0)then if (((y4.1.N.tmod l)==0)&&((y4.1.D.tmod l)==0)) then some false else t (wrap .i64 (l+1)) else none else none else (E1 N ).bind fun y=>some y) 2) 0 0 0
theorem OZ {N:Nat}{s:A5}{d:Sl E6}{q:Sl Entry}{c:Int}{y:Bool}(h:Av N s d q c=some y) :FunO S CW [.p (.agg (A4 s)),.p (vSl 2 C6 d),.p (vSl 2 B7 q),pU c] [] (pB y) ([]) []:=by
 unfold Av at h;refine A1 hS GC ?_;refine D8 hS T3 8 5000 (A4 s) ?_;obtain⟨y1,e1,h⟩:=B1 h;refine B6 hS [] (by decide:(3:Nat)<=3) (Sq hS hL e1) ?_;refine kB hS (A2 hS) T3 T3 3 (.o (.a (!y1)) (.a (decide (1073741824<c)))) ?_;apply kI hS h<;>intro h
 .refine kC hS h (N0 hS hL) (fun y2 h=>?_);cases h;exact kR hS
 obtain⟨y3,e3,h⟩:=B1 h;refine B6 hS [] (by decide:(3:Nat)<=3) (U6 hS hL e3) ?_;obtain⟨y4,e4,h⟩:=B1 h;refine B6 hS [] (by decide:(3:Nat)<=3) (Jj hS hL e4) ?_;refine D8 hS T3 12 12000 [pI .i64 y4.1.N,pI .i64 y4.1.D] ?_;refine kC hS h (Fw hS hL) (fun y5 h=>?_);refine kB hS (A2 hS) T3 T3 12 (.o (.o (.o (.a (y3.2 != 0)) (.a (y4.2 != 0))) (.a (y5.2 != 0))) (.a (decide (y4.1.D<1)))) ?_;apply kI hS h<;>intro h
 .cases h;exact kR hS
 refine Cv hS T3 h (fun f a0 j=>⟨[(17,pN j),(16,pN a0),(15,pN f),(13,.vec 53000),(11,.p (.ptr [pI .i64 y4.1.N,pI .i64 y4.1.D])),(9,.vec 40000),(4,.p (.ptr (A4 s))),(3,pU c),(2,.p (vSl 2 B7 q)),(1,.p (vSl 2 C6 d))],[(53000,.vec B8 1 y5.1.n (fun i=>cI .i64 (y5.1.g i)) true),(40000,.vec B5 4 y3.1.n (fun i=>A9 (y3.1.g i)) false)]⟩) (ids:=[(40000,40000),(53000,53000)]) (fun _ _ _ _ _ a6 f a0 j a2 h=>?_);apply kI hS h<;>intro h
 .obtain⟨c166,h⟩:=C7 h;refine D1 hS c166 (b:=((q.g j.toNat).Forms.n:Int) != (y5.1.n:Int)) (fun c167=>?_) (fun c167=>?_)
  .replace h:=itT c167 h;cases h;exact kR hS
  replace h:=itF c167 h;refine Cv hS T3 h (fun r m l=>⟨[(18,pN l),(17,pN j),(16,pN m),(15,pN r),(13,.vec 53000),(11,.p (.ptr [pI .i64 y4.1.N,pI .i64 y4.1.D])),(9,.vec 40000),(4,.p (.ptr (A4 s))),(3,pU c),(2,.p (vSl 2 B7 q)),(1,.p (vSl 2 C6 d))],[(53000,.vec B8 1 y5.1.n (fun i=>cI .i64 (y5.1.g i)) true),(40000,.vec B5 4 y3.1.n (fun i=>A9 (y3.1.g i)) false)]⟩) (ids:=[(40000,40000),(53000,53000)]) (fun _ _ _ _ _ a7 r m l u h=>?_);apply kI hS h<;>intro h
  .obtain⟨c221,h⟩:=C7 h;refine D1 hS c221 (b:=!((q.g j.toNat).Forms.g l.toNat).Has) (fun c222=>?_) (fun c222=>?_)
   .replace h:=itT c222 h;exact u _ [(40000,40000),(53000,53000)] _ r m (wrap .i64 (l+1)) T3 h
   replace h:=itF c222 h;obtain⟨c223,h⟩:=C7 h;refine Ai hS c223 (A2 hS) h 0 (fun a3=>⟨[(19,.reg 20000 0),(18,pN l),(17,pN j),(16,pN m),(15,pN (wrap .i64 (r+1))),(13,.vec 53000),(11,.p (.ptr [pI .i64 y4.1.N,pI .i64 y4.1.D])),(9,.vec 40000),(4,.p (.ptr (A4 s))),(3,pU c),(2,.p (vSl 2 B7 q)),(1,.p (vSl 2 C6 d))],[(53000,.vec B8 1 y5.1.n (fun i=>cI .i64 (y5.1.g i)) true),(40000,.vec B5 4 y3.1.n (fun i=>A9 (y3.1.g i)) false),(20000,.cells [pN j,pN l,pN a3,pN (wrap .i64 c)])]⟩) (fun M26 k26 v h=>?_) (fun a3 h=>?_)
   .apply kI hS h<;>intro h
    .refine C5 hS T3 [0,3,5,10] ?_;obtain⟨c235,h⟩:=C7 h;obtain⟨a8,e57,h⟩:=B1 h;refine F8 (And.intro (And.intro (And.intro (by decide:(3:Nat)<=3) c235.1.1) c235.1.2) c235.2) (AI9 hS hL e57) ?_;refine D9 T3 ?_;refine Ai hS T3 (A2 hS) h 0 (fun a4=>⟨[(141,pB a4),(21,pN a8.2),(19,.reg 20000 0),(18,pN l),(17,pN j),(16,pN m),(15,pN (wrap .i64 (r+1))),(13,.vec 53000),(11,.p (.ptr [pI .i64 y4.1.N,pI .i64 y4.1.D])),(9,.vec 40000),(4,.p (.ptr (A4 s))),(3,pU c),(2,.p (vSl 2 B7 q)),(1,.p (vSl 2 C6 d))],[(53000,.vec B8 1 y5.1.n (fun i=>cI .i64 (y5.1.g i)) true),(40000,.vec B5 4 y3.1.n (fun i=>A9 (y3.1.g i)) false),(20000,.cells [pN j,pN l,pN 2,pN (wrap .i64 c)])]⟩) (fun M27 k27 a1 h=>?_) (fun a4 h=>?_)
     .refine kG hS h (fun h=>?_) (fun h=>?_)
      .obtain⟨c240,h⟩:=C7 h;obtain⟨a9,e59,h⟩:=B1 h;refine B6 hS [] c240 (EN hS hL e59) ?_;exact a1 _ [(20000,20000),(40000,40000),(53000,53000)] _ a9 T3 h
      exact a1 _ [(20000,20000),(40000,40000),(53000,53000)] _ false T3 h
     apply kI hS h<;>intro h
     .exact u _ [(40000,40000),(53000,53000)] _ (wrap .i64 (r+1)) m (wrap .i64 (l+1)) T3 h
     apply kI hS h<;>intro h
     .exact v _ [(20000,20000),(40000,40000),(53000,53000)] _ 1 T3 h
     exact v _ [(20000,20000),(40000,40000),(53000,53000)] _ 2 T3 h
    exact v _ [(20000,20000),(40000,40000),(53000,53000)] _ 2 T3 h
   refine Ec hS T3 ?_;refine AY T3 (b:=decide ((y3.1.n:Int)<=m)) (fun c243=>?_) (fun c243=>?_)
   .replace h:=itT c243 h;refine D9 T3 ?_;cases h;exact kR hS
   replace h:=itF c243 h;obtain⟨c244,h⟩:=C7 h;refine D9 (And.intro (And.intro (And.intro c244.1 (by decide:(4:Nat)<=4)) c244.2) (by decide +kernel:AJ4 Tryz.prog B5=true)) ?_;apply kI hS h<;>intro h
   .cases h;exact kR hS
   exact u _ [(40000,40000),(53000,53000)] _ (wrap .i64 (r+1)) (wrap .i64 (m+1)) (wrap .i64 (l+1)) T3 h
  exact a2 _ [(40000,40000),(53000,53000)] _ r m (wrap .i64 (j+1)) T3 h
 obtain⟨t1,w⟩:∃x:Bool,x=(((a0 != (y3.1.n:Int))||((f==0)&&(((y4.1.N==0)&&(y4.1.D==1)) != true)))||((wrap .i64 (y4.1.N*f)) != (wrap .i64 (y4.1.D*(wrap .i64 (f-(y3.1.n:Int))))))):=⟨_,rfl⟩;refine Tm hS T3 (A2 hS) 0 ⟨[(185,pB t1),(11,.p (.ptr [pI .i64 y4.1.N,pI .i64 y4.1.D]))],[]⟩ (fun M28 t=>?_) ?_
 .refine X9 hS T3 (b:=a0 != (y3.1.n:Int)) (fun c249=>?_) (fun c249=>?_)
  .exact t _ [] _ T3 (hle:=klR [(0,.eq (.bb true) (.bb t1))] (al1 (by simp only[w,c249,Leaf.ok,pm,Rm,Rn]) al0))
  refine X9 hS T3 (b:=f==0) (fun c250=>?_) (fun c250=>?_)
  .refine X9 hS (And.intro (by decide:(2:Nat)<=2) (by decide +kernel:AJ4 Tryz.prog Ro=true)) (b:=((y4.1.N==0)&&(y4.1.D==1)) != true) (fun c251=>?_) (fun c251=>?_)
   .exact t _ [] _ T3 (hle:=klR [(0,.eq (.bb true) (.bb t1))] (al1 (by simp only[w,c249,c250,c251,Leaf.ok,pm,Rm,Rn]) al0))
   exact t _ [] _ T3 (hle:=klR [(0,.eq (.bb ((wrap .i64 (y4.1.N*f)) != (wrap .i64 (y4.1.D*(wrap .i64 (f-(y3.1.n:Int))))))) (.bb t1))] (al1 (by simp only[w,c249,c250,c251,Leaf.ok,pm,Rm,Rn]) al0))
  exact t _ [] _ T3 (hle:=klR [(0,.eq (.bb ((wrap .i64 (y4.1.N*f)) != (wrap .i64 (y4.1.D*(wrap .i64 (f-(y3.1.n:Int))))))) (.bb t1))] (al1 (by simp only[w,c249,c250,Leaf.ok,pm,Rm,Rn]) al0))
 subst w;apply kI hS h<;>intro h
 .cases h;exact kR hS
 refine E2 hS T3 h (fun z=>⟨[(22,pN z),(11,.p (.ptr [pI .i64 y4.1.N,pI .i64 y4.1.D]))],[]⟩) (ids:=[]) (fun _ _ _ _ _ b0 z a5 h=>?_);apply kI hS h<;>intro h
 .obtain⟨c262,h⟩:=C7 h;obtain⟨c263,h⟩:=C7 h;refine kB hS (A2 hS) c262 c263 6 (.n (.a ((y4.1.N.tmod z)==0)) (.a ((y4.1.D.tmod z)==0))) ?_;apply kI hS h<;>intro h
  .cases h;exact kR hS
  exact a5 _ [] _ (wrap .i64 (z+1)) T3 h
 refine kC hS h (N0 hS hL) (fun b1 h=>?_);cases h;exact kR hS
end Go.AM
namespace Go.AM
variable {N:Nat}
open IntKind (wrap)
open Go.Proofs
def BK6 {α : Type}{x:Sl α}{m:Nat}(h:x.n=m+1):x.toList.reverse=x.g m::(x.take m).toList.reverse:=by unfold Sl.toList;rw[h,Cw9,Cq9,Cx4];rfl
def Bc3 {x2:Sl Int}(hx:x2.n<100000):∀(k M:Nat),k<=x2.n->k<M->T9 M (fun (a:Int->Option (List Int)) (x3:Int)=>
 if (decide (0<=x3)) then
  if (((0:Int)<=x3/\x3<(x2.n:Int))/\x3.toNat<x2.n)then
   Be (x2.g x3.toNat) (
    a (wrap .i64 (x3-1))
    )
  else none
 else
  some []
 ) ((k:Int)-1)=some (x2.take k).toList.reverse
 |0,M,hk,hM=>by obtain⟨M,rfl⟩:∃K,M=K+1:=⟨M-1,by omega⟩;rw[V2,Ic];rfl
 |k+1,M,hk,hM=>by obtain⟨M,rfl⟩:∃K,M=K+1:=⟨M-1,by omega⟩;rw[show ((k+1:Nat):Int)-1=(k:Int) by omega,V2,Il (by simp),Il ⟨by omega,by omega⟩,E8 (by omega) (by omega),Bc3 hx k M (by omega) (by omega),Cl2,BK6 (x:=x2.take (k+1)) (m:=k) rfl];rfl
def Cb2 (j:3000000<=N){t:Sl J6}(ht:Af t){v:Nat}(f:v<t.n):Z9 N (v:Int) t=some ((Ku t v).map fun (x:Nat)=>(x:Int)):=by
 have i:=ht.2.1;have key:∀(m c:Nat) (x2:Sl Int) (M:Nat),c<m->c<t.n->m+1<M->x2.n+c<=1000->∃y:Sl Int,y.n<=1001/\y.toList.reverse=((Ku t c).map fun (x:Nat)=>(x:Int))++x2.toList.reverse /\
  P9 M (fun (a:Int->Sl Int->Option (List Int)) (x1:Int) (x2:Sl Int)=>
  if (decide (0<=x1)) then
   if (((x2.n+(Sl.of [x1]:Sl Int).n)*8<=140737488355328/\x2.n+(Sl.of [x1]:Sl Int).n<=140737488355328)/\((0:Int)<=x1/\x1<(t.n:Int)))then
    a (t.g x1.toNat).Parent (x2.push x1)
   else none
  else
   T9 N (fun b (x3:Int)=>
    if (decide (0<=x3)) then
     if (((0:Int)<=x3/\x3<(x2.n:Int))/\x3.toNat<x2.n)then
      Be (x2.g x3.toNat) (
       b (wrap .i64 (x3-1))
       )
     else none
    else
     some []
    ) (wrap .i64 ((x2.n:Int)-1))
  ) (c:Int) x2=some y.toList.reverse:=by
  intro m
  induction m with
  |zero=>exact fun c _ _ h=>Kh h (by omega)
  |succ m ih=>
   intro c x2 M hc d l hx;obtain⟨M,rfl⟩:∃K,M=K+1:=⟨M-1,by omega⟩;rw[F9,Il (by simp),Il ⟨by show (x2.n+1)*8<=_/\x2.n+1<=_;omega,by omega⟩,Cl2];rcases Z5 ht d with⟨_,e⟩ | ⟨p,hp,e⟩
   .obtain⟨M,rfl⟩:∃K,M=K+1:=⟨M-1,by omega⟩;refine⟨x2.push (c:Int),by show x2.n+1<=_;omega,by rw[La,Cx4,HX (by omega)];rfl,?_⟩;rw[e,F9,Ix (by decide)];have hb:=Bc3 (x2:=x2.push (c:Int)) (by show x2.n+1<_;omega) (x2.n+1) N (Cl9 _) (by omega);rw[E8 (by show _<=((x2.n+1:Nat):Int)-1;omega) (by show ((x2.n+1:Nat):Int)-1<=_;omega)];exact hb
   obtain⟨y,y1,y2,y3⟩:=ih p (x2.push (c:Int)) M (by omega) (by omega) (by omega) (by show x2.n+1+p<=_;omega);refine⟨y,y1,?_,by rw[e];exact y3⟩;rw[y2,La,Cx4,RC e hp,Cq9,Cn9];rfl
 obtain⟨y,_,y2,y3⟩:=key (v+1) v (Sl.nil:Sl Int) N (by omega) f (by omega) (by show 0+v<=_;omega);unfold Z9;rw[y3,y2];show some (_++[])=_;rw[Cn0]
def Pa:∀(d:Nat) (p:Pat),okP d p->∀M,100+d<=M->∃q,U9 M p=some q/\PE p q
 |0,p,h,M,_=>h.elim
 |d+1,p,h,0,hM=>by omega
 |d+1,p,h,M+1,hM=>by
  show ∃q,W0 (U9 M) M p=some q/\_;unfold W0;have hn:=h.1;refine N4 (fun i (x1:Sl Pat) x2=>x2=(i:Int)/\x1.n=i/\∀j,j<i->PE (p.L.g j) (x1.g j)) p.L.n _ (by omega) ⟨rfl,rfl,fun j a=>Kh a (by omega)⟩ ?_;rintro c i x1 x2 f ⟨rfl,hx,a⟩ hs;by_cases hl:i<p.L.n
  .obtain⟨q,q1,q2⟩:=Pa d (p.L.g i) (h.2.2 i hl) M (by omega);refine Ax (Ab (B4 (by rw[Cl2];exact q1) (ifT (by show (x1.n+1)*64<=_/\x1.n+1<=_;omega) (hs hl _ _ ⟨Cl,by show x1.n+1=_;omega,fun j b=>?_⟩))));show PE _ (if j<x1.n then x1.g j else q);by_cases e:j=i
   .subst e;rw[Fp];exact q2
   rw[Cw];exact a j (by omega)
  exact Bm ⟨_,rfl,PE_of.2 ⟨rfl,rfl,rfl,rfl,rfl,by show x1.n=_;omega,fun j b=>a j (by omega)⟩⟩
def Bk3 (d:3000000<=N){l:Law}(hl:Tz l)(hc:chkAll N l):∃l',AG N l=some l' /\ LE l l':=by have a:=hc.f hl;obtain⟨_,h1,b,g,c,_⟩:=a;have i:=c.1;obtain⟨q1,e1,g1⟩:=Pa 40 l.Left (Wx 40 _ (by omega) h1 _ (by simp)) N (by omega);obtain⟨q2,e2,g2⟩:=Pa 40 l.Right (Wx 40 _ (by omega) b _ (by simp)) N (by omega);unfold AG B9 I9;rw[e1,e2,Cl3,Cl3,Cw,Cl3,Cw];exact⟨_,rfl,rfl,g1,g2,SE.refl _,SE.refl _,rfl⟩
def BK7 (m:3000000<=N){h:A5}(o:I6 h)(c:U7 N h){l:Sl Int}(hn:l.n<1000000)(hl:∀i,i<l.n->0<=l.g i/\l.g i<h.Laws.n) :∃s,AW N h l=some s/\s.n=l.n/\∀i,i<l.n->LE (h.Laws.g (l.g i).toNat) (s.g i):=by
 unfold AW;refine N4 (fun i (x1:Sl Law) x2=>x2=(i:Int)/\x1.n=i/\∀j,j<i->LE (h.Laws.g (l.g j).toNat) (x1.g j)) l.n _ (by omega) ⟨rfl,rfl,fun j b=>Kh b (by omega)⟩ ?_;rintro f i x1 x2 hle ⟨rfl,hx,b⟩ hs;by_cases a:i<l.n
 .have r:=hl i a;obtain⟨q,q1,q2⟩:=Bk3 m (o.laws (l.g i).toNat (by omega)) (c.laws.2 (l.g i).toNat (by omega));refine Ax ?_;rw[Cl2];refine ifT ⟨by omega,r⟩ (B4 q1 (ifT (by show (x1.n+1)*200<=_/\x1.n+1<=_;omega) (hs a _ _ ⟨Cl,by show x1.n+1=_;omega,fun j d=>?_⟩)));show LE _ (if j<x1.n then x1.g j else q);by_cases e:j=i
  .subst e;rw[Fp];exact q2
  rw[Cw];exact b j (by omega)
 exact Bm ⟨_,rfl,by omega,fun j d=>b j (by omega)⟩
end Go.AM
namespace Go.AM
open Go.Proofs
def AJ0 {N:Nat}:∀(A B:List Law) (w:Sl To),Ff N (A++B) w=(Ff N A w).bind (Ff N B)
 |[],B,w=>rfl
 |l::A,B,w=>by
  show (ZC N l w).bind (Ff N (A++B))=((ZC N l w).bind (Ff N A)).bind (Ff N B);cases ZC N l w with
  |none=>rfl
  |some v=>exact AJ0 A B v
def AJ1 {f g:Nat->Law}:∀(l:List Nat),(∀i∈l,LE (f i) (g i))->LEs (l.map f) (l.map g)
 |[],_=>trivial
 |i::l,h=>⟨h i (by simp),AJ1 l fun j a=>h j (by simp[a])⟩
def LS.s {s t:Sl Law}(h:LS s t):LEs s.toList t.toList:=by unfold Sl.toList;rw[<- h.1];exact AJ1 _ fun i a=>h.2 i (Cn2.1 a)
def Cb3 {N:Nat}{laws:Sl Law}(hl:HU laws)(b:HV N laws):∀l∈laws.toList,Bi5 N l:=by intro l h;obtain⟨i,a,rfl⟩:=Cp2.1 h;have a:=Cn2.1 a;exact⟨hl i a,b.2 i a⟩
def BK8 {h:A5}(b:I6 h){l:Sl Int}(hl:∀i,i<l.n->0<=l.g i/\l.g i<h.Laws.n):HU (As9 h l):=fun i a=>b.laws _ (by have:=hl i a;omega)
def BK9 {N:Nat}{h:A5}(a:U7 N h){l:Sl Int}(hn:l.n<=64)(hl:∀i,i<l.n->0<=l.g i/\l.g i<h.Laws.n):HV N (As9 h l):=⟨hn,fun i b=>a.laws.2 _ (by have:=hl i b;omega)⟩
def By9 {N:Nat}(t:3000000<=N){h:A5}(c:I6 h)(a:U7 N h):∀(L:List Nat) (z z' : Sl To),(∀x∈L,x<h.Tree.n)->wOk z->SE z z' ->
 ∃r,Q5 (L.map fun (x:Nat)=>(x:Int)) (fun (d:Sl To->Option ((Sl To)×Int)) (x1:Int) (z1:Sl To)=>
  if ((0:Int)<=x1/\x1<(h.On.n:Int))then
   (AW N h (h.On.g x1.toNat)).bind fun y8=>
   (J4 N y8 z1).bind fun y9=>
   if (y9.2 != 0) then
    some ((Sl.nil:Sl To),y9.2)
   else
    d y9.1
  else none
  ) (fun (z1:Sl To)=>
   some (z1,0)
  ) z=some r/\((∃v,Ff N (RE h L) z' = some v/\r.2=0/\SE r.1 v/\wOk r.1) \/ (Ff N (RE h L) z' = none/\r=((Sl.nil:Sl To),11)))
 |[],z,z',_,hz,hse=>⟨(z,0),rfl,.inl ⟨z',rfl,rfl,hse,hz⟩⟩
 |x::L,z,z',hx,hz,hse=>by
  have w:=hx x (by simp);have hon:=a.on;obtain⟨o1,o2⟩:=AG0 a w;obtain⟨s,s1,s2,s3⟩:=BK7 t c a (l:=h.On.g x) (by omega) o2;have b:LS (As9 h (h.On.g x)) s:=⟨s2.symm,fun i c=>s3 i c⟩;have j:=BK8 c o2;have m:=BK9 a o1 o2;have o:=AZ9 b j;have q : HV N s:=⟨by omega,fun i c=>(HT (b.2 i (by rw[b.1];exact c))).1 (m.2 i (by rw[b.1];exact c))⟩;have hf:=Bv9 t _ _ z' z (Cb3 j m) b.s (hse.wOk hz) hse.symm;have f:Ff N (RE h (x::L)) z' = (Ff N (As9 h (h.On.g x)).toList z').bind (Ff N (RE h L)):=by rw[<- AJ0];rfl
  rw[f,Cp1,Q5,Cw,Cl2,s1,Cl3];rcases WE t o q hz with⟨v,d1,d2,d3⟩ | ⟨d1,d2⟩
  .rw[d2,Cl3,Ic];rcases hf with⟨_,f2⟩ | ⟨u,u',f1,f2,f3,f4⟩
   .rw[d1]at f2;cases f2
   rw[d1]at f2;obtain rfl:=Cm3 f2;rw[f1,Cl3];exact By9 t c a L v u (fun y hy=>hx y (by simp[hy])) d3 f3.symm
  rw[d2,Cl3,Il (by simp)];rcases hf with⟨f1,_⟩ | ⟨u,u',_,f2,_⟩
  .rw[f1];exact⟨_,rfl,.inr ⟨rfl,rfl⟩⟩
  rw[d1]at f2;cases f2
end Go.AM
namespace Go.AM
open Go.Proofs
def DV (N:Nat)(h:A5)(w:Sl To)(v:Nat):Option (Sl To):=Ff N (RE h (Ku h.Tree v)) w
def Cb4 {N:Nat}(b:3000000<=N){h:A5}(f:I6 h)(a:U7 N h){w:Sl To}(hw:wOk w)(c:okA w){u:Nat}(g:u<h.Tree.n) :∃q,EZ N h w (u:Int)=some q/\outR (DV N h w u) q.1 q.2/\q.1.n<=32:=by
 unfold EZ DQ;rw[RB b f,hres_zero.2 a];obtain⟨e',e3,d⟩:=KX (N:=N) (by omega) c;obtain rfl:=(DB d).2 hw;simp only[Cl3,e3];have hb:¬(!((decide (0<=(u:Int)))&&(decide ((u:Int)<(h.Tree.n:Int)))))=true:=by simp;omega
 rw[ite_self,Cl3,Ic,EH,Cl3,Ix hb,FC,Cl3];obtain⟨q,q1,q2⟩:=By9 b f a (Ku h.Tree u) w w (fun x hx=>by have:=RD a.tree u u (Cl9 _) g x hx;omega) hw (SE.refl w);refine⟨q,?_,?_⟩
 .show (Z9 N (u:Int) h.Tree).bind _=_;rw[Cb2 b a.tree g];exact q1
 rcases q2 with⟨y,y1,y2,y3,y4⟩ | ⟨y1,rfl⟩
 .exact⟨.inl ⟨y,y1,y2,y3,y4⟩,y4.1⟩
 exact⟨.inr ⟨y1,rfl,rfl⟩,Cx3 _⟩
end Go.AM
namespace Go.AM
open IntKind (wrap)
open Go.Proofs
def YR {N:Nat}(m:3000000<=N){l:Sl Entry}(hn:l.n<900)(W:Nat->Int)(j:∀i,i<l.n->H2 N (l.g i).Forms=some (W i))(w0:Int) :P9 N (fun (a:Int->Int->Option Int) (x7:Int) (x8:Int)=>
  if ((decide (x8<(l.n:Int)))&&(x7==0)) then
   if ((0:Int)<=x8/\x8<(l.n:Int))then
    (H2 N (l.g x8.toNat).Forms).bind fun d=>
    a d (wrap .i64 (x8+1))
   else none
  else
   some x7
  ) w0 0=some (orE w0 (GV W l.n)):=by
 refine eqR (N4 (fun i x7 x8=>x8=(i:Int)/\((x7=0/\w0=0/\GV W i=0) \/ (x7≠0/\x7=orE w0 (GV W l.n)))) l.n _ (by omega) ⟨rfl,?_⟩ ?_)
 .by_cases h:w0=0
  .exact .inl ⟨h,h,rfl⟩
  exact .inr ⟨h,(HY h).symm⟩
 rintro f i x7 x8 hle ⟨rfl,h⟩ hs;rcases h with⟨rfl,b,h1⟩ | ⟨b,h1⟩
 .by_cases hl:i<l.n
  .refine ifT (by simpa using hl) (Ab ?_);rw[Cl2,Cl];refine B4 (j i hl) (hs hl _ _ ⟨rfl,?_⟩);have e:=Ht h1;by_cases c:W i=0
   .exact .inl ⟨c,b,by rw[e];exact c⟩
   exact .inr ⟨c,by rw[DC b,EX (i:=i+1) (by rw[e];exact c) l.n hl,e]⟩
  obtain rfl:i=l.n:=by omega
  exact Ci ⟨_,rfl,by rw[DC b,h1]⟩
 exact ifF (by simp[b]) ⟨_,rfl,h1⟩
end Go.AM
namespace Go.AM
open IntKind (wrap)
open Go.Proofs
def DS {N:Nat}(q:3000000<=N){h:A5}(t:I6 h){p:Sl E6}{l:Sl Entry}(hp:K0 p)(hl:S3 l):DR N h p l=some (UV N h p l):=by
 unfold DR UV;rw[Qj q t,Cl3];by_cases j:hres N h=0
 case neg=>rw[Il (show (hres N h != 0)=true by simpa using j),Il j]
 rw[Ix (show ¬(hres N h != 0)=true by simp[j]),Ix (show ¬hres N h≠0 from fun g=>g j)];have m:=hres_zero.1 j;have u:=Cq m.tree;by_cases d:256<l.n
 .rw[Il (show (decide (256<(l.n:Int)))=true by simp;omega),Il d]
 rw[Ix (show ¬(decide (256<(l.n:Int)))=true by simp;omega),Ix d,(Gk q t.tree m.tree).2,Cl3];by_cases f:p.n=l.n
 case neg=>rw[Il (.inl f)];exact Cx
 have hc:¬((p.n:Int) != (l.n:Int))=true:=by simp[f]
 rw[Dg (by omega) (by omega)];by_cases o:emp p
 .rw[Il (.inr o),Tc o];exact Ix hc
 rw[Ix (fun g=>g.elim (fun e=>e f) o),Tb o];refine (Ix hc).trans ?_;rw[Cl3];refine (Ix (by decide)).trans ?_;unfold Ca0;have step:=fun (a:Option Int) (i:Nat)=>UU (l:=l) (i:=i) (show (F7 h.Tree h.Tree.n).n<900 by omega) (fun h=>Dg (N:=N) (s:=(l.g i).Forms) (by omega) (by omega)) a;have ent:∀(i:Nat) (a:Int->Option Int),i<l.n->(lt (fun (z4:Bool)=>
  if z4 then
   some (2:Int)
  else
   a (wrap .i64 ((i:Int)+1))
  ) fun k4=>
  if (((l.g i).Forms.n:Int) != (((F7 h.Tree h.Tree.n).n:Nat):Int)) then
   k4 true
  else
   if ((0:Int)<=(i:Int)/\(i:Int)<(l.n:Int))then
    (I7 N (l.g i).Forms).bind fun r=>
    k4 (!r)
   else none)=if e2 l (F7 h.Tree h.Tree.n).n i≠0 then some (e2 l (F7 h.Tree h.Tree.n).n i)else a (wrap .i64 ((i:Int)+1)):=fun i a b=>by
  rw[<- step];unfold lt;dsimp only;rw[Il (show (0:Int)<=(i:Int)/\(i:Int)<(l.n:Int) by omega)]
 refine BJ0 (by omega) ?_ ?_ ?_
 .intro a i b c;rw[Il (by simpa using b),Cw,Cl2,ent i a b,Il c]
 .intro a i b c;rw[Il (by simpa using b),Cw,Cl2,ent i a b,Ix (fun g=>g c),Cl]
 intro a g1;rw[Ic];refine AS7 (by omega) ?_ ?_ ?_
 .intro a i b c;rw[Il (by simpa using b),Cw,Cl2,GU (by have:=(hl i b).2;omega) (by have:=(hl i b).2;omega),Cl3];unfold e15 at c⊢;by_cases h:Fd (l.g i).Gloss=true
  .exact Kh (Il h) c
  rw[Il (by simpa using h),Ix h]
 .intro a i b c;rw[Il (by simpa using b),Cw,Cl2,GU (by have:=(hl i b).2;omega) (by have:=(hl i b).2;omega),Cl3];unfold e15 at c;by_cases h:Fd (l.g i).Gloss=true
  .rw[Ix (by simp[h]),Cl]
  rw[Ix h]at c;cases c
 intro a;rw[Ic,(BA (by omega) (by omega) hp).2,Cl3];exact YR q (by omega) (fun i=>wsE N (l.g i).Forms) (fun i b=>(BA (by omega) (by have:=(WG (AD g1 i b)).1;omega) (hl i b).1).2) (wsE N p)
end Go.AM
namespace Go.AM
open Go.Proofs
def YS {N:Nat}{l:Sl Entry}(o:1000000<=N)(hn:l.n<1000)(d:∀i,i<l.n->(l.g i).Forms.n<1000):BF N l=some ((DT l).length:Int):=by
 refine eqR ?_;unfold BF;refine N4 (fun i x3 x4=>x4=(i:Int)/\x3=((CN l i).length:Int)) l.n _ (by omega) ⟨rfl,rfl⟩ ?_;rintro f i x3 x4 q ⟨rfl,rfl⟩ hs;by_cases hl:i<l.n
 .refine Ax ?_;have m:=d i hl;have r:(CN l i).length<=i*1000:=GW i fun j s=>by have:=d j (by omega);omega
  refine N4 (fun k x7 x8=>x8=(k:Int)/\x7=(((CN l i).length+(attR l i k).length:Nat):Int)) (l.g i).Forms.n _ (by omega) ⟨rfl,rfl⟩ ?_;rintro c k x7 x8 hk ⟨rfl,rfl⟩ a;have hR:=Fy l i k;refine Ab ?_;rw[Cl2];by_cases b:k<(l.g i).Forms.n
  .refine Ax (Ab ?_);rw[Cl2];have e:=Qk l i k;by_cases h:((l.g i).Forms.g k).Has=true
   .rw[Il h]at e;refine ifT h (a b _ _ ⟨Cl,?_⟩);rw[Cl,e,Cm0];rfl
   rw[Ix h,Cn0]at e;exact ifF h (a b _ _ ⟨Cl,by rw[e]⟩)
  obtain rfl:k=(l.g i).Forms.n:=by omega
  refine Ci (hs hl _ _ ⟨Cl,?_⟩);rw[Gl,Cm0]
 obtain rfl:i=l.n:=by omega
 exact Ci ⟨_,rfl,rfl⟩
end Go.AM
namespace Go.AM
open IntKind (wrap)
open Go.Proofs
def UH {N:Nat}(hN:3000000<=N){h:A5}(hi:I6 h){p:Sl E6}{l:Sl Entry}(hp:K0 p)(hl:S3 l)(ha:attOk N h p l){c:Int}(hc:0<=c/\c<=1073741824) :∃b,T0 N h p l c=some (b,0)/\b.toList=GX N h p l c:=by
 suffices ∃r,T0 N h p l c=some r/\(r.2=0/\r.1.toList=GX N h p l c) by obtain⟨⟨b,e⟩,r1,r2,r3⟩:=this;obtain rfl:e=0:=r2;exact⟨b,r1,r3⟩
 have hlen:=ha.len;have h63:=Cq ha.hist.tree;have hln:=ha.n;have hpn:=ha.pn;unfold T0;refine B4 (DS hN hi hp hl) ?_;rw[(Cr (by omega) hp hl).2 ha];refine Ck (Bm ?_);refine N4 (fun i (z:Sl A3) x=>x=(i:Int)/\z.toList=(CN l i).filterMap (exc N h p l c)/\z.n<=(CN l i).length) l.n _ (by omega) ⟨rfl,rfl,Cl9 _⟩ ?_;rintro self i z x hii ⟨rfl,o,q⟩ hs;by_cases v:i<l.n
 case neg=>
  obtain rfl:i=l.n:=by omega
  exact Ci ⟨_,rfl,rfl,o⟩
 have hfi:=ha.fn i v;have hU:(CN l i).length<=i*63:=GW i fun j hj=>by rw[ha.fn j (by omega)];exact h63
 refine Ax ?_;refine N4 (fun k (z:Sl A3) x=>x=(k:Int)/\z.toList=(CN l i++attR l i k).filterMap (exc N h p l c)/\z.n<=(CN l i).length+(attR l i k).length) (l.g i).Forms.n _ (by omega) ⟨rfl,by rw[o];simp[attR],by show z.n<=_+0;omega⟩ ?_;rintro a k z x hk ⟨rfl,o,q⟩ s;have hR:=Fy l i k;refine Ab ?_;rw[Cl2];by_cases t:k<(l.g i).Forms.n
 case neg=>
  obtain rfl:k=(l.g i).Forms.n:=by omega
  refine Ci (hs v _ _ ⟨Cl,by rw[Gl];exact o,by rw[Gl,Cm0];exact q⟩)
 refine Ax (Ab ?_);rw[Cl2];have e:=Qk l i k;by_cases hh:((l.g i).Forms.g k).Has=true
 case neg=>rw[Ix hh,Cn0]at e;exact ifT (by simpa using hh) (s t _ _ ⟨Cl,by rw[e];exact o,by rw[e];exact q⟩)
 rw[Il hh]at e;have w:k<(F7 h.Tree h.Tree.n).n:=by omega
 obtain⟨b,b1,b2⟩:=EW hN hi ha.hist (x:=-1) (p:=p.g i) (f:=(l.g i).Forms.g k) (fun _=>ha.pw i (by omega)) w;have u:exc N h p l c (i,k)=none->∃y,a z (wrap .i64 ((k:Int)+1))=some y/\(y.2=0/\y.1.toList=GX N h p l c):=fun he=>
  s t _ _ ⟨Cl,by rw[e,<- Cn9];exact AS8 o he,by rw[e,Cm0];omega⟩
 have m:∀x,exc N h p l c (i,k)=some x->∃y,a (z.push x) (wrap .i64 ((k:Int)+1))=some y/\(y.2=0/\y.1.toList=GX N h p l c):=fun x he=>
  s t _ _ ⟨Cl,by rw[e,<- Cn9];exact At6 o he,by rw[e,Cm0];show z.n+1<=_+(_+1);omega⟩
 refine ifF (by simp[hh]) (Ab (B4 b1 ?_));cases b with
 |true=>exact ifT rfl (u (Hu (b2.1 rfl)))
 |false=>
  obtain⟨d,d1,d2⟩:=Ld hN hi ha.hist (x:=-1) (p:=p.g i) (fun _=>ha.pw i (by omega)) w;refine Ck (Ab (B4 d1 ?_));have hb:(z.n+1)*32<=140737488355328/\z.n+1<=140737488355328:=by omega
  rcases d2 with⟨y,g1,g2,_⟩ | ⟨g1,g2⟩
  .refine ifF (by simp[g2]) (ifT hb (m _ (Nt (fun hr=>by have:=b2.2 hr;cases this) ?_)));show DF N h (Y5 h k) (-1) (p.g i)≠none;unfold Y5;rw[g1];exact fun e=>by cases e
  exact ifT (by simp[g2]) (ifT hb (m _ (DD g1)))
def Af3 {N:Nat}(a:3000000<=N){h:A5}(d:I6 h){p:Sl E6}{l:Sl Entry}(hp:K0 p)(hl:S3 l)(c:Int) :∃r r',G2 N h p l c=some r/\T0 N h p l c=some r' /\ r.2=r'.2/\r.1.toList=r'.1.toList/\(r.2=0↔(attOk N h p l/\0<=c/\c<=1073741824))/\(r.2=0->r.1.toList=GX N h p l c)/\(r.2≠0->r.1.n=0):=by
 by_cases ha:attOk N h p l
 .by_cases hc:0<=c/\c<=1073741824
  .obtain⟨b,b1,b2⟩:=GY a d hp hl ha hc;obtain⟨b',b1',b2'⟩:=UH a d hp hl ha hc;exact⟨_,_,b1,b1',rfl,b2.trans b2'.symm,⟨fun _=>⟨ha,hc⟩,fun _=>rfl⟩,fun _=>b2,fun f=>Kh rfl f⟩
  have hb:((decide (c<0))||(decide (1073741824<c)))=true:=by simp;omega
  refine⟨((Sl.nil:Sl A3),2),((Sl.nil:Sl A3),2),?_,?_,rfl,rfl,⟨fun f=>(by cases f),fun f=>Kh f.2 hc⟩,fun f=>(by cases f),fun _=>rfl⟩
  .unfold G2;rw[W7 a d hp hl,(Cr (by omega) hp hl).2 ha,Cl3,Ix (by decide),Il hb]
  unfold T0;rw[DS a d hp hl,(Cr (by omega) hp hl).2 ha,Cl3,Ix (by decide),Il hb]
 have i:UV N h p l≠0:=fun e=>ha ((Cr (by omega) hp hl).1 e);have g:(UV N h p l != 0)=true:=by simpa using i
 refine⟨((Sl.nil:Sl A3),UV N h p l),((Sl.nil:Sl A3),UV N h p l),?_,?_,rfl,rfl,⟨fun f=>Kh f i,fun f=>Kh f.1 ha⟩,fun f=>Kh f i,fun _=>rfl⟩
 .unfold G2;rw[W7 a d hp hl,Cl3,Il g]
 unfold T0;rw[DS a d hp hl,Cl3,Il g]
end Go.AM
namespace Go.AM
open IntKind (wrap)
open Go.Proofs
def AJ2 (a b:Nat):(a:Int).tmod (b:Int)=((a % b:Nat):Int):=rfl
def QT (a b:Nat):(a:Int).tdiv (b:Int)=((a / b:Nat):Int):=rfl
def Dh {n:Nat}(h:n<1000000000000000000):IntKind.i64.wrap (n:Int)=(n:Int):=E8 (by omega) (by omega)
def Oo {R:Type}{K:Int->Option R}:∀(m a b M:Nat),b<=m->m+1<M->P9 M (fun (c:Int->Int->Option R) (x3:Int) (x4:Int)=>
 if (x4 != 0) then
  if x4≠0 then
   c x4 (x3.tmod x4)
  else none
 else K x3) (a:Int) (b:Int)=K ((Nat.gcd a b:Nat):Int)
 |0,a,b,M,hb,hM=>by
  obtain⟨M,rfl⟩:∃K,M=K+1:=⟨M-1,by omega⟩;obtain rfl:b=0:=by omega
  rw[F9,Ic,CE3]
 |m+1,a,b,M,hb,hM=>by
  obtain⟨M,rfl⟩:∃K,M=K+1:=⟨M-1,by omega⟩;by_cases d:b=0
  .subst d;rw[F9,Ic,CE3]
  have f:=CL0 a (show 0<b by omega);rw[F9,Cx,Cw,AJ2,Oo m b (a % b) M (by omega) (by omega),CH4 a b,Nat.gcd_rec b a,CH4]
def Di (x n:Nat):(((n:Int).tmod (x:Int))==0)=true↔x ∣ n:=by
 rw[AJ2,beq_iff_eq];constructor
 .intro h;exact CK3 (by omega)
 intro h;rw[CK5 h];rfl
def Af4 {N a b:Nat}(ha:1<=a)(hb:b<=a)(v:a<N)(hs:a<100000):Zb N (fun (f:Int->Int->Int->Option (VK×Int)) (x1:Int) (x2:Int) (x3:Int)=>
 if (decide (1<x3)) then
  if x3≠0 then
   if (((x2.tmod x3)==0)=true->x3≠0)then
    if (((x2.tmod x3)==0)&&((x1.tmod x3)==0)) then
     if (x3≠0/\x3≠0)then
      f (wrap .i64 (x1.tdiv x3)) (wrap .i64 (x2.tdiv x3)) (wrap .i64 (x3-1))
     else none
    else
     f x1 x2 (wrap .i64 (x3-1))
   else none
  else none
 else
  some ((⟨x2,x1⟩:VK),0)
 ) (a:Int) (b:Int) (a:Int)=some (⟨((b / Nat.gcd a b:Nat):Int),((a / Nat.gcd a b:Nat):Int)⟩,0):=by
 have l:0<Nat.gcd a b:=Cy5 b (by omega);have j:=CJ5 a b;have m:=CI4 a b;have o:Nat.gcd a b<=a:=CC4 (by omega) j;generalize s:Nat.gcd a b=g at *;refine eqR (KU (fun i x1 x2 x3=>∃n d x:Nat,x1=(d:Int)/\x2=(n:Int)/\x3=(x:Int)/\x+i=a/\n<=a/\d<=a/\((n=b/\d=a/\g<=x) \/ (n=b / g/\d=a / g))) a _ v ⟨b,a,a,rfl,rfl,rfl,by omega,hb,Cl9 _,.inl ⟨rfl,rfl,o⟩⟩ ?_);rintro t i x1 x2 x3 hi ⟨n,d,x,rfl,rfl,rfl,hx,hn,w,hc⟩ q;by_cases h1:1<x
 case neg=>
  refine Bm ⟨_,rfl,?_⟩;rcases hc with⟨rfl,rfl,r⟩ | ⟨rfl,rfl⟩
  .obtain rfl:g=1:=by omega
   rw[CG3,CG3]
  rfl
 refine Ax (Ab (ifT (fun _=>by omega) ?_));have e1:IntKind.i64.wrap ((x:Int)-1)=((x-1:Nat):Int):=BW8 (by omega) (by omega);rw[e1];by_cases c:x ∣ n/\x ∣ d
 .refine ifT (by rw[Cl8];exact⟨(Di x n).2 c.1,(Di x d).2 c.2⟩) (Ab ?_);have y:=Cx1 n x;have z:=Cx1 d x;rw[QT,QT,Dh (by omega),Dh (by omega)];refine q (by omega) _ _ _ ⟨n / x,d / x,x-1,rfl,rfl,rfl,by omega,by omega,by omega,.inr ?_⟩;rcases hc with⟨rfl,rfl,r⟩ | ⟨rfl,rfl⟩
  .have:x ∣ g:=by rw[<- s];exact CI9 c.2 c.1
   have:=CC4 l this
   obtain rfl:x=g:=by omega
   exact⟨rfl,rfl⟩
  exfalso;have u:x ∣ Nat.gcd (a / g) (b / g):=CI9 c.2 c.1;rw[Dd6 j m,s,CX8 l]at u
  have:=CC4 (by omega) u
  omega
 refine ifF (fun h=>c ?_) (q (by omega) _ _ _ ⟨n,d,x-1,rfl,rfl,rfl,by omega,hn,w,?_⟩)
 .rw[Cl8]at h;exact⟨(Di x n).1 h.1,(Di x d).1 h.2⟩
 rcases hc with⟨rfl,rfl,r⟩ | h
 .refine .inl ⟨rfl,rfl,?_⟩;by_cases e:g=x
  .subst e;exact Kh ⟨m,j⟩ c
  omega
 exact .inr h
def Dj (A B:Nat):VK:=if A=0 then ⟨0,1⟩else ⟨(((A-B) / Nat.gcd A (A-B):Nat):Int),((A / Nat.gcd A (A-B):Nat):Int)⟩
def Mz {R:Type}{K:Int->Option R}:∀(L:List (Bd×Sl To)) (z:Nat),z+L.length<1000000->Q5 L (fun (a:Int->Option R) (x1:Bd×(Sl To)) (z1:Int)=>a (wrap .i64 (z1+1))) K (z:Int)=K ((z+L.length:Nat):Int)
 |[],z,_=>rfl
 |t::L,z,h=>by have e:(t::L).length=L.length+1:=rfl;show Q5 L _ K (wrap .i64 ((z:Int)+1))=_;rw[Cl,Mz L (z+1) (by omega)];congr 2;omega
def YT {N:Nat}(v:3000000<=N){h:A5}(o:I6 h){p:Sl E6}{l:Sl Entry}(hp:K0 p)(hl:S3 l) :∃r,O3 N h p l=some r/\Ew N h p l=some r/\(r.2=0↔attOk N h p l)/\(r.2=0->r.1=Dj (DT l).length (GX N h p l 0).length):=by
 obtain⟨b,b',b1,b1',b2,b3,b4,b5,b6⟩:=Af3 v o hp hl 0;by_cases a:b.2=0
 case neg=>
  have g:(b.2 != 0)=true:=by simpa using a
  have j : (b'.2 != 0)=true:=by rw[<- b2];exact g
  refine⟨((⟨0,0⟩:VK),b.2),?_,?_,⟨fun f=>Kh f a,fun f=>Kh (b4.2 ⟨f,by omega,by omega⟩) a⟩,fun f=>Kh f a⟩
  .unfold O3;rw[b1,Cl3,Il g]
  unfold Ew;rw[b1',Cl3,Il j,b2]
 have ha:=(b4.1 a).1;have w:=ha.len;have x:¬(b.2 != 0)=true:=by simp[a]
 have q : ¬(b'.2 != 0)=true:=by simp[<- b2,a]
 have s:b.1.n=(GX N h p l 0).length:=by rw[<- b5 a,W2]
 have m : b'.1.n=(GX N h p l 0).length:=by rw[<- b5 a,b3,W2]
 have hle:=Fz (N:=N) (h:=h) (p:=p) (l:=l) (c:=0);have y:=Cq ha.hist.tree;have t:=YS (N:=N) (l:=l) (by omega) (by have:=ha.n;omega) fun i o=>by rw[ha.fn i o];omega
 have u:=AG6 v ha;refine⟨(Dj (DT l).length (GX N h p l 0).length,0),?_,?_,⟨fun _=>ha,fun _=>rfl⟩,fun _=>rfl⟩
 .unfold O3;rw[b1,Cl3,Ix x];show ((F2 N l).bind fun L1=>_)=_;rw[u,Cl3];refine (Mz ((DT l).map (Bk8 l)) 0 (by rw[Cp3];omega)).trans ?_;rw[Cp3,Cp5];generalize (DT l).length=A at *;unfold Dj;by_cases d:A=0
  .rw[Il (by simp[d]),Il d]
  rw[Fq,Ix d,s];generalize (GX N h p l 0).length=B at *;have e1:IntKind.i64.wrap ((A:Int)-(B:Int))=((A-B:Nat):Int):=by rw[E8 (by omega) (by omega)];omega
  rw[e1,Oo A A (A-B) N (by omega) (by omega)];have z:0<Nat.gcd A (A-B):=Cy5 _ (by omega);have d1:=Cx1 (A-B) (Nat.gcd A (A-B));have d2:=Cx1 A (Nat.gcd A (A-B));rw[Cw,QT,QT,Dh (by omega),Dh (by omega)]
 unfold Ew;rw[b1',Cl3,Ix q,t,Cl3];generalize (DT l).length=A at *;unfold Dj;by_cases d:A=0
 .rw[Il (by simp[d]),Il d]
 rw[Fq,Ix d,m];generalize (GX N h p l 0).length=B at *;have e1:IntKind.i64.wrap ((A:Int)-(B:Int))=((A-B:Nat):Int):=by rw[E8 (by omega) (by omega)];omega
 rw[e1];exact Af4 (by omega) (by omega) (by omega) (by omega)
end Go.AM
namespace Go.AM
variable {N:Nat}
open IntKind (wrap)
open Go.Proofs
def UI (a:3000000<=N){h:A5}(d:I6 h){p:Sl E6}{l:Sl Entry}(hp:K0 p)(hl:S3 l):∃b,Aa N h p l=some b/\(b=true->attOk N h p l):=by
 unfold Aa;obtain⟨b,b1,_⟩:=HZ a h;obtain⟨c,c1,_⟩:=Ia a p l;refine B4 b1 (ltX ?_);by_cases g1:b=true
 .refine ifT g1 (B4 c1 ?_);by_cases g2:c=true
  .exact ifT g2 (B4 (W7 a d hp hl) ⟨_,rfl,fun e=>(Cr (by omega) hp hl).1 (by simpa using e)⟩)
  exact ifF g2 ⟨_,rfl,fun e=>by cases e⟩
 exact ifF g1 ⟨_,rfl,fun e=>by cases e⟩
def Bz0 {h:A5}{N:Nat}(a:U7 N h){u:Nat}(b:u<h.Tree.n):Fx h (Ku h.Tree u) (-1)=RE h (Ku h.Tree u):=by
 have key:∀L:List Nat,(∀v∈L,v<h.Tree.n)->Fx h L (-1)=RE h L:=by
  intro L
  induction L with
  |nil=>intro _;rfl
  |cons v L ih=>
   intro hL;unfold Fx RE at ih⊢;rw[Cq2,Cq2,ih fun w hw=>hL w (by simp[hw])];congr 1;unfold AS4;rw[US];congr 1;refine List.filter_eq_self.2 fun i c=>?_;obtain⟨j,d,rfl⟩:=Cp2.1 c
   have:=(AG0 a (hL v (by simp))).2 j (Cn2.1 d)
   simp;omega
 exact key _ fun v f=>by have:=RD a.tree u u (Cl9 _) b v f;omega
def DX_DV {h:A5}{N:Nat}(a:U7 N h){u:Nat}(b:u<h.Tree.n)(w:Sl To):DX N h u (-1) w=DV N h w u:=by unfold DX DV;rw[Bz0 a b]
def Bc4 (l:Sl Entry){i:Nat}:∀n,i<=n->∃r,CN l n=CN l i++r
 |0,h=>by obtain rfl:i=0:=(by omega);exact⟨[],by simp⟩
 |n+1,h=>by
  by_cases e:i=n+1
  .subst e;exact⟨[],by simp⟩
  obtain⟨r,a⟩:=Bc4 l (i:=i) n (by omega);exact⟨r++attR l n (l.g n).Forms.n,by rw[Gl,a,Cn9]⟩
def Bc5 (l:Sl Entry)(i:Nat){k:Nat}:∀n,k<=n->∃r,attR l i n=attR l i k++r
 |0,h=>by obtain rfl:k=0:=(by omega);exact⟨[],by simp⟩
 |n+1,h=>by
  by_cases e:k=n+1
  .subst e;exact⟨[],by simp⟩
  obtain⟨r,a⟩:=Bc5 l i (k:=k) n (by omega);exact⟨r++(if ((l.g i).Forms.g n).Has then [(i,n)]else []),by rw[Qk,a,Cn9]⟩
def Af5 {α β : Type}{f : α -> Option β}{L:List α}{a : α}{b : β}(h:f a=some b):((L++[a]).filterMap f).length=(L.filterMap f).length+1:=by rw[Cx7,Cm0,Cz0,h];rfl
def YU {α β : Type}{f : α -> Option β}{L:List α}{a : α}(h:f a=none):(L++[a]).filterMap f=L.filterMap f:=by rw[Cx7,Cz0,h];exact Cn0 _
def Bz1 {l:Sl Entry}{i k:Nat}(a:i<l.n)(hk:k<(l.g i).Forms.n)(b:((l.g i).Forms.g k).Has=true):∃r,DT l=(CN l i++attR l i k)++(i,k)::r:=by obtain⟨r,c⟩:=Bc4 l (i:=i+1) l.n a;obtain⟨s,hs⟩:=Bc5 l i (k:=k+1) (l.g i).Forms.n hk;refine⟨s++r,?_⟩;show CN l l.n=_;rw[c,Gl,hs,Qk,Il b];simp
def Ck0 {h:A5}{p:Sl E6}{l:Sl Entry}{c:Int}{done todo:List (Nat×Nat)}{q:Nat×Nat}(hs:DT l=done++q::todo){s:Sl A3}(hb:s.toList=GX N h p l c){x:A3}(hx:exc N h p l c q=some x) :(done.filterMap (exc N h p l c)).length<s.n/\s.g (done.filterMap (exc N h p l c)).length=x:=by
 have e:s.toList=done.filterMap (exc N h p l c)++x::todo.filterMap (exc N h p l c):=by rw[hb,GX,hs,Cx7,Cz0,hx]
 have a:(done.filterMap (exc N h p l c)).length<s.n:=by rw[<- W2 s,e,Cm0];simp
 refine⟨a,?_⟩;have g:=congrArg (fun L=>L[(done.filterMap (exc N h p l c)).length]?) e;simp only[Cz1 (Cl9 _),CM9,Cs3]at g;simpa[Sl.toList,a]using g
def BL0 {A B:Nat}(l:B<=A):∃n d:Nat,Dj A B=⟨(n:Int),(d:Int)⟩/\1<=d/\n<=d/\(A=0->n=0/\d=1)/\(0<A->d<=A)/\n*A=d*(A-B)/\Nat.gcd n d=1:=by
 unfold Dj;by_cases j:A=0
 .rw[Il j];exact⟨0,1,rfl,Cl9 _,by omega,fun _=>⟨rfl,rfl⟩,fun h=>by omega,by subst j;simp,rfl⟩
 rw[Ix j];have c:0<Nat.gcd A (A-B):=Cy5 _ (by omega);have f:=CJ5 A (A-B);have i:=CI4 A (A-B);refine⟨(A-B) / Nat.gcd A (A-B),A / Nat.gcd A (A-B),rfl,Nat.div_pos (CC4 (by omega) f) c,Nat.div_le_div_right (by omega),fun h=>Kh h j,fun _=>Cx1 _ _,?_,?_⟩
 .obtain⟨a,ha⟩:=f;obtain⟨b,hb⟩:=i;generalize Nat.gcd A (A-B)=g at *;rw[hb,CJ0 _ c]
  have:A / g=a:=by rw[ha,CJ0 _ c]
  rw[this,ha];simp only[CC0,Nat.mul_left_comm]
 rw[Dd6 i f,CH4 (A-B) A];exact CX8 c
def Sr (hN:3000000<=N)(hw:E1 N=some true){h:A5}(hi:I6 h){p:Sl E6}{l:Sl Entry}(hp:K0 p)(hl:S3 l){c:Nat}(hc:c<4294967296):Av N h p l (c:Int)=some true:=by
 refine eqR ?_;unfold Av;obtain⟨b,b1,b2⟩:=UI hN hi hp hl;refine B4 b1 ?_;by_cases g:((!b)||(decide (1073741824<(c:Int))))=true
 .exact ifT g (B4 hw ⟨_,rfl,rfl⟩)
 refine ifF g ?_;simp only[Co3,Co5,Sp,not_or,Bool.not_eq_false]at g;obtain⟨gb,gc⟩:=g;have ha:=b2 gb;have a0:=ha.hist;have h63:=Cq a0.tree;have hln:=ha.n;have hpn:=ha.pn;have hlen:=ha.len;have ew:IntKind.i64.wrap (c:Int)=(c:Int):=E8 (by omega) (by omega);rw[ew];obtain⟨x,x1,x2⟩:=GY hN hi hp hl ha (c:=(c:Int)) (by omega);obtain⟨r,r1,_,r3,r4⟩:=YT hN hi hp hl;have r0:=r3.2 ha;have hr:=r4 r0;have hBc:(GX N h p l 0).length=x.n:=by
  have e:∀L:List (Nat×Nat),(L.filterMap (exc N h p l 0)).length=(L.filterMap (exc N h p l (c:Int))).length:=by
   intro L
   induction L with
   |nil=>rfl
   |cons q L ih=>
    rw[Cz0,Cz0];by_cases hr:RG N h (Y5 h q.2) (-1) (p.g q.1) ((l.g q.1).Forms.g q.2)
    .rw[Hu hr,Hu hr];exact ih
    by_cases hd:DF N h (Y5 h q.2) (-1) (p.g q.1)=none
    .rw[DD hd,DD hd,Co6,Co6,ih]
    rw[Nt hr hd,Nt hr hd,Co6,Co6,ih]
  rw[<- W2 x,x2];exact e _
 have hB:=Fz (N:=N) (h:=h) (p:=p) (l:=l) (c:=0);obtain⟨n,d,f1,f2,f3,f4,f5,f6,f7⟩:=BL0 hB;rw[hBc]at f1 f6 hB hr;rw[f1]at hr;refine B4 x1 (B4 r1 (B4 (Gk hN hi.tree a0.tree).1 (ifF (by rw[r0,hr];simp;omega) ?_)));rw[hr];dsimp only;have hd:d<=16128:=by
  by_cases hA:(DT l).length=0
  .have:=(f4 hA).2;omega
  have:=f5 (by omega);omega
 have hcnt:∀L:List (Nat×Nat),(L.filterMap (exc N h p l (c:Int))).length<=L.length:=fun L=>CI2 _ _;refine KU (fun i a b y=>y=(i:Int)/\a=(((CN l i).length:Nat):Int)/\b=((((CN l i).filterMap (exc N h p l (c:Int))).length:Nat):Int)) l.n _ (by omega) ⟨rfl,rfl,rfl⟩ ?_;rintro self i a b y hle ⟨rfl,rfl,rfl⟩ hs;by_cases hil:i<l.n
 .have hfi:=ha.fn i hil;have hU:(CN l i).length<=i*63:=GW i fun j hj=>by rw[ha.fn j (by omega)];exact h63
  refine Ax (Ab ?_);rw[Cl2];refine ifF (by simp[hfi]) ?_;refine KU (fun k a b y=>y=(k:Int)/\a=(((CN l i++attR l i k).length:Nat):Int)/\b=((((CN l i++attR l i k).filterMap (exc N h p l (c:Int))).length:Nat):Int)) (F7 h.Tree h.Tree.n).n _ (by omega) ⟨rfl,by simp[attR],by simp[attR]⟩ ?_;rintro s k a b y hk ⟨rfl,rfl,rfl⟩ hs4;have hR:=Fy l i k;have hL:(CN l i++attR l i k).length<=20000:=by rw[Cm0];omega
  have hF:=hcnt (CN l i++attR l i k);by_cases hkl:k<(F7 h.Tree h.Tree.n).n
  case neg=>
   obtain rfl:k=(F7 h.Tree h.Tree.n).n:=by omega
   refine Ci (hs hil _ _ _ ⟨Cl,?_,?_⟩)
   .rw[Gl,hfi]
   rw[Gl,hfi]
  refine Ax (Ab ?_);rw[Cl2];have t:=Qk l i k;by_cases hh:((l.g i).Forms.g k).Has=true
  case neg=>rw[Ix hh,Cn0]at t;exact ifT (by simpa using hh) (hs4 hkl _ _ _ ⟨Cl,by rw[t],by rw[t]⟩)
  rw[Il hh]at t;obtain⟨rest,hsplit⟩:=Bz1 hil (k:=k) (by omega) hh;obtain⟨u,hu,hsu⟩:=Lc h.Tree h.Tree.n k hkl;have hnl:Y5 h k=u:=by unfold Y5;rw[hsu,Cl2]
  have m:CN l i++attR l i (k+1)=(CN l i++attR l i k)++[(i,k)]:=by rw[t,Cn9]
  have w:(CN l i++attR l i (k+1)).length=(CN l i++attR l i k).length+1:=by rw[m,Cm0];rfl
  have hpass:exc N h p l (c:Int) (i,k)=none->∃r,s (wrap .i64 ((((CN l i++attR l i k).length:Nat):Int)+1)) ((((CN l i++attR l i k).filterMap (exc N h p l (c:Int))).length:Nat):Int) (wrap .i64 ((k:Int)+1))=some r/\r=true:=fun he=>
   hs4 hkl _ _ _ ⟨Cl,by rw[Cl,w],by rw[m,YU he]⟩
  have o:∀kd:Int,exc N h p l (c:Int) (i,k)=some ⟨(i:Int),(k:Int),kd,(c:Int)⟩->∃r,(if (decide ((x.n:Int)<=((((CN l i++attR l i k).filterMap (exc N h p l (c:Int))).length:Nat):Int))) then
   some false
   else
    if (((0:Int)<=((((CN l i++attR l i k).filterMap (exc N h p l (c:Int))).length:Nat):Int)/\((((CN l i++attR l i k).filterMap (exc N h p l (c:Int))).length:Nat):Int)<(x.n:Int))/\((((CN l i++attR l i k).filterMap (exc N h p l (c:Int))).length:Nat):Int).toNat<x.n)then
     if ((((x.g ((((CN l i++attR l i k).filterMap (exc N h p l (c:Int))).length:Nat):Int).toNat).Entry==(i:Int))&&(((x.g ((((CN l i++attR l i k).filterMap (exc N h p l (c:Int))).length:Nat):Int).toNat).Leaf==(k:Int))&&(((x.g ((((CN l i++attR l i k).filterMap (exc N h p l (c:Int))).length:Nat):Int).toNat).Kind==kd)&&((x.g ((((CN l i++attR l i k).filterMap (exc N h p l (c:Int))).length:Nat):Int).toNat).Cost==(c:Int))))) != true) then
      some false
     else
      s (wrap .i64 ((((CN l i++attR l i k).length:Nat):Int)+1)) (wrap .i64 (((((CN l i++attR l i k).filterMap (exc N h p l (c:Int))).length:Nat):Int)+1)) (wrap .i64 ((k:Int)+1))
    else none)=some r/\r=true:=fun kd he=>by
   obtain⟨g1,g2⟩:=Ck0 hsplit x2 he;refine ifF (by rw[Sp];omega) (Ab ?_);rw[Cl2,g2];exact Ci (hs4 hkl _ _ _ ⟨Cl,by rw[Cl,w],by rw[Cl,m,Af5 he]⟩)
  refine ifF (by simp[hh]) (Ab (ltX ?_));by_cases hph:(p.g i).Has=true
  case neg=>have hd0:DF N h (Y5 h k) (-1) (p.g i)=none:=Ix hph;exact ifF hph (o 2 (DD hd0))
  have hpw:=ha.pw i (by omega);obtain⟨q,q1,q2,q3⟩:=Cb4 hN hi a0 hpw (hp i (by omega)) hu;have hDF:DF N h (Y5 h k) (-1) (p.g i)=DV N h (p.g i).W u:=by unfold DF;rw[Il hph,hnl,DX_DV a0 hu]
  refine ifT hph (Ab ?_);rw[hsu];refine B4 q1 (ltX ?_);rcases q2 with⟨v,v1,v2,v3,v4⟩ | ⟨v1,v2,v3⟩
  .obtain⟨e,e1,e2⟩:=Bv3 (N:=N) (x:=q.1) (y:=((l.g i).Forms.g k).W) (by omega) (by omega);refine ifT (by simp[v2]) (Ab (B4 e1 ?_));cases e with
   |true=>exact ifT rfl (hpass (Hu ⟨v,hDF.trans v1,v3.symm.trans (e2.1 rfl)⟩))
   |false=>
    refine Ck (ifT (by simp[v2]) (o 1 (Nt ?_ ?_)))
    .rintro⟨z,z1,z2⟩;replace z1:DF N h (Y5 h k) (-1) (p.g i)=some z:=z1;rw[hDF,v1]at z1;obtain rfl:=Cm3 z1
     have:=e2.2 (v3.trans z2)
     cases this
    show DF N h (Y5 h k) (-1) (p.g i)≠none;rw[hDF,v1];exact fun f=>by cases f
  refine ifF (by simp[v2]) (Ck (ifF (by simp[v2]) (o 2 (DD (hDF.trans v1)))))
 obtain rfl:i=l.n:=by omega
 have hat:(((CN l l.n).filterMap (exc N h p l (c:Int))).length:Int)=(x.n:Int):=by rw[<- W2 x,x2];rfl
 rw[hat];have hAe:(CN l l.n).length=(DT l).length:=rfl;rw[hAe];generalize (DT l).length=A at *;have e5:IntKind.i64.wrap ((A:Int)-(x.n:Int))=((A-x.n:Nat):Int):=by rw[E8 (by omega) (by omega)];omega
 have hm1:n*A<=16128*16128:=Nat.mul_le_mul (by omega) (by omega);have hm2:d*(A-x.n)<=16128*16128:=Nat.mul_le_mul (by omega) (by omega);have e6:IntKind.i64.wrap ((n:Int)*(A:Int))=((n*A:Nat):Int):=by rw[<- Int.natCast_mul];exact Dh (by omega)
 have e7:IntKind.i64.wrap ((d:Int)*((A-x.n:Nat):Int))=((d*(A-x.n):Nat):Int):=by rw[<- Int.natCast_mul];exact Dh (by omega)
 rw[e5,e6,e7,f6];refine Ci (ifF ?_ ?_)
 .simp only[bne_self_eq_false,Bool.or_false,Bool.false_or,Cl8,beq_iff_eq,not_and];intro hA;have hA:A=0:=by omega
  obtain⟨rfl,rfl⟩:=f4 hA;decide
 refine Aq (fun i y=>y=((i+2:Nat):Int)) d _ (by omega) rfl ?_;rintro self5 j y hj rfl hs5;by_cases hjd:j+2<=d
 .refine Ax (Ab (ifT (fun _=>by omega) (ifF ?_ (hs5 (by omega) _ (Cl)))));rw[Cl8,Di,Di];rintro⟨g1,g2⟩
  have:=CI9 g1 g2
  rw[f7]at this
  have:=CC4 (by omega) this
  omega
 exact Bm (B4 hw ⟨_,rfl,rfl⟩)
end Go.AM
namespace Go.AM
def Ck1 {n:Int}(h:(Lit.int .u32 n).wf=true):∃k:Nat,n=(k:Int)/\k<4294967296:=by
 simp only[Lit.wf,IntKind.min,IntKind.max,IntKind.signed,IntKind.bits,Cl8,Sp]at h;have a:0<=n:=by have:=h.1;simpa using this
 have h1:n<4294967296:=by have:=h.2;simp at this;omega
 exact⟨n.toNat,by omega,by omega⟩
end Go.AM
namespace Go.AM
open Go.RowKit Go.ChangeShapes Go.WideShapes Go.ChangeAt Go.Deep Go.Proofs Go.Proofs.YtlbooedblpdmaaaGreatDoor
namespace AtRegular
set_option maxRecDepth 100000
def contract (H:Type)(enc:TypeId×Value->H)(W:World)(base:Nat)(args:Array Value)(ds gs:List (DataW H))(before:List MemPlace)
 (a:∀(j:Nat) t v,Tryz.f12.params[j]? = some t->args[j]? = some v->Value.okWide Tryz.prog W .any base t v)
 (y:DataW.Whole enc Tryz.prog Tryz.f12.params.toList Rows.attestRegularSpec.vars false W args.toList ds gs before) (hk:Rows.uptoSmall H (ds++gs)=true) (hL:laidMetH Tryz.prog Rows.attestRegularUptoRow.laid W) :
 Calls Tryz.prog 12 args W fun e W'=>∃v,e=.returned v/\Rows.attestRegularSpec.post enc Tryz.prog Tryz.f12 false true false false W args v W':=by
 have f:=y;obtain⟨p,q,l,hV,rfl,hfz,hnd⟩:=y;have z:DataW.TrodAll enc Tryz.prog W 0 (fun _=>true) true Tryz.f12.params.toList args.toList ds p:=l;rw[CM7]at z a;obtain⟨v0,vs0,d0,ds0,p0,q0,m,rfl,rfl,h0,r0⟩:=trodAll_cons z;obtain⟨v1,vs1,d1,ds1,p1,q1,rfl,rfl,rfl,h1,r1⟩:=trodAll_cons r0;obtain⟨v2,vs2,d2,ds2,p2,q2,rfl,rfl,rfl,h2,r2⟩:=trodAll_cons r1;obtain⟨v3,vs3,d3,ds3,p3,q3,rfl,rfl,rfl,h3,r3⟩:=trodAll_cons r2;obtain⟨rfl,rfl,rfl⟩:=trodAll_nil r3;obtain rfl:args = #[v0,v1,v2,v3]:=by cases args;simp_all
 obtain⟨rfl,rfl⟩:=trodVars_none hV;have hb:=of_decide_eq_true hk;simp only[Cn0,Rows.uptoBulkAll]at hb;obtain⟨cs0,c,_⟩:=okWide_struct Cy7 (a 0 26 v0 rfl rfl);obtain⟨a1,len1,cap1,o⟩:=okWide_slice Cs8 (a 1 27 v1 rfl rfl);obtain⟨a2,len2,cap2,r⟩:=okWide_slice Ct9 (a 2 28 v2 rfl rfl);obtain⟨_,s⟩:=okWide_int CB8 (a 3 70 v3 rfl rfl);obtain⟨fu0,g0⟩:=h0;obtain⟨fu1,g1⟩:=h1;obtain⟨fu2,g2⟩:=h2;obtain⟨fu3,g3⟩:=h3;have d:SJ Tryz.prog [26,22,112,3,9,23,90,87,72,70,4,85,51,88,142,24,43,27,68,28,49]=true:=by kernel_rfl
 have b:∀t∈([26,22,112,3,9,23,90,87,72,70,4,85,51,88,142,24,43,27,68,28,49]:List Nat),t<Tryz.prog.types.size:=by decide +kernel
 obtain⟨pv0,c0,sh0⟩:=I1 GG GH d b fu0 26 _ _ (by simp) g0;obtain⟨x0,l0,w0,s0⟩:=Ca _ _ sh0;have s0:AT x0<=Rows.uptoBulk d0:=s0;have e0:=c0.leD l0;rw[c]at e0;have e0:=OL e0;rw[<- c]at e0;obtain⟨pv1,c1,sh1⟩:=I1 GG GH d b fu1 27 _ _ (by simp) g1;obtain⟨x1,l1,w1,s1⟩:=H1 Cs8 (by kernel_rfl) FH _ _ sh1;have s1:(EK (fun i=>Gp (x1.g i)) x1.n+1)<=Rows.uptoBulk d1:=s1;have e1:=CU (by rw[o];rfl) (c1.leD l1);obtain⟨pv2,c2,sh2⟩:=I1 GG GH d b fu2 28 _ _ (by simp) g2;obtain⟨x2,l2,w2,s2⟩:=H1 Ct9 (by kernel_rfl) Eo _ _ sh2;have s2:(EK (fun i=>Ar (x2.g i)) x2.n+1)<=Rows.uptoBulk d2:=s2;have e2:=CU (by rw[r];rfl) (c2.leD l2);obtain⟨pv3,c3,sh3⟩:=I1 GG GH d b fu3 70 _ _ (by simp) g3;obtain⟨x3,l3,w3,s3⟩:=N9 CB8 _ _ sh3;have s3:1<=Rows.uptoBulk d3:=s3;have e3:=CU (by rw[s];rfl) (c3.leD l3);obtain⟨k3,u,w⟩:=Ck1 w3;have hP:FunO (Jw Tryz.prog) CW [.p (.agg (A4 x0)),.p (vSl 2 C6 x1),.p (vSl 2 B7 x2),.p (pI .u32 x3)] [] (.p (.bb true)) [] []:=
  OZ (BB9 _) Ca4 (by rw[u];exact Sr (N:=4194304) (by omega) Em (Ib w0 (by omega)) (Ep w1) (Lg w2 (by omega)) w)
 have hc:=Ah (args:=[.agg (A4 x0),vSl 2 C6 x1,vSl 2 B7 x2,pI .u32 x3]) (enters_of GC (by decide +kernel) rfl) hP (W:=W) (vs:=#[v0,v1,v2,v3]) (OM hL) rfl (fun i hi=>by
  match i,hi with
  |0,_=>exact e0
  |1,_=>exact e1
  |2,_=>exact e2
  |3,_=>exact e3
  )
 refine hc.mono fun e W' ⟨he,x⟩=>?_;subst he;exact⟨_,rfl,IP rfl (by kernel_rfl) Cs7 (by kernel_rfl) (by rw[CM7];decide +kernel) f rfl x⟩
def own:ownKnob Tryz.prog.godebug=none:=by kernel_rfl
def reads (os:Os){H:Type}(enc:TypeId×Value->H):∃places,DataW.whole enc Tryz.prog ((World.laidAll Tryz.prog os Rows.attestRegularUptoRow.laid).forCall (fun _ _=>0) ⟨#[],#[.agg #[.slice none 0 0,.slice none 0 0,.slice none 0 0],.slice none 0 0,.slice none 0 0,.int .u32 0],[]⟩).memory Tryz.f12.params.toList Rows.attestRegularSpec.vars false (#[.agg #[.slice none 0 0,.slice none 0 0,.slice none 0 0],.slice none 0 0,.slice none 0 0,.int .u32 0]:Array Value).toList 16=some ([.agg [.nil,.nil,.nil],.nil,.nil,.lit (.int .u32 0)],[],places):=
 ⟨[],by kernel_rfl⟩
def laid_met (os:Os):laidMet Tryz.prog Rows.attestRegularUptoRow.laid ((World.laidAll Tryz.prog os Rows.attestRegularUptoRow.laid).forCall (fun _ _=>0) ⟨#[],#[.agg #[.slice none 0 0,.slice none 0 0,.slice none 0 0],.slice none 0 0,.slice none 0 0,.int .u32 0],[]⟩).memory:=
 laidMet_laidAll _ (by kernel_rfl) (by kernel_rfl)
def liftedUpto (os:Os)(started:os.Started)(H:Type)(enc:TypeId×Value->H)(F:Stop.Interp) :ReturnsInHanded {} Tryz.checked os 12 .any ((Rows.OpenSpec.upto Rows.attestRegularSpec).preRow enc Tryz.prog Tryz.f12 Rows.attestRegularUptoRow.domain false Rows.attestRegularUptoRow.laid) (((Rows.OpenSpec.upto Rows.attestRegularSpec).at F).post enc Tryz.prog Tryz.f12 false true false false):=by
 obtain⟨places,hx⟩:=reads os enc;refine returnsInHanded_of_row (C:=Tryz.checked) (s:=Rows.OpenSpec.upto Rows.attestRegularSpec) own started (by kernel_rfl) Dd7
  (witness_row_at (enc:=enc) (C:=Tryz.checked) false (World.laidAll Tryz.prog os Rows.attestRegularUptoRow.laid) #[.agg #[.slice none 0 0,.slice none 0 0,.slice none 0 0],.slice none 0 0,.slice none 0 0,.int .u32 0] (World.laidAll_os _ _ _) (by kernel_rfl) (by kernel_rfl) (by kernel_rfl)
   (Cu6 16 hx (by kernel_rfl) (fun k hk=>by cases hk;kernel_rfl) (by kernel_rfl) (laid_met os))) ?_
 intro W base args ds gs before b c _ a _ hL _ _;exact contract H enc W base args ds gs before b c (a _ rfl) hL
def gA:jA_ Tryz.pinned.checked.prog 12 Tryz.f12 (Rows.OpenSpec.upto Rows.attestRegularSpec).bare Rows.attestRegularUptoRow=true:=by kernel_rfl
def gB:jB_ Tryz.pinned.checked.prog 12 Tryz.f12 (Rows.OpenSpec.upto Rows.attestRegularSpec).bare Rows.attestRegularUptoRow=true:=by kernel_rfl
def gC:jC_ Tryz.pinned.checked.prog 12 Tryz.f12 (Rows.OpenSpec.upto Rows.attestRegularSpec).bare Rows.attestRegularUptoRow=true:=by kernel_rfl
def gD:jD_ Tryz.pinned.checked.prog 12 Tryz.f12 (Rows.OpenSpec.upto Rows.attestRegularSpec).bare Rows.attestRegularUptoRow=true:=by kernel_rfl
def gE:jE_ Tryz.pinned.checked.prog 12 Tryz.f12 (Rows.OpenSpec.upto Rows.attestRegularSpec).bare Rows.attestRegularUptoRow=true:=by kernel_rfl
def gF:jF_ Tryz.pinned.checked.prog 12 Tryz.f12 (Rows.OpenSpec.upto Rows.attestRegularSpec).bare Rows.attestRegularUptoRow=true:=by kernel_rfl
def saidUpto:Rows.AttestRegularUptoSaid:=
 Cv3 12 Tryz.f12 rfl rfl rfl rfl rfl rfl rfl ⟨rfl,rfl,rfl,rfl,rfl⟩ rfl rfl rfl rfl rfl (by kernel_rfl) Dd7 (Gm gA gB gC gD gE gF)
  (of_decide_eq_true (by kernel_rfl)) (by unfold Func.isWrapper;first|(rw[Il (by decide +kernel)];kernel_rfl)|(rw[Ix (by decide +kernel)];exact⟨rfl,rfl⟩))
  (fun os started H enc _ F=>by rw[Cw0];exact liftedUpto os started H enc F)
def plain (f:FuncId)(fn:Func)(b:Tryz.pinned.checked.prog.funcNamed "ablaut/ablautlaw26.AttestRegular" = some f)(a:Tryz.pinned.checked.prog.funcs[f]? = some fn) :true=Tryz.pinned.checked.prog.looks []/\∀(j:Nat) t,fn.params[j]? = some t->Tryz.pinned.checked.prog.wantsStandIn t=false:=by
 obtain rfl:f=12:=Cm3 ((show Tryz.prog.funcNamed "ablaut/ablautlaw26.AttestRegular" = some 12 by kernel_rfl).symm.trans b) |>.symm;obtain rfl:fn=Tryz.f12:=(Cm3 (Tryz.func12.symm.trans a)).symm;refine⟨by kernel_rfl,fun j t ht=>?_⟩;rw[CM7]at ht;have hm:=Ct1 ht;simp only[CA1,Co1,CA8,or_false]at hm;rcases hm with rfl|rfl|rfl|rfl
 .exact (show Tryz.prog.wantsStandIn 26=false by kernel_rfl)
 .exact (show Tryz.prog.wantsStandIn 27=false by kernel_rfl)
 .exact (show Tryz.prog.wantsStandIn 28=false by kernel_rfl)
 exact (show Tryz.prog.wantsStandIn 70=false by kernel_rfl)
def cardUpto:Rows.AttestRegularUptoCardSaid:=
 Cs1 .later [] _ _ _ _ saidUpto (fun _ h=>by cases h) (by kernel_rfl) (fun _ h=>by cases h) attestRegularUpto_row_tie rfl ⟨rfl,rfl⟩ (by kernel_rfl) rfl plain (by kernel_rfl)
end AtRegular
end Go.AM
