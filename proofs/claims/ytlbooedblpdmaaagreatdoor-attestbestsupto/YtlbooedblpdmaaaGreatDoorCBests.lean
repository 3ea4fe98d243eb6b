/- What a law's walk and its plain proof need, part 14: no condition of its own. -/
import Derived.Test.YtlbooedblpdmaaaGreatDoorAJ
import Derived.Test.YtlbooedblpdmaaaGreatDoorAH
import Derived.Test.YtlbooedblpdmaaaGreatDoorAI
import Derived.Test.YtlbooedblpdmaaaGreatDoorAK
import Derived.Lay
set_option linter.defProp false
set_option linter.unusedSimpArgs false
set_option linter.unusedVariables false
set_option linter.unusedSectionVars false
namespace Go.AM
def Cr7:=@Go.Claim7.holds_tied_plain_at
def Cu2:=@Go.OpenSpec.preRow_of_cond
def Cu9:=@Go.OpenClaim.holds_of_cond
def Cv6:=@Go.OpenClaim.pre_eq_preRow
def Cz7:=@List.mem_toArray
def CA4:=@List.not_mem_nil
def CN3:=@Go.Proofs.Tryz.func114
def CN6:=@Go.Proofs.Tryz.func115
def CN9:=@Go.Proofs.Tryz.func117
def CO2:=@Go.Proofs.Tryz.func118
def CO5:=@Go.Proofs.Tryz.func119
def CO8:=@Go.Proofs.Tryz.func120
def CP1:=@Go.Proofs.Tryz.func136
def CP4:=@Go.Proofs.Tryz.func137
def CP7:=@Go.Proofs.Tryz.func138
def CQ0:=@Go.Proofs.Tryz.func139
def CQ3:=@Go.Proofs.Tryz.func141
def CQ6:=@Go.Proofs.Tryz.func154
def CQ9:=@Go.Proofs.Tryz.func155
def CR2:=@Go.Proofs.Tryz.func163
def CR5:=@Go.Proofs.Tryz.func164
def CR8:=@Go.Proofs.Tryz.func165
def CS1:=@Go.Proofs.Tryz.func166
def CS4:=@Go.Proofs.Tryz.func171
def CS7:=@Go.Proofs.Tryz.func172
def CT0:=@Go.Proofs.Tryz.func173
def CT3:=@Go.Proofs.Tryz.func180
def CT6:=@Go.Proofs.Tryz.func181
def CT9:=@Go.Proofs.Tryz.func182
def CU2:=@Go.Proofs.Tryz.func183
def CU5:=@Go.Proofs.Tryz.func184
def CU8:=@Go.Proofs.Tryz.func192
def CV1:=@Go.Proofs.Tryz.func193
def CV4:=@Go.Proofs.Tryz.func194
def CV7:=@Go.Proofs.Tryz.func195
def CW0:=@Go.Proofs.Tryz.func203
def CW3:=@Go.Proofs.Tryz.func204
def CW6:=@Go.Proofs.Tryz.func205
def CW9:=@Go.Proofs.Tryz.func206
def CX2:=@Go.Proofs.Tryz.func207
def CX5:=@Go.Proofs.Tryz.func208
def CY0:=@Go.Proofs.Tryz.params5
def CY8:=@Go.Proofs.Tryz.func51
def CZ1:=@Go.Proofs.Tryz.func52
def CZ4:=@Go.Proofs.Tryz.func57
def CZ7:=@Go.Proofs.Tryz.func58
def Da0:=@Go.Proofs.Tryz.func59
def Da3:=@Go.Proofs.Tryz.func60
def Da6:=@Go.Proofs.Tryz.func61
def Da9:=@Go.Proofs.Tryz.func62
def Db2:=@Go.Proofs.Tryz.func84
def Db5:=@Go.Proofs.Tryz.func85
def Db8:=@Go.Proofs.Tryz.func89
def Dc1:=@Go.Proofs.Tryz.func90
def Dc4:=@Go.Proofs.Tryz.func91
def Dc7:=@Go.Proofs.Tryz.func92
def Dd0:=@Go.Proofs.Tryz.func93
def Dd3:=@Go.Proofs.Tryz.func94
section
variable {S:W1}{P:Program}{F:O8}{K:List It}{st:St}{g:Cfg}{pr:Prop}
theorem Cj9 {k:Nat}{g:Nat->List PV}:AV.p (.v (.slice none 0 0))=.p (.sl false k 0 g) \/ ∃x y,AV.p (.v (.slice none 0 0))=.p x/\AV.p (.sl false k 0 g)=.p y/\leQ x y:=
 .inr ⟨_,_,rfl,rfl,.inl (.inr (.inr (.inl ⟨_,_,rfl,rfl⟩)))⟩
end
end Go.AM
namespace Go.AM
open Go.Proofs
abbrev Es:Nat:=5
abbrev Al5:Nat:=28
abbrev Ha:Nat:=51
def Qx:Cl1[Ha]? = some Tryz.f51:=CY8
abbrev Hb:Nat:=52
def Qy:Cl1[Hb]? = some Tryz.f52:=CZ1
abbrev JP:Nat:=57
def TP:Cl1[JP]? = some Tryz.f57:=CZ4
abbrev Im:Nat:=58
def RR:Cl1[Im]? = some Tryz.f58:=CZ7
abbrev JQ:Nat:=59
def TQ:Cl1[JQ]? = some Tryz.f59:=Da0
abbrev LG:Nat:=60
def Xr:Cl1[LG]? = some Tryz.f60:=Da3
abbrev JR:Nat:=61
def TR:Cl1[JR]? = some Tryz.f61:=Da6
abbrev JS:Nat:=62
def TT:Cl1[JS]? = some Tryz.f62:=Da9
abbrev Io:Nat:=84
def RU:Cl1[Io]? = some Tryz.f84:=Db2
abbrev LH:Nat:=85
def Xs:Cl1[LH]? = some Tryz.f85:=Db5
abbrev JT:Nat:=89
def TU:Cl1[JT]? = some Tryz.f89:=Db8
abbrev JU:Nat:=90
def TV:Cl1[JU]? = some Tryz.f90:=Dc1
abbrev DJ:Nat:=91
def Xt:Cl1[DJ]? = some Tryz.f91:=Dc4
abbrev Gv:Nat:=92
def OT:Cl1[Gv]? = some Tryz.f92:=Dc7
abbrev Ip:Nat:=93
def RV:Cl1[Ip]? = some Tryz.f93:=Dd0
abbrev JV:Nat:=94
def TW:Cl1[JV]? = some Tryz.f94:=Dd3
abbrev JW:Nat:=114
def TX:Cl1[JW]? = some Tryz.f114:=CN3
abbrev LI:Nat:=115
def Xu:Cl1[LI]? = some Tryz.f115:=CN6
abbrev LJ:Nat:=117
def Xv:Cl1[LJ]? = some Tryz.f117:=CN9
abbrev JX:Nat:=118
def TY:Cl1[JX]? = some Tryz.f118:=CO2
abbrev JY:Nat:=119
def TZ:Cl1[JY]? = some Tryz.f119:=CO5
abbrev LK:Nat:=120
def Xw:Cl1[LK]? = some Tryz.f120:=CO8
abbrev JZ:Nat:=136
def Ua:Cl1[JZ]? = some Tryz.f136:=CP1
abbrev LL:Nat:=137
def Xx:Cl1[LL]? = some Tryz.f137:=CP4
abbrev Ka:Nat:=138
def Ub:Cl1[Ka]? = some Tryz.f138:=CP7
abbrev LM:Nat:=139
def Xy:Cl1[LM]? = some Tryz.f139:=CQ0
abbrev DK:Nat:=141
def Xz:Cl1[DK]? = some Tryz.f141:=CQ3
abbrev Kb:Nat:=154
def Uc:Cl1[Kb]? = some Tryz.f154:=CQ6
abbrev LN:Nat:=155
def XA:Cl1[LN]? = some Tryz.f155:=CQ9
abbrev Kc:Nat:=163
def Ud:Cl1[Kc]? = some Tryz.f163:=CR2
abbrev NM:Nat:=164
def Ab0:Cl1[NM]? = some Tryz.f164:=CR5
abbrev Kd:Nat:=165
def Ue:Cl1[Kd]? = some Tryz.f165:=CR8
abbrev LO:Nat:=166
def XB:Cl1[LO]? = some Tryz.f166:=CS1
abbrev NN:Nat:=171
def Ab1:Cl1[NN]? = some Tryz.f171:=CS4
abbrev NO:Nat:=172
def Ab2:Cl1[NO]? = some Tryz.f172:=CS7
abbrev Hc:Nat:=173
def Qz:Cl1[Hc]? = some Tryz.f173:=CT0
abbrev Fr:Nat:=180
def MQ:Cl1[Fr]? = some Tryz.f180:=CT3
abbrev Iq:Nat:=181
def RW:Cl1[Iq]? = some Tryz.f181:=CT6
abbrev LP:Nat:=182
def XC:Cl1[LP]? = some Tryz.f182:=CT9
abbrev Ir:Nat:=183
def RX:Cl1[Ir]? = some Tryz.f183:=CU2
abbrev LQ:Nat:=184
def XD:Cl1[LQ]? = some Tryz.f184:=CU5
abbrev NP:Nat:=192
def Ab3:Cl1[NP]? = some Tryz.f192:=CU8
abbrev LR:Nat:=193
def XE:Cl1[LR]? = some Tryz.f193:=CV1
abbrev CQ:Nat:=194
def Uf:Cl1[CQ]? = some Tryz.f194:=CV4
abbrev NQ:Nat:=195
def Ab4:Cl1[NQ]? = some Tryz.f195:=CV7
abbrev Hd:Nat:=203
def QA:Cl1[Hd]? = some Tryz.f203:=CW0
abbrev Fs:Nat:=204
def MR:Cl1[Fs]? = some Tryz.f204:=CW3
abbrev LT:Nat:=205
def XF:Cl1[LT]? = some Tryz.f205:=CW6
abbrev Iu:Nat:=206
def RY:Cl1[Iu]? = some Tryz.f206:=CW9
abbrev LU:Nat:=207
def XG:Cl1[LU]? = some Tryz.f207:=CX2
abbrev Ke:Nat:=208
def Ug:Cl1[Ke]? = some Tryz.f208:=CX5
abbrev D3:Nat:=225
end Go.AM
namespace Go.AM
variable {N:Nat}
open IntKind (wrap)
open Go.Proofs
set_option maxRecDepth 10000
set_option maxHeartbeats 2000000
variable {S:W1}(hS:H9 S Tryz.prog) (hL:GD S)
include hS hL
theorem M9 {b:To}{y:Bool}(h:I3 N b=some y) :FunO S JY [.p (.agg (A0 b))] [] (pB y) ([]) []:=by
 unfold I3 at h;refine A1 hS TZ ?_;refine E2 hS T3 h (fun x1=>⟨[(3,pN x1),(1,.reg 2000 0)],[(2000,.cells [pU b.Plus,pU b.Minus])]⟩) (ids:=[(2000,2000)]) (fun _ _ _ _ _ c x1 d h=>?_);apply kI hS h<;>intro h
 .obtain⟨c7,h⟩:=C7 h;refine kB hS (A2 hS) c7 T3 12 (.o (.n (.a ((E9 .and .u32 (shI .shr .u32 b.Plus x1) 1)==1)) (.a ((E9 .and .u32 (shI .shr .u32 b.Minus x1) 1)==1))) (.n (.o (.a ((E9 .and .u32 (shI .shr .u32 b.Plus x1) 1)==1)) (.a ((E9 .and .u32 (shI .shr .u32 b.Minus x1) 1)==1))) (.a (decide (24<=x1))))) ?_;apply kI hS h<;>intro h
  .cases h;exact kR hS
  exact d _ [(2000,2000)] _ (wrap .i64 (x1+1)) T3 h
 cases h;exact kR hS
theorem QB {b:Int}{y:Bool}(h:X0 N b=some y) :FunO S Hd [pN b] [] (pB y) ([]) []:=by unfold X0 at h;refine A1 hS QA ?_;refine kB hS (A2 hS) T3 T3 3 (.n (.a (decide (0<=b))) (.a (decide (b<24)))) ?_;cases h;exact kR hS
theorem Y4 {a:To}{c:Int}{y:Int}(h:V5 N a c=some y) :FunO S NP [.p (.agg (A0 a)),pN c] [] (pN y) ([]) []:=by
 unfold V5 at h;refine A1 hS Ab3 ?_;refine kC hS h (M9 hS hL) (fun y1 h=>?_);refine Ai hS T3 (A2 hS) h 0 (fun z1=>⟨[(12,pB z1),(2,.reg 3000 0),(1,pN c)],[(3000,.cells [pU a.Plus,pU a.Minus])]⟩) (fun M1 k1 d h=>?_) (fun z1 h=>?_)
 .refine kG hS h (fun h=>?_) (fun h=>?_)
  .exact d _ [(3000,3000)] _ true T3 h
  refine kC hS h (QB hS hL) (fun y3 h=>?_);exact d _ [(3000,3000)] _ (!y3) T3 h
 apply kI hS h<;>intro h
 .cases h;exact kR hS
 obtain⟨c5,h⟩:=C7 h;refine D1 hS c5 (b:=(E9 .and .u32 (shI .shr .u32 a.Plus c) 1)==1) (fun c6=>?_) (fun c6=>?_)
 .replace h:=itT c6 h;cases h;exact kR hS
 replace h:=itF c6 h;obtain⟨c7,h⟩:=C7 h;refine D1 hS c7 (b:=(E9 .and .u32 (shI .shr .u32 a.Minus c) 1)==1) (fun c8=>?_) (fun c8=>?_)
 .replace h:=itT c8 h;cases h;exact kR hS
 replace h:=itF c8 h;cases h;exact kR hS
theorem EE {c:To}{d:Int}{a:Int}{y:To}(h:Az N c d a=some y) :FunO S NQ [.p (.agg (A0 c)),pN d,pN a] [] (.p (.agg (A0 y))) ([]) []:=by
 unfold Az at h;refine A1 hS Ab4 ?_;obtain⟨c1,h⟩:=C7 h;refine D1 hS c1 (b:=a==1) (fun c2=>?_) (fun c2=>?_)
 .replace h:=itT c2 h;apply kI hS h<;>intro h
  .cases h;exact kR hS
  cases h;exact kR hS
 replace h:=itF c2 h;apply kI hS h<;>intro h
 .cases h;exact kR hS
 cases h;exact kR hS
theorem MS {b:To}{a:To}{y:Bool}(h:J3 N b a=some y) :FunO S Fr [.p (.agg (A0 b)),.p (.agg (A0 a))] [] (pB y) ([]) []:=by
 unfold J3 at h;refine A1 hS MQ ?_;refine kC hS h (M9 hS hL) (fun y1 h=>?_);refine Ai hS T3 (A2 hS) h 0 (fun z1=>⟨[(14,pB z1),(3,.reg 4000 0),(2,.reg 3000 0)],[(4000,.cells [pU a.Plus,pU a.Minus]),(3000,.cells [pU b.Plus,pU b.Minus])]⟩) (fun M1 k1 c h=>?_) (fun z1 h=>?_)
 .refine kG hS h (fun h=>?_) (fun h=>?_)
  .exact c _ [(3000,3000),(4000,4000)] _ true T3 h
  refine kC hS h (M9 hS hL) (fun y3 h=>?_);exact c _ [(3000,3000),(4000,4000)] _ (!y3) T3 h
 apply kI hS h<;>intro h
 .cases h;exact kR hS
 refine E2 hS T3 h (fun x3=>⟨[(5,pN x3),(3,.reg 4000 0),(2,.reg 3000 0)],[(4000,.cells [pU a.Plus,pU a.Minus]),(3000,.cells [pU b.Plus,pU b.Minus])]⟩) (ids:=[(3000,3000),(4000,4000)]) (fun _ _ _ _ _ f x3 g h=>?_);apply kI hS h<;>intro h
 .refine kC hS h (Y4 hS hL) (fun i h=>?_);refine Ai hS T3 (A2 hS) h 0 (fun z4=>⟨[(30,pB z4),(5,pN x3),(3,.reg 4000 0),(2,.reg 3000 0)],[(4000,.cells [pU a.Plus,pU a.Minus]),(3000,.cells [pU b.Plus,pU b.Minus])]⟩) (fun M4 k4 d h=>?_) (fun z4 h=>?_)
  .refine kG hS h (fun h=>?_) (fun h=>?_)
   .refine kC hS h (Y4 hS hL) (fun j h=>?_);exact d _ [(3000,3000),(4000,4000)] _ (j != i) T3 h
   exact d _ [(3000,3000),(4000,4000)] _ false T3 h
  apply kI hS h<;>intro h
  .cases h;exact kR hS
  exact g _ [(3000,3000),(4000,4000)] _ (wrap .i64 (x3+1)) T3 h
 cases h;exact kR hS
theorem RZ {f:To}{c:Int}{d:To}{y:To×Int}(h:N1 N f c d=some y) :FunO S Ir [.p (.agg (A0 f)),pU c,.p (.agg (A0 d))] [] (.tup [.p (.agg (A0 y.1)),pN y.2]) ([]) []:=by
 unfold N1 at h;refine A1 hS RX ?_;refine D8 hS T3 5 4000 [pI .u32 f.Plus,pI .u32 f.Minus] ?_;refine D8 hS T3 6 6000 [pI .u32 d.Plus,pI .u32 d.Minus] ?_;obtain⟨y1,e1,h⟩:=B1 h;refine B6 hS [] (by decide:(2:Nat)<=2) (M9 hS hL e1) ?_;refine Ai hS T3 (A2 hS) h 0 (fun z1=>⟨[(17,pB z1),(6,.reg 7000 0),(5,.p (.ptr [pI .u32 d.Plus,pI .u32 d.Minus])),(3,.p (.ptr [pI .u32 f.Plus,pI .u32 f.Minus])),(1,pU c)],[(7000,.cells [pU 0,pU 0])]⟩) (fun M1 k1 i h=>?_) (fun z1 h=>?_)
 .refine kG hS h (fun h=>?_) (fun h=>?_)
  .exact i _ [(7000,7000)] _ true T3 h
  obtain⟨y3,e3,h⟩:=B1 h;refine B6 hS [] (by decide:(2:Nat)<=2) (M9 hS hL e3) ?_;exact i _ [(7000,7000)] _ (!y3) T3 h
 apply kI hS h<;>intro h
 .cases h;exact kR hS
 refine kB hS (A2 hS) T3 T3 9 (.o (.a (decide (16777215<c))) (.a ((E9 .and .u32 c (E9 .or .u32 d.Plus d.Minus)) != 0))) ?_;apply kI hS h<;>intro h
 .cases h;exact kR hS
 refine Cv hS (by decide:(2:Nat)<=2) h (fun x2 x3 x4=>⟨[(9,pN x4),(8,.reg 9000 0),(6,.reg 7000 0),(5,.p (.ptr [pI .u32 d.Plus,pI .u32 d.Minus])),(1,pU c)],[(9000,.cells [pU x2,pU x3]),(7000,.cells [pU 0,pU 0])]⟩) (ids:=[(7000,7000),(9000,9000)]) (fun _ _ _ _ _ n x2 x3 x4 g h=>?_);apply kI hS h<;>intro h
 .obtain⟨c16,h⟩:=C7 h;refine D1 hS c16 (b:=(E9 .and .u32 (shI .shr .u32 c x4) 1)==1) (fun c17=>?_) (fun c17=>?_)
  .replace h:=itT c17 h;refine kC hS h (EE hS hL) (fun j h=>?_);obtain⟨q,e19,h⟩:=B1 h;refine B6 hS [] (by decide:(2:Nat)<=2) (Y4 hS hL e19) ?_;apply kI hS h<;>intro h
   .refine C5 hS T3 [2,4,5] ?_;obtain⟨r,e20,h⟩:=B1 h;refine F8 (by decide:(2:Nat)<=2) (Y4 hS hL e20) ?_;obtain⟨l,e21,h⟩:=B1 h;refine F8 T3 (EE hS hL e21) ?_;refine D9 T3 ?_;exact g _ [(7000,7000),(9000,9000)] _ l.Plus l.Minus (wrap .i64 (x4+1)) T3 h
   exact g _ [(7000,7000),(9000,9000)] _ j.Plus j.Minus (wrap .i64 (x4+1)) T3 h
  replace h:=itF c17 h;obtain⟨s,e22,h⟩:=B1 h;refine B6 hS [] (by decide:(2:Nat)<=2) (Y4 hS hL e22) ?_;apply kI hS h<;>intro h
  .refine C5 hS T3 [2,4,5] ?_;obtain⟨t,e23,h⟩:=B1 h;refine F8 (by decide:(2:Nat)<=2) (Y4 hS hL e23) ?_;obtain⟨m,e24,h⟩:=B1 h;refine F8 T3 (EE hS hL e24) ?_;refine D9 T3 ?_;exact g _ [(7000,7000),(9000,9000)] _ m.Plus m.Minus (wrap .i64 (x4+1)) T3 h
  exact g _ [(7000,7000),(9000,9000)] _ x2 x3 (wrap .i64 (x4+1)) T3 h
 cases h;exact kR hS
theorem XH {d:To}{a:To}{c:Int}{y:To×Int}(h:U8 N d a c=some y) :FunO S LQ [.p (.agg (A0 d)),.p (.agg (A0 a)),pU c] [] (.tup [.p (.agg (A0 y.1)),pN y.2]) ([]) []:=by
 unfold U8 at h;refine A1 hS XD ?_;refine D8 hS T3 4 4000 [pI .u32 d.Plus,pI .u32 d.Minus] ?_;refine D8 hS T3 6 5000 [pI .u32 a.Plus,pI .u32 a.Minus] ?_;obtain⟨y1,e1,h⟩:=B1 h;refine B6 hS [] (by decide:(2:Nat)<=2) (M9 hS hL e1) ?_;refine Ai hS T3 (A2 hS) h 0 (fun z1=>⟨[(17,pB z1),(6,.reg 7000 0),(4,.p (.ptr [pI .u32 a.Plus,pI .u32 a.Minus])),(3,.p (.ptr [pI .u32 d.Plus,pI .u32 d.Minus])),(2,pU c)],[(7000,.cells [pU 0,pU 0])]⟩) (fun M1 k1 f h=>?_) (fun z1 h=>?_)
 .refine kG hS h (fun h=>?_) (fun h=>?_)
  .exact f _ [(7000,7000)] _ true T3 h
  obtain⟨y3,e3,h⟩:=B1 h;refine B6 hS [] (by decide:(2:Nat)<=2) (M9 hS hL e3) ?_;exact f _ [(7000,7000)] _ (!y3) T3 h
 apply kI hS h<;>intro h
 .cases h;exact kR hS
 apply kI hS h<;>intro h
 .cases h;exact kR hS
 refine Cv hS (by decide:(2:Nat)<=2) h (fun x2 x3 x4=>⟨[(9,pN x4),(8,.reg 9000 0),(6,.reg 7000 0),(4,.p (.ptr [pI .u32 a.Plus,pI .u32 a.Minus])),(2,pU c)],[(9000,.cells [pU x2,pU x3]),(7000,.cells [pU 0,pU 0])]⟩) (ids:=[(7000,7000),(9000,9000)]) (fun _ _ _ _ _ i x2 x3 x4 g h=>?_);apply kI hS h<;>intro h
 .obtain⟨c12,h⟩:=C7 h;refine D1 hS c12 (b:=(E9 .and .u32 (shI .shr .u32 c x4) 1)==1) (fun c13=>?_) (fun c13=>?_)
  .replace h:=itT c13 h;refine C5 hS T3 [2,4,5] ?_;obtain⟨y8,e8,h⟩:=B1 h;refine F8 (by decide:(2:Nat)<=2) (Y4 hS hL e8) ?_;obtain⟨y9,e9,h⟩:=B1 h;refine F8 T3 (EE hS hL e9) ?_;refine D9 T3 ?_;exact g _ [(7000,7000),(9000,9000)] _ y9.Plus y9.Minus (wrap .i64 (x4+1)) T3 h
  replace h:=itF c13 h;exact g _ [(7000,7000),(9000,9000)] _ x2 x3 (wrap .i64 (x4+1)) T3 h
 cases h;exact kR hS
theorem Kf {b:To}{y:Bool}(h:O1 N b=some y) :FunO S JV [.p (.agg (A0 b))] [] (pB y) ([]) []:=by unfold O1 at h;refine A1 hS TW ?_;refine kB hS (A2 hS) T3 T3 9 (.n (.n (.a ((E9 .and .u32 b.Plus b.Minus)==0)) (.a (decide (b.Plus<16777216)))) (.a (decide (b.Minus<16777216)))) ?_;cases h;exact kR hS
theorem AE {a:Sl To}{y:Int}(h:P5 N a=some y) :FunO S JS [.p (vSl 2 A0 a)] [] (pN y) ([]) []:=by
 unfold P5 at h;refine A1 hS TT ?_;apply kI hS h<;>intro h
 .cases h;exact kR hS
 refine E2 hS T3 h (fun x1=>⟨[(3,pN x1),(0,.p (vSl 2 A0 a))],[]⟩) (ids:=[]) (fun _ _ _ _ _ b x1 c h=>?_);apply kI hS h<;>intro h
 .obtain⟨c9,h⟩:=C7 h;obtain⟨y3,e3,h⟩:=B1 h;refine B6 hS [] (And.intro c9 (by decide:(2:Nat)<=2)) (Kf hS hL e3) ?_;apply kI hS h<;>intro h
  .cases h;exact kR hS
  exact c _ [] _ (wrap .i64 (x1+1)) T3 h
 cases h;exact kR hS
theorem XJ {a:Sl To}{y:Sl To}(h:AI N a=some y) :FunO S LL [.p (vSl 2 A0 a)] [] (.vec 0) ([.vec B0 2 y.n (fun i=>A0 (y.g i)) true]) []:=by
 unfold AI at h;refine A1 hS Xx ?_;refine D7 hS T3 h (fun x1 x2=>⟨[(4,pN x2),(3,.vec 4500),(0,.p (vSl 2 A0 a))],[(4500,.vec B0 2 x1.n (fun i=>A0 (x1.g i)) false)]⟩) (ids:=[]) (fun _ _ _ _ _ b x1 x2 d h=>?_);apply kI hS h<;>intro h
 .obtain⟨c4,h⟩:=C7 h;exact d _ [(4500,18000)] _ (x1.push (a.g x2.toNat)) (wrap .i64 (x2+1)) (And.intro (And.intro (And.intro c4.1 (by decide:(2:Nat)<=2)) (rfl:true=true)) c4.2) h (hle:=klR [(2,.fn (x1.n+1) (x1.push (a.g x2.toNat)).n (I4 x1.n (fun i=>A0 (x1.g i)) (D0 [pI .u32 0,pI .u32 0] [(0,A0 (a.g x2.toNat))])) (fun i=>A0 ((x1.push (a.g x2.toNat)).g i)))] (al1 ⟨rfl,W3 (c:=A0) (v:=x1) (x:=a.g x2.toNat) (z:=[(pI .u32 0),pI .u32 0]) same rfl rfl⟩ al0))
 obtain rfl:=C0 h;exact A8 hS T3 ⟨[(2,.vec 4500)],[(4500,.vec B0 2 x1.n (fun i=>A0 (x1.g i)) true)]⟩ [4500] (ids:=[(4500,4500)]) ⟨rfl,rfl,rfl⟩
theorem XK {c:Pat}{y:Int}(h:BM N c=some y) :FunO S LN [.p (.agg (C4 c))] [] (pN y) ([]) []:=by
 unfold BM at h;refine A1 hS XA ?_;refine kB hS (A2 hS) T3 T3 4 (.o (.a (decide (c.Kind<0))) (.a (decide (6<c.Kind)))) ?_;apply kI hS h<;>intro h
 .cases h;exact kR hS
 obtain⟨t1,f⟩:∃x:Bool,x=((c.Kind != 1)&&((((c.Is.Plus==0)&&(c.Is.Minus==0)) != true)||c.Not)):=⟨_,rfl⟩;refine Tm hS T3 (A2 hS) 0 ⟨[(23,pB t1),(1,.reg 2000 0)],[(2000,.cells ((C4 c).map .p))]⟩ (fun M1 l=>?_) ?_
 .refine X9 hS T3 (b:=c.Kind != 1) (fun c4=>?_) (fun c4=>?_)
  .refine X9 hS (by decide +kernel:AJ4 Tryz.prog B0=true) (b:=((c.Is.Plus==0)&&(c.Is.Minus==0)) != true) (fun c5=>?_) (fun c5=>?_)
   .exact l _ [(2000,2000)] _ T3 (hle:=klR [(0,.eq (.bb true) (.bb t1))] (al1 (by simp only[f,c4,c5,Leaf.ok,pm,Rm,Rn]) al0))
   exact l _ [(2000,2000)] _ T3 (hle:=klR [(0,.eq (.bb c.Not) (.bb t1))] (al1 (by simp only[f,c4,c5,Leaf.ok,pm,Rm,Rn]) al0))
  exact l _ [(2000,2000)] _ T3 (hle:=klR [(0,.eq (.bb false) (.bb t1))] (al1 (by simp only[f,c4,Leaf.ok,pm,Rm,Rn]) al0))
 subst f;apply kI hS h<;>intro h
 .cases h;exact kR hS
 refine Ai hS T3 (A2 hS) h 0 (fun z1=>⟨[(42,pB z1),(1,.reg 2000 0)],[(2000,.cells ((C4 c).map .p))]⟩) (fun M2 k1 j h=>?_) (fun z1 h=>?_)
 .refine kG hS h (fun h=>?_) (fun h=>?_)
  .refine kG hS h (fun h=>?_) (fun h=>?_)
   .refine kG hS h (fun h=>?_) (fun h=>?_)
    .refine G9 hS T3 40 ⟨[(39,.p (vSl 7 C4 c.L)),(37,.p (.v (.bool true))),(1,.reg 2000 0)],[(2000,.cells ((C4 c).map .p))]⟩ (ids:=[(2000,2000)]) ?_ (hle:=klR [(0,.fn c.L.n c.L.n (T1 c) (fun i=>C4 (c.L.g i)))] (al1 ⟨rfl,G8 c⟩ al0));exact j _ [(2000,2000)] _ (decide (0<(c.L.n:Int))) T3 h
    exact j _ [(2000,2000)] _ false T3 h
   exact j _ [(2000,2000)] _ false T3 h
  exact j _ [(2000,2000)] _ false T3 h
 apply kI hS h<;>intro h
 .cases h;exact kR hS
 refine kB hS (A2 hS) T3 T3 9 (.n (.a (c.Kind != 5)) (.o (.a (c.Min != 0)) (.a (c.Max != 0)))) ?_;apply kI hS h<;>intro h
 .cases h;exact kR hS
 refine Ai hS T3 (A2 hS) h 0 (fun z2=>⟨[(91,pB z2),(1,.reg 2000 0)],[(2000,.cells ((C4 c).map .p))]⟩) (fun M3 k2 d h=>?_) (fun z2 h=>?_)
 .refine kG hS h (fun h=>?_) (fun h=>?_)
  .refine G9 hS T3 62 ⟨[(61,.p (vSl 7 C4 c.L)),(59,.p (.v (.bool true))),(1,.reg 2000 0)],[(2000,.cells ((C4 c).map .p))]⟩ (ids:=[(2000,2000)]) ?_ (hle:=klR [(0,.fn c.L.n c.L.n (T1 c) (fun i=>C4 (c.L.g i)))] (al1 ⟨rfl,G8 c⟩ al0));refine kG hS h (fun h=>?_) (fun h=>?_)
   .exact d _ [(2000,2000)] _ true T3 h
   refine kG hS h (fun h=>?_) (fun h=>?_)
   .exact d _ [(2000,2000)] _ true T3 h
   refine kG hS h (fun h=>?_) (fun h=>?_)
   .exact d _ [(2000,2000)] _ true T3 h
   refine kG hS h (fun h=>?_) (fun h=>?_)
   .refine kG hS h (fun h=>?_) (fun h=>?_)
    .exact d _ [(2000,2000)] _ true T3 h
    exact d _ [(2000,2000)] _ (decide (32<c.Max)) T3 h
   exact d _ [(2000,2000)] _ false T3 h
  exact d _ [(2000,2000)] _ false T3 h
 apply kI hS h<;>intro h
 .cases h;exact kR hS
 refine kC hS h (Kf hS hL) (fun y1 h=>?_);apply kI hS h<;>intro h
 .cases h;exact kR hS
 cases h;exact kR hS
theorem MT {c:To}{b:To}{y:Bool}(h:V7 N c b=some y) :FunO S Fs [.p (.agg (A0 c)),.p (.agg (A0 b))] [] (pB y) ([]) []:=by unfold V7 at h;refine A1 hS MR ?_;refine kB hS (A2 hS) T3 T3 9 (.n (.a ((E9 .and .u32 c.Plus b.Plus)==b.Plus)) (.a ((E9 .and .u32 c.Minus b.Minus)==b.Minus))) ?_;cases h;exact kR hS
theorem LW {a:Int}{y:Sl Int}(h:AJ N a=some y) :FunO S LT [pN a] [] (.vec 0) ([.vec D3 1 y.n (fun i=>cI .u64 (y.g i)) true]) []:=by
 unfold AJ at h;refine A1 hS XF ?_;obtain⟨c1,h⟩:=C7 h;refine D7 hS c1 h (fun x1 x2=>⟨[(4,pN x2),(3,.vec 8000),(0,pN a)],[(8000,.vec D3 1 x1.n (fun i=>cI .u64 (x1.g i)) false)]⟩) (ids:=[(8000,8000)]) (fun _ _ _ _ _ b x1 x2 d h=>?_);apply kI hS h<;>intro h
 .obtain⟨c5,h⟩:=C7 h;exact d _ [(8000,8000)] _ (x1.upd x2.toNat (shI .shl .u64 1 x2)) (wrap .i64 (x2+1)) (And.intro (And.intro c5.1.1 c5.1.2) (And.intro (rfl:(1:Nat)=1) (And.intro c5.2 (by decide:(1:Nat)<=1)))) h (hle:=klR [(2,.fn x1.n (x1.upd x2.toNat (shI .shl .u64 1 x2)).n (fun l=>if l=x2.toNat then splice ((fun i=>cI .u64 (x1.g i)) l) 0 [pI .u64 (shI .shl .u64 1 x2)]else (fun i=>cI .u64 (x1.g i)) l) (fun i=>cI .u64 ((x1.upd x2.toNat (shI .shl .u64 1 x2)).g i)))] (al1 ⟨rfl,QW (c:=cI .u64) (v:=x1) (x:=shI .shl .u64 1 x2) same (fun _=>by first|rfl|(dsimp only;split<;>rfl))⟩ al0))
 obtain rfl:=C0 h;exact A8 hS T3 ⟨[(2,.vec 8000)],[(8000,.vec D3 1 x1.n (fun i=>cI .u64 (x1.g i)) true)]⟩ [8000] (ids:=[(8000,8000)]) ⟨rfl,rfl,rfl⟩
theorem Et {p_x:Sl Int}{a:Sl Int}{y:Sl Int}(h:Q8 N p_x a=some y) :FunO S Iu [.p (vSl 1 (cI .u64) p_x),.p (vSl 1 (cI .u64) a)] [] (.vec 0) ([.vec D3 1 y.n (fun i=>cI .u64 (y.g i)) true]) []:=by
 unfold Q8 at h;refine A1 hS RY ?_;obtain⟨c1,h⟩:=C7 h;refine D7 hS c1 h (fun x3 x4=>⟨[(6,pN x4),(5,.vec 11000),(1,.p (vSl 1 (cI .u64) a)),(0,.p (vSl 1 (cI .u64) p_x))],[(11000,.vec D3 1 x3.n (fun i=>cI .u64 (x3.g i)) false)]⟩) (ids:=[(11000,11000)]) (fun _ _ _ _ _ f x3 x4 j h=>?_);apply kI hS h<;>intro h
 .refine D7 hS T3 h (fun x7 x8=>⟨[(7,pN x8),(6,pN x4),(5,.vec 11000),(1,.p (vSl 1 (cI .u64) a)),(0,.p (vSl 1 (cI .u64) p_x))],[(11000,.vec D3 1 x7.n (fun i=>cI .u64 (x7.g i)) false)]⟩) (ids:=[(11000,11000)]) (fun _ _ _ _ _ m x7 x8 d h=>?_);apply kI hS h<;>intro h
  .obtain⟨c38,h⟩:=C7 h;refine D1 hS c38 (b:=(E9 .and .u64 (shI .shr .u64 (p_x.g x4.toNat) x8) 1)==1) (fun c39=>?_) (fun c39=>?_)
   .replace h:=itT c39 h;refine C5 hS T3 [8,9] ?_;obtain⟨c40,h⟩:=C7 h;refine D9 (And.intro (And.intro (And.intro (And.intro c40.1.1.1.1 c40.1.1.1.2) c40.1.1.2) c40.1.2) (And.intro (rfl:(1:Nat)=1) (And.intro c40.2 (by decide:(1:Nat)<=1)))) ?_;exact d _ [(11000,11000)] _ (x7.upd x4.toNat (E9 .or .u64 (x7.g x4.toNat) (a.g x8.toNat))) (wrap .i64 (x8+1)) T3 h (hle:=klR [(4,.fn x7.n (x7.upd x4.toNat (E9 .or .u64 (x7.g x4.toNat) (a.g x8.toNat))).n (fun l=>if l=x4.toNat then splice ((fun i=>cI .u64 (x7.g i)) l) 0 [pI .u64 (E9 .or .u64 (x7.g x4.toNat) (a.g x8.toNat))]else (fun i=>cI .u64 (x7.g i)) l) (fun i=>cI .u64 ((x7.upd x4.toNat (E9 .or .u64 (x7.g x4.toNat) (a.g x8.toNat))).g i)))] (al1 ⟨rfl,QW (c:=cI .u64) (v:=x7) (x:=E9 .or .u64 (x7.g x4.toNat) (a.g x8.toNat)) same (fun _=>by first|rfl|(dsimp only;split<;>rfl))⟩ al0))
   replace h:=itF c39 h;exact d _ [(11000,11000)] _ x7 (wrap .i64 (x8+1)) T3 h
  exact j _ [(11000,11000)] _ x7 (wrap .i64 (x4+1)) T3 h
 obtain rfl:=C0 h;exact A8 hS T3 ⟨[(4,.vec 11000)],[(11000,.vec D3 1 x3.n (fun i=>cI .u64 (x3.g i)) true)]⟩ [11000] (ids:=[(11000,11000)]) ⟨rfl,rfl,rfl⟩
theorem LX {p_x:Sl Int}{a:Sl Int}{y:Sl Int}(h:AK N p_x a=some y) :FunO S LU [.p (vSl 1 (cI .u64) p_x),.p (vSl 1 (cI .u64) a)] [] (.vec 0) ([.vec D3 1 y.n (fun i=>cI .u64 (y.g i)) true]) []:=by
 unfold AK at h;refine A1 hS XG ?_;obtain⟨c1,h⟩:=C7 h;refine D7 hS c1 h (fun x1 x2=>⟨[(6,pN x2),(5,.vec 10000),(1,.p (vSl 1 (cI .u64) a)),(0,.p (vSl 1 (cI .u64) p_x))],[(10000,.vec D3 1 x1.n (fun i=>cI .u64 (x1.g i)) false)]⟩) (ids:=[(10000,10000)]) (fun _ _ _ _ _ b x1 x2 d h=>?_);apply kI hS h<;>intro h
 .refine C5 hS T3 [4,5,8,9] ?_;obtain⟨c7,h⟩:=C7 h;refine D9 (And.intro (And.intro (And.intro c7.1.1.1 c7.1.1.2) c7.1.2) (And.intro (rfl:(1:Nat)=1) (And.intro c7.2 (by decide:(1:Nat)<=1)))) ?_;exact d _ [(10000,10000)] _ (x1.upd x2.toNat (E9 .or .u64 (p_x.g x2.toNat) (a.g x2.toNat))) (wrap .i64 (x2+1)) T3 h (hle:=klR [(3,.fn x1.n (x1.upd x2.toNat (E9 .or .u64 (p_x.g x2.toNat) (a.g x2.toNat))).n (fun l=>if l=x2.toNat then splice ((fun i=>cI .u64 (x1.g i)) l) 0 [pI .u64 (E9 .or .u64 (p_x.g x2.toNat) (a.g x2.toNat))]else (fun i=>cI .u64 (x1.g i)) l) (fun i=>cI .u64 ((x1.upd x2.toNat (E9 .or .u64 (p_x.g x2.toNat) (a.g x2.toNat))).g i)))] (al1 ⟨rfl,QW (c:=cI .u64) (v:=x1) (x:=E9 .or .u64 (p_x.g x2.toNat) (a.g x2.toNat)) same (fun _=>by first|rfl|(dsimp only;split<;>rfl))⟩ al0))
 obtain rfl:=C0 h;exact A8 hS T3 ⟨[(4,.vec 10000)],[(10000,.vec D3 1 x1.n (fun i=>cI .u64 (x1.g i)) true)]⟩ [10000] (ids:=[(10000,10000)]) ⟨rfl,rfl,rfl⟩
theorem Uh {p_x:Sl Int}{a:Sl Int}{y:Bool}(h:Al N p_x a=some y) :FunO S Ke [.p (vSl 1 (cI .u64) p_x),.p (vSl 1 (cI .u64) a)] [] (pB y) ([]) []:=by
 unfold Al at h;refine A1 hS Ug ?_;refine E2 hS T3 h (fun x1=>⟨[(5,pN x1),(1,.p (vSl 1 (cI .u64) a)),(0,.p (vSl 1 (cI .u64) p_x))],[]⟩) (ids:=[]) (fun _ _ _ _ _ b x1 c h=>?_);apply kI hS h<;>intro h
 .refine C5 hS T3 [2,3,6,7] ?_;obtain⟨c8,h⟩:=C7 h;refine D9 c8 ?_;apply kI hS h<;>intro h
  .cases h;exact kR hS
  exact c _ [] _ (wrap .i64 (x1+1)) T3 h
 cases h;exact kR hS
end Go.AM
namespace Go.AM
variable {N:Nat}
open IntKind (wrap)
open Go.Proofs
set_option maxRecDepth 10000
set_option maxHeartbeats 2000000
variable {S:W1}(hS:H9 S Tryz.prog) (hL:GD S)
include hS hL
theorem Ui {rec:Pat->Int->Option (Int×Int)}(c:∀{a:Pat}{b:Int}{y:Int×Int},rec a b=some y->FunO S DK [.p (.agg (C4 a)),pN b] [] (.tup [pN y.1,pN y.2]) ([]) []){a:Pat}{b:Int}{y:Int×Int}(h:Q9 rec N a b=some y) :FunO S DK [.p (.agg (C4 a)),pN b] [] (.tup [pN y.1,pN y.2]) ([]) []:=by
 unfold Q9 at h;refine A1 hS Xz ?_;apply kI hS h<;>intro h
 .cases h;exact kR hS
 refine kC hS h (XK hS hL) (fun y1 h=>?_);apply kI hS h<;>intro h
 .cases h;exact kR hS
 refine D7 hS T3 h (fun x1 x2=>⟨[(8,pN x2),(7,pN x1),(2,.reg 3000 0)],[(3000,.cells ((C4 a).map .p))]⟩) (ids:=[(3000,3000)]) (fun _ _ _ _ _ d x1 x2 f h=>?_);refine G9 hS T3 23 ⟨[(22,.p (vSl 7 C4 a.L)),(20,pN x2),(8,pN x2),(7,pN x1),(2,.reg 3000 0)],[(3000,.cells ((C4 a).map .p))]⟩ (ids:=[(3000,3000)]) ?_ (hle:=klR [(0,.fn a.L.n a.L.n (T1 a) (fun i=>C4 (a.L.g i)))] (al1 ⟨rfl,G8 a⟩ al0));apply kI hS h<;>intro h
 .refine G9 hS T3 31 ⟨[(30,pN x2),(29,.p (vSl 7 C4 a.L)),(8,pN x2),(7,pN x1),(2,.reg 3000 0)],[(3000,.cells ((C4 a).map .p))]⟩ (ids:=[(3000,3000)]) ?_ (hle:=klR [(1,.fn a.L.n a.L.n (T1 a) (fun i=>C4 (a.L.g i)))] (al1 ⟨rfl,G8 a⟩ al0));obtain⟨c10,h⟩:=C7 h;obtain⟨y4,e4,h⟩:=B1 h;refine B6 hS [] (And.intro c10 (by decide:(7:Nat)<=7)) (c e4) ?_;apply kI hS h<;>intro h
  .cases h;exact kR hS
  exact f _ [(3000,3000)] _ y4.1 (wrap .i64 (x2+1)) T3 h
 cases h;exact kR hS
theorem XL {b:Pat}{a:Int}{y:Int×Int}(h:Dc N b a=some y) :FunO S DK [.p (.agg (C4 b)),pN a] [] (.tup [pN y.1,pN y.2]) ([]) []:=by
 induction N generalizing b a y with
 |zero=>cases (show (none:Option (Int×Int))=some y from h)
 |succ N ih=>exact Ui hS hL (fun e=>ih e) h
theorem Fi {a:Pat}{y:Int}(h:V8 N a=some y) :FunO S JX [.p (.agg (C4 a))] [] (pN y) ([]) []:=by unfold V8 at h;refine A1 hS TY ?_;refine kC hS h (XL hS hL) (fun y1 h=>?_);cases h;exact kR hS
theorem XM {b:Str}{y:Bool}(h:Z2 N b=some y) :FunO S LJ [.p (.str b)] [] (pB y) ([]) []:=by
 unfold Z2 at h;refine A1 hS Xv ?_;refine E2 hS T3 h (fun x1=>⟨[(3,pN x1),(0,.p (.str b))],[]⟩) (ids:=[]) (fun _ _ _ _ _ c x1 d h=>?_);apply kI hS h<;>intro h
 .obtain⟨c8,h⟩:=C7 h;refine kB hS (A2 hS) c8 T3 23 (.o (.o (.o (.n (.a (decide (97<=(P8 b x1)))) (.a (decide ((P8 b x1)<=122)))) (.n (.a (decide (65<=(P8 b x1)))) (.a (decide ((P8 b x1)<=90))))) (.n (.a (decide (48<=(P8 b x1)))) (.a (decide ((P8 b x1)<=57))))) (.a ((P8 b x1)==45))) ?_;apply kI hS h<;>intro h
  .cases h;exact kR hS
  exact d _ [] _ (wrap .i64 (x1+1)) T3 h
 refine kB hS (A2 hS) T3 T3 4 (.n (.a (decide (1<=(b.length:Int)))) (.a (decide ((b.length:Int)<=24)))) ?_;cases h;exact kR hS
theorem XN {p_x:Hk}{c:Int}{y:Bool}(h:BN N p_x c=some y) :FunO S LK [.p (.agg (P1 p_x)),pN c] [] (pB y) ([]) []:=by
 unfold BN at h;refine A1 hS Xw ?_;refine Ai hS T3 (A2 hS) h 0 (fun z1=>⟨[(32,pB z1),(2,.reg 3000 0),(1,pN c)],[(3000,.cells ((P1 p_x).map .p))]⟩) (fun M1 k1 b h=>?_) (fun z1 h=>?_)
 .refine kG hS h (fun h=>?_) (fun h=>?_)
  .exact b _ [(3000,3000)] _ true T3 h
  refine kG hS h (fun h=>?_) (fun h=>?_)
  .exact b _ [(3000,3000)] _ true T3 h
  refine kC hS h (M9 hS hL) (fun y2 h=>?_);refine kG hS h (fun h=>?_) (fun h=>?_)
  .exact b _ [(3000,3000)] _ true T3 h
  refine kG hS h (fun h=>?_) (fun h=>?_)
  .exact b _ [(3000,3000)] _ true T3 h
  exact b _ [(3000,3000)] _ ((E9 .andNot .u32 p_x.Take 16777215) != 0) T3 h
 apply kI hS h<;>intro h
 .cases h;exact kR hS
 refine kB hS (A2 hS) T3 T3 14 (.o (.o (.a ((E9 .and .u32 p_x.Clear (E9 .or .u32 p_x.Set.Plus p_x.Set.Minus)) != 0)) (.a ((E9 .and .u32 p_x.Take (E9 .or .u32 p_x.Set.Plus p_x.Set.Minus)) != 0))) (.a ((E9 .and .u32 p_x.Take p_x.Clear) != 0))) ?_;apply kI hS h<;>intro h
 .cases h;exact kR hS
 apply kI hS h<;>intro h
 .cases h;exact kR hS
 refine kB hS (A2 hS) T3 T3 5 (.n (.a (decide (0<=p_x.Of))) (.a (decide (p_x.Of<c)))) ?_;cases h;exact kR hS
theorem Fj {b:Law}{y:Int}(h:S6 N b=some y) :FunO S JU [.p (.agg (B2 b))] [] (pN y) ([]) []:=by
 unfold S6 at h;refine A1 hS TV ?_;refine D8 hS T3 2 2000 (B2 b) ?_;refine kC hS h (XM hS hL) (fun y1 h=>?_);refine Ai hS T3 (A2 hS) h 0 (fun z1=>⟨[(20,pB z1),(1,.p (.ptr (B2 b)))],[]⟩) (fun M1 k1 c h=>?_) (fun z1 h=>?_)
 .refine kG hS h (fun h=>?_) (fun h=>?_)
  .exact c _ [] _ true T3 h
  obtain⟨y4,e4,h⟩:=B1 h;refine B6 hS [] (by decide:(7:Nat)<=17) (Fi hS hL e4) ?_;refine kG hS h (fun h=>?_) (fun h=>?_)
  .exact c _ [] _ true T3 h
  obtain⟨y5,e5,h⟩:=B1 h;refine B6 hS [] (by decide:(7:Nat)<=10) (Fi hS hL e5) ?_;exact c _ [] _ (y5 != 0) T3 h
 apply kI hS h<;>intro h
 .cases h;exact kR hS
 refine kB hS (A2 hS) T3 T3 25 (.o (.o (.o (.o (.a (decide (4<(b.If.n:Int)))) (.a (decide (6<(b.Out.n:Int))))) (.a ((wrap .i64 ((b.If.n:Int)+(b.Out.n:Int)))==0))) (.a (decide (b.Mode<1)))) (.a (decide (3<b.Mode)))) ?_;apply kI hS h<;>intro h
 .cases h;exact kR hS
 refine E2 hS T3 h (fun x2=>⟨[(3,pN x2),(1,.p (.ptr (B2 b)))],[]⟩) (ids:=[]) (fun _ _ _ _ _ d x2 f h=>?_);apply kI hS h<;>intro h
 .obtain⟨c15,h⟩:=C7 h;obtain⟨y8,e8,h⟩:=B1 h;refine B6 hS [] (And.intro c15 (by decide:(2:Nat)<=2)) (M9 hS hL e8) ?_;apply kI hS h<;>intro h
  .cases h;exact kR hS
  exact f _ [] _ (wrap .i64 (x2+1)) T3 h
 refine E2 hS T3 h (fun x3=>⟨[(4,pN x3),(1,.p (.ptr (B2 b)))],[]⟩) (ids:=[]) (fun _ _ _ _ _ g x3 i h=>?_);apply kI hS h<;>intro h
 .refine C5 hS T3 [1,3,4,6,8] ?_;obtain⟨c24,h⟩:=C7 h;obtain⟨j,e11,h⟩:=B1 h;refine F8 (And.intro c24 (by decide:(6:Nat)<=6)) (XN hS hL e11) ?_;refine D9 T3 ?_;apply kI hS h<;>intro h
  .cases h;exact kR hS
  exact i _ [] _ (wrap .i64 (x3+1)) T3 h
 cases h;exact kR hS
theorem Uj {a:Sl Law}{y:Int}(h:Y0 N a=some y) :FunO S JZ [.p (vSl 18 B2 a)] [] (pN y) ([]) []:=by
 unfold Y0 at h;refine A1 hS Ua ?_;apply kI hS h<;>intro h
 .cases h;exact kR hS
 refine E2 hS T3 h (fun x1=>⟨[(3,pN x1),(0,.p (vSl 18 B2 a))],[]⟩) (ids:=[]) (fun _ _ _ _ _ b x1 c h=>?_);apply kI hS h<;>intro h
 .obtain⟨c9,h⟩:=C7 h;obtain⟨y3,e3,h⟩:=B1 h;refine B6 hS [] (And.intro c9 (by decide:(18:Nat)<=18)) (Fj hS hL e3) ?_;apply kI hS h<;>intro h
  .cases h;exact kR hS
  exact c _ [] _ (wrap .i64 (x1+1)) T3 h
 cases h;exact kR hS
theorem Uk {a:Law}{b:Sl To}{y:Int}(h:Bn N a b=some y) :FunO S Kc [.p (.agg (B2 a)),.p (vSl 2 A0 b)] [] (pN y) ([]) []:=by
 unfold Bn at h;refine A1 hS Ud ?_;refine kC hS h (Fj hS hL) (fun y1 h=>?_);apply kI hS h<;>intro h
 .cases h;exact kR hS
 refine kC hS h (AE hS hL) (fun y2 h=>?_);cases h;exact kR hS
theorem LY {a:Pat}{b:Sl To}{y:Int}(h:AL N a b=some y) :FunO S LR [.p (.agg (C4 a)),.p (vSl 2 A0 b)] [] (pN y) ([]) []:=by
 unfold AL at h;refine A1 hS XE ?_;refine kC hS h (Fi hS hL) (fun y1 h=>?_);apply kI hS h<;>intro h
 .refine kC hS h (AE hS hL) (fun y2 h=>?_);cases h;exact kR hS
 cases h;exact kR hS
theorem Sa {rec:Pat->(Sl To)->Option (Sl Int)}(j:∀{a:Pat}{d:Sl To}{y:Sl Int},rec a d=some y->FunO S CQ [.p (.agg (C4 a)),.p (vSl 2 A0 d)] [] (.vec 0) ([.vec D3 1 y.n (fun i=>cI .u64 (y.g i)) true]) []){a:Pat}{d:Sl To}{y:Sl Int}(h:U0 rec N a d=some y) :FunO S CQ [.p (.agg (C4 a)),.p (vSl 2 A0 d)] [] (.vec 0) ([.vec D3 1 y.n (fun i=>cI .u64 (y.g i)) true]) []:=by
 unfold U0 at h;refine A1 hS Uf ?_;refine D8 hS T3 4 3000 (C4 a) ?_;obtain⟨c1,h⟩:=C7 h;refine D7 hS c1 h (fun x1 x2=>⟨[(7,pN x2),(6,.vec 19000),(5,pN (d.n:Int)),(2,.p (.ptr (C4 a))),(1,.p (vSl 2 A0 d))],[(19000,.vec D3 1 x1.n (fun i=>cI .u64 (x1.g i)) false)]⟩) (ids:=[(19000,19000)]) (fun _ _ _ _ _ t x1 x2 f h=>?_);apply kI hS h<;>intro h
 .apply kI hS h<;>intro h
  .obtain⟨c24,h⟩:=C7 h;exact f _ [(19000,19000)] _ (x1.upd x2.toNat (shI .shl .u64 1 x2)) (wrap .i64 (x2+1)) (And.intro (And.intro c24.1.1 c24.1.2) (And.intro (rfl:(1:Nat)=1) (And.intro c24.2 (by decide:(1:Nat)<=1)))) h (hle:=klR [(4,.fn x1.n (x1.upd x2.toNat (shI .shl .u64 1 x2)).n (fun l=>if l=x2.toNat then splice ((fun i=>cI .u64 (x1.g i)) l) 0 [pI .u64 (shI .shl .u64 1 x2)]else (fun i=>cI .u64 (x1.g i)) l) (fun i=>cI .u64 ((x1.upd x2.toNat (shI .shl .u64 1 x2)).g i)))] (al1 ⟨rfl,QW (c:=cI .u64) (v:=x1) (x:=shI .shl .u64 1 x2) same (fun _=>by first|rfl|(dsimp only;split<;>rfl))⟩ al0))
  apply kI hS h<;>intro h
  .refine C5 hS T3 [6,7,9,10,12] ?_;refine AY T3 (b:=decide (x2<(d.n:Int))) (fun c26=>?_) (fun c26=>?_)
   .replace h:=itT c26 h;obtain⟨c27,h⟩:=C7 h;obtain⟨y3,e3,h⟩:=B1 h;refine F8 (And.intro (And.intro c27 (by decide:(2:Nat)<=2)) (by decide:(2:Nat)<=6)) (MT hS hL e3) ?_;refine D9 T3 ?_;apply kI hS h<;>intro h
    .obtain⟨c29,h⟩:=C7 h;exact f _ [(19000,19000)] _ (x1.upd x2.toNat (shI .shl .u64 1 (wrap .i64 (x2+1)))) (wrap .i64 (x2+1)) (And.intro (And.intro c29.1.1 c29.1.2) (And.intro (rfl:(1:Nat)=1) (And.intro c29.2 (by decide:(1:Nat)<=1)))) h (hle:=klR [(4,.fn x1.n (x1.upd x2.toNat (shI .shl .u64 1 (wrap .i64 (x2+1)))).n (fun l=>if l=x2.toNat then splice ((fun i=>cI .u64 (x1.g i)) l) 0 [pI .u64 (shI .shl .u64 1 (wrap .i64 (x2+1)))]else (fun i=>cI .u64 (x1.g i)) l) (fun i=>cI .u64 ((x1.upd x2.toNat (shI .shl .u64 1 (wrap .i64 (x2+1)))).g i)))] (al1 ⟨rfl,QW (c:=cI .u64) (v:=x1) (x:=shI .shl .u64 1 (wrap .i64 (x2+1))) same (fun _=>by first|rfl|(dsimp only;split<;>rfl))⟩ al0))
    exact f _ [(19000,19000)] _ x1 (wrap .i64 (x2+1)) T3 h
   replace h:=itF c26 h;refine D9 T3 ?_;exact f _ [(19000,19000)] _ x1 (wrap .i64 (x2+1)) T3 h
  apply kI hS h<;>intro h
  .apply kI hS h<;>intro h
   .obtain⟨c32,h⟩:=C7 h;exact f _ [(19000,19000)] _ (x1.upd x2.toNat 1) (wrap .i64 (x2+1)) (And.intro c32.1 (And.intro (rfl:(1:Nat)=1) (And.intro c32.2 (by decide:(1:Nat)<=1)))) h (hle:=klR [(4,.fn x1.n (x1.upd x2.toNat 1).n (fun l=>if l=x2.toNat then splice ((fun i=>cI .u64 (x1.g i)) l) 0 [pI .u64 1]else (fun i=>cI .u64 (x1.g i)) l) (fun i=>cI .u64 ((x1.upd x2.toNat 1).g i)))] (al1 ⟨rfl,QW (c:=cI .u64) (v:=x1) (x:=1) same (fun _=>by first|rfl|(dsimp only;split<;>rfl))⟩ al0))
   exact f _ [(19000,19000)] _ x1 (wrap .i64 (x2+1)) T3 h
  apply kI hS h<;>intro h
  .apply kI hS h<;>intro h
   .obtain⟨c35,h⟩:=C7 h;exact f _ [(19000,19000)] _ (x1.upd x2.toNat (shI .shl .u64 1 x2)) (wrap .i64 (x2+1)) (And.intro (And.intro c35.1.1 c35.1.2) (And.intro (rfl:(1:Nat)=1) (And.intro c35.2 (by decide:(1:Nat)<=1)))) h (hle:=klR [(4,.fn x1.n (x1.upd x2.toNat (shI .shl .u64 1 x2)).n (fun l=>if l=x2.toNat then splice ((fun i=>cI .u64 (x1.g i)) l) 0 [pI .u64 (shI .shl .u64 1 x2)]else (fun i=>cI .u64 (x1.g i)) l) (fun i=>cI .u64 ((x1.upd x2.toNat (shI .shl .u64 1 x2)).g i)))] (al1 ⟨rfl,QW (c:=cI .u64) (v:=x1) (x:=shI .shl .u64 1 x2) same (fun _=>by first|rfl|(dsimp only;split<;>rfl))⟩ al0))
   exact f _ [(19000,19000)] _ x1 (wrap .i64 (x2+1)) T3 h
  exact f _ [(19000,19000)] _ x1 (wrap .i64 (x2+1)) T3 h
 apply kI hS h<;>intro h
 .refine kC hS h (LW hS hL) (fun y4 h=>?_);refine D7 hS T3 h (fun x3 x4=>⟨[(8,pN x4),(6,.vec 7500),(2,.p (.ptr (C4 a))),(1,.p (vSl 2 A0 d))],[(7500,.vec D3 1 x3.n (fun i=>cI .u64 (x3.g i)) true)]⟩) (ids:=[(7500,79000)]) (fun _ _ _ _ _ u x3 x4 w h=>?_);refine G9 hS T3 82 ⟨[(81,.p (vSl 7 C4 a.L)),(79,pN x4),(8,pN x4),(6,.vec 7500),(2,.p (.ptr (C4 a))),(1,.p (vSl 2 A0 d))],[(7500,.vec D3 1 x3.n (fun i=>cI .u64 (x3.g i)) true)]⟩ (ids:=[(7500,7500)]) ?_ (hle:=klR [(0,.fn a.L.n a.L.n (T1 a) (fun i=>C4 (a.L.g i)))] (al1 ⟨rfl,G8 a⟩ al0));apply kI hS h<;>intro h
  .refine G9 hS T3 90 ⟨[(89,pN x4),(88,.p (vSl 7 C4 a.L)),(86,.vec 7500),(8,pN x4),(2,.p (.ptr (C4 a))),(1,.p (vSl 2 A0 d))],[(7500,.vec D3 1 x3.n (fun i=>cI .u64 (x3.g i)) true)]⟩ (ids:=[(7500,7500)]) ?_ (hle:=klR [(1,.fn a.L.n a.L.n (T1 a) (fun i=>C4 (a.L.g i)))] (al1 ⟨rfl,G8 a⟩ al0));obtain⟨c42,h⟩:=C7 h;obtain⟨y9,e9,h⟩:=B1 h;refine B6 hS [] (And.intro c42 (by decide:(7:Nat)<=7)) (j e9) ?_;refine kC hS h (Et hS hL) (fun z h=>?_);exact w _ [(7500,95000)] _ z (wrap .i64 (x4+1)) T3 h
  obtain rfl:=C0 h;exact A8 hS T3 ⟨[(4,.vec 7500)],[(7500,.vec D3 1 x3.n (fun i=>cI .u64 (x3.g i)) true)]⟩ [7500] (ids:=[(7500,7500)]) ⟨rfl,rfl,rfl⟩
 apply kI hS h<;>intro h
 .refine D7 hS T3 h (fun x5 x6=>⟨[(9,pN x6),(6,.vec 7500),(2,.p (.ptr (C4 a))),(1,.p (vSl 2 A0 d))],[(7500,.vec D3 1 x5.n (fun i=>cI .u64 (x5.g i)) true)]⟩) (ids:=[(7500,19000)]) (fun _ _ _ _ _ a0 x5 x6 a1 h=>?_);refine G9 hS T3 100 ⟨[(99,.p (vSl 7 C4 a.L)),(97,pN x6),(9,pN x6),(6,.vec 7500),(2,.p (.ptr (C4 a))),(1,.p (vSl 2 A0 d))],[(7500,.vec D3 1 x5.n (fun i=>cI .u64 (x5.g i)) true)]⟩ (ids:=[(7500,7500)]) ?_ (hle:=klR [(0,.fn a.L.n a.L.n (T1 a) (fun i=>C4 (a.L.g i)))] (al1 ⟨rfl,G8 a⟩ al0));apply kI hS h<;>intro h
  .refine G9 hS T3 108 ⟨[(107,pN x6),(106,.p (vSl 7 C4 a.L)),(104,.vec 7500),(9,pN x6),(2,.p (.ptr (C4 a))),(1,.p (vSl 2 A0 d))],[(7500,.vec D3 1 x5.n (fun i=>cI .u64 (x5.g i)) true)]⟩ (ids:=[(7500,7500)]) ?_ (hle:=klR [(1,.fn a.L.n a.L.n (T1 a) (fun i=>C4 (a.L.g i)))] (al1 ⟨rfl,G8 a⟩ al0));obtain⟨c49,h⟩:=C7 h;obtain⟨a7,e15,h⟩:=B1 h;refine B6 hS [] (And.intro c49 (by decide:(7:Nat)<=7)) (j e15) ?_;refine kC hS h (LX hS hL) (fun a2 h=>?_);exact a1 _ [(7500,113000)] _ a2 (wrap .i64 (x6+1)) T3 h
  obtain rfl:=C0 h;exact A8 hS T3 ⟨[(4,.vec 7500)],[(7500,.vec D3 1 x5.n (fun i=>cI .u64 (x5.g i)) true)]⟩ [7500] (ids:=[(7500,7500)]) ⟨rfl,rfl,rfl⟩
 apply kI hS h<;>intro h
 .refine G9 hS T3 117 ⟨[(116,.p (vSl 7 C4 a.L)),(6,.vec 19000),(5,pN (d.n:Int)),(2,.p (.ptr (C4 a))),(1,.p (vSl 2 A0 d))],[(19000,.vec D3 1 x1.n (fun i=>cI .u64 (x1.g i)) false)]⟩ (ids:=[(19000,19000)]) ?_ (hle:=klR [(0,.fn a.L.n a.L.n (T1 a) (fun i=>C4 (a.L.g i)))] (al1 ⟨rfl,G8 a⟩ al0));obtain⟨c51,h⟩:=C7 h;obtain⟨q,e17,h⟩:=B1 h;refine B6 hS [] (And.intro c51 (by decide:(7:Nat)<=7)) (j e17) ?_;refine kC hS h (LW hS hL) (fun a8 h=>?_);refine Cv hS T3 h (fun x8 x9 m=>⟨[(12,pN m),(11,.vec 12500),(10,.vec 121000),(6,.vec 7500),(2,.p (.ptr (C4 a)))],[(121000,.vec D3 1 q.n (fun i=>cI .u64 (q.g i)) true),(12500,.vec D3 1 x9.n (fun i=>cI .u64 (x9.g i)) true),(7500,.vec D3 1 x8.n (fun i=>cI .u64 (x8.g i)) true)]⟩) (ids:=[(7500,19000),(12500,123000),(121000,121000)]) (fun _ _ _ _ _ a3 x8 x9 m s h=>?_);apply kI hS h<;>intro h
  .refine kC hS h (LX hS hL) (fun o h=>?_);refine Ai hS T3 (A2 hS) h 0 (fun z3=>⟨[(147,pB z3),(12,pN m),(11,.vec 12500),(10,.vec 121000),(6,.vec 133000),(2,.p (.ptr (C4 a)))],[(133000,.vec D3 1 o.n (fun i=>cI .u64 (o.g i)) true),(121000,.vec D3 1 q.n (fun i=>cI .u64 (q.g i)) true),(12500,.vec D3 1 x9.n (fun i=>cI .u64 (x9.g i)) true)]⟩) (fun M3 k3 r h=>?_) (fun z3 h=>?_)
   .refine kG hS h (fun h=>?_) (fun h=>?_)
    .exact r _ [(12500,12500),(121000,121000),(133000,133000)] _ true T3 h
    refine kG hS h (fun h=>?_) (fun h=>?_)
    .refine kC hS h (Uh hS hL) (fun a4 h=>?_);exact r _ [(12500,12500),(121000,121000),(133000,133000)] _ a4 T3 h
    exact r _ [(12500,12500),(121000,121000),(133000,133000)] _ false T3 h
   apply kI hS h<;>intro h
   .obtain rfl:=C0 h;exact A8 hS T3 ⟨[(4,.vec 133000)],[(133000,.vec D3 1 o.n (fun i=>cI .u64 (o.g i)) true)]⟩ [133000] (ids:=[(133000,133000)]) ⟨rfl,rfl,rfl⟩
   refine kC hS h (Et hS hL) (fun a5 h=>?_);exact s _ [(7500,133000),(12500,152000),(121000,121000)] _ o a5 (wrap .i64 (m+1)) T3 h
  refine kC hS h (Et hS hL) (fun a6 h=>?_);exact s _ [(7500,7500),(12500,152000),(121000,121000)] _ x8 a6 (wrap .i64 (m+1)) T3 h
 obtain rfl:=C0 h;exact A8 hS T3 ⟨[(4,.vec 19000)],[(19000,.vec D3 1 x1.n (fun i=>cI .u64 (x1.g i)) true)]⟩ [19000] (ids:=[(19000,19000)]) ⟨rfl,rfl,rfl⟩
theorem Kg {a:Pat}{b:Sl To}{y:Sl Int}(h:Bo N a b=some y) :FunO S CQ [.p (.agg (C4 a)),.p (vSl 2 A0 b)] [] (.vec 0) ([.vec D3 1 y.n (fun i=>cI .u64 (y.g i)) true]) []:=by
 induction N generalizing a b y with
 |zero=>cases (show (none:Option (Sl Int))=some y from h)
 |succ N ih=>exact Sa hS hL (fun e=>ih e) h
theorem Sb {j:Pat}{f:Sl To}{d:Int}{y:(Sl Int)×Int}(h:X1 N j f d=some y) :FunO S Iq [.p (.agg (C4 j)),.p (vSl 2 A0 f),pN d] [] (.tup [.vec 0,pN y.2]) ([.vec B8 1 y.1.n (fun i=>cI .i64 (y.1.g i)) true]) []:=by
 unfold X1 at h;refine A1 hS RW ?_;refine kC hS h (LY hS hL) (fun y1 h=>?_);apply kI hS h<;>intro h
 .obtain rfl:=C0 h;exact A8 hS T3 ⟨[(7,pN y1),(6,.vec 7700)],[(7700,.vec B8 1 (Sl.nil:Sl Int).n (fun i=>cI .i64 ((Sl.nil:Sl Int).g i)) true)]⟩ [7700] (ids:=[]) ⟨rfl,rfl,rfl⟩
 refine kB hS (A2 hS) T3 T3 5 (.o (.a (decide (d<0))) (.a (decide ((f.n:Int)<d)))) ?_;apply kI hS h<;>intro h
 .obtain rfl:=C0 h;exact A8 hS T3 ⟨[(7,pN 3),(6,.vec 7700)],[(7700,.vec B8 1 (Sl.nil:Sl Int).n (fun i=>cI .i64 ((Sl.nil:Sl Int).g i)) true)]⟩ [7700] (ids:=[]) ⟨rfl,rfl,rfl⟩
 refine kC hS h (Kg hS hL) (fun y2 h=>?_);refine D7 hS T3 h (fun x1 x2=>⟨[(11,pN x2),(10,.vec 11500),(9,.vec 29000),(2,pN d),(1,.p (vSl 2 A0 f))],[(29000,.vec D3 1 y2.n (fun i=>cI .u64 (y2.g i)) true),(11500,.vec B8 1 x1.n (fun i=>cI .i64 (x1.g i)) false)]⟩) (ids:=[(29000,29000)]) (fun _ _ _ _ _ m x1 x2 l h=>?_);apply kI hS h<;>intro h
 .obtain⟨c10,h⟩:=C7 h;refine D1 hS c10 (b:=(E9 .and .u64 (shI .shr .u64 (y2.g x2.toNat) d) 1)==1) (fun c11=>?_) (fun c11=>?_)
  .replace h:=itT c11 h;obtain⟨c12,h⟩:=C7 h;exact l _ [(11500,47000),(29000,29000)] _ (x1.push x2) (wrap .i64 (x2+1)) (And.intro (rfl:true=true) c12) h (hle:=klR [(4,.fn (x1.n+1) (x1.push x2).n (I4 x1.n (fun i=>cI .i64 (x1.g i)) (D0 [pI .i64 0] [(0,cI .i64 x2)])) (fun i=>cI .i64 ((x1.push x2).g i)))] (al1 ⟨rfl,W3 (c:=cI .i64) (v:=x1) (x:=x2) (z:=[(pI .i64 0)]) same rfl rfl⟩ al0))
  replace h:=itF c11 h;exact l _ [(11500,11500),(29000,29000)] _ x1 (wrap .i64 (x2+1)) T3 h
 obtain rfl:=C0 h;exact A8 hS T3 ⟨[(7,pN 0),(6,.vec 11500)],[(11500,.vec B8 1 x1.n (fun i=>cI .i64 (x1.g i)) true)]⟩ [11500] (ids:=[(11500,11500)]) ⟨rfl,rfl,rfl⟩
theorem XO {j:Pat}{f:Sl To}{d:Int}{y:(Sl Int)×Int}(h:BO N j f d=some y) :FunO S LP [.p (.agg (C4 j)),.p (vSl 2 A0 f),pN d] [] (.tup [.vec 0,pN y.2]) ([.vec B8 1 y.1.n (fun i=>cI .i64 (y.1.g i)) true]) []:=by
 unfold BO at h;refine A1 hS XC ?_;refine kC hS h (LY hS hL) (fun y1 h=>?_);apply kI hS h<;>intro h
 .obtain rfl:=C0 h;exact A8 hS T3 ⟨[(7,pN y1),(6,.vec 7700)],[(7700,.vec B8 1 (Sl.nil:Sl Int).n (fun i=>cI .i64 ((Sl.nil:Sl Int).g i)) true)]⟩ [7700] (ids:=[]) ⟨rfl,rfl,rfl⟩
 refine kB hS (A2 hS) T3 T3 5 (.o (.a (decide (d<0))) (.a (decide ((f.n:Int)<d)))) ?_;apply kI hS h<;>intro h
 .obtain rfl:=C0 h;exact A8 hS T3 ⟨[(7,pN 3),(6,.vec 7700)],[(7700,.vec B8 1 (Sl.nil:Sl Int).n (fun i=>cI .i64 ((Sl.nil:Sl Int).g i)) true)]⟩ [7700] (ids:=[]) ⟨rfl,rfl,rfl⟩
 refine kC hS h (Kg hS hL) (fun y2 h=>?_);refine D7 hS T3 h (fun x1 x2=>⟨[(11,pN x2),(10,.vec 11500),(9,.vec 29000),(2,pN d),(1,.p (vSl 2 A0 f))],[(29000,.vec D3 1 y2.n (fun i=>cI .u64 (y2.g i)) true),(11500,.vec B8 1 x1.n (fun i=>cI .i64 (x1.g i)) false)]⟩) (ids:=[(29000,29000)]) (fun _ _ _ _ _ m x1 x2 l h=>?_);apply kI hS h<;>intro h
 .obtain⟨c10,h⟩:=C7 h;refine D1 hS c10 (b:=(E9 .and .u64 (shI .shr .u64 (y2.g d.toNat) x2) 1)==1) (fun c11=>?_) (fun c11=>?_)
  .replace h:=itT c11 h;obtain⟨c12,h⟩:=C7 h;exact l _ [(11500,47000),(29000,29000)] _ (x1.push x2) (wrap .i64 (x2+1)) (And.intro (rfl:true=true) c12) h (hle:=klR [(4,.fn (x1.n+1) (x1.push x2).n (I4 x1.n (fun i=>cI .i64 (x1.g i)) (D0 [pI .i64 0] [(0,cI .i64 x2)])) (fun i=>cI .i64 ((x1.push x2).g i)))] (al1 ⟨rfl,W3 (c:=cI .i64) (v:=x1) (x:=x2) (z:=[(pI .i64 0)]) same rfl rfl⟩ al0))
  replace h:=itF c11 h;exact l _ [(11500,11500),(29000,29000)] _ x1 (wrap .i64 (x2+1)) T3 h
 obtain rfl:=C0 h;exact A8 hS T3 ⟨[(7,pN 0),(6,.vec 11500)],[(11500,.vec B8 1 x1.n (fun i=>cI .i64 (x1.g i)) true)]⟩ [11500] (ids:=[(11500,11500)]) ⟨rfl,rfl,rfl⟩
theorem Hw {b:Law}{d:Sl To}{c:Int}{y:Bool}(h:X2 N b d c=some y) :FunO S NN [.p (.agg (B2 b)),.p (vSl 2 A0 d),pN c] [] (pB y) ([]) []:=by
 unfold X2 at h;refine A1 hS Ab1 ?_;refine D8 hS T3 6 4000 (B2 b) ?_;refine kB hS (A2 hS) T3 T3 7 (.o (.a (decide (c<0))) (.a (decide ((d.n:Int)<(wrap .i64 (c+(b.If.n:Int))))))) ?_;apply kI hS h<;>intro h
 .cases h;exact kR hS
 refine E2 hS T3 h (fun x1=>⟨[(8,pN x1),(7,pN (b.If.n:Int)),(3,.p (.ptr (B2 b))),(2,pN c),(1,.p (vSl 2 A0 d))],[]⟩) (ids:=[]) (fun _ _ _ _ _ f x1 g h=>?_);apply kI hS h<;>intro h
 .refine C5 hS T3 [4,5,7,9,10,11] ?_;obtain⟨c9,h⟩:=C7 h;obtain⟨y3,e3,h⟩:=B1 h;refine F8 (And.intro (And.intro (And.intro c9.1 (by decide:(2:Nat)<=2)) c9.2) (by decide:(2:Nat)<=2)) (MS hS hL e3) ?_;refine D9 T3 ?_;apply kI hS h<;>intro h
  .cases h;exact kR hS
  exact g _ [] _ (wrap .i64 (x1+1)) T3 h
 obtain⟨y4,e4,h⟩:=B1 h;refine B6 hS [] (by decide:(7:Nat)<=17) (Sb hS hL e4) ?_;obtain⟨y5,e5,h⟩:=B1 h;refine B6 hS [] (by decide:(7:Nat)<=10) (XO hS hL e5) ?_;refine kB hS (A2 hS) T3 T3 4 (.n (.a (decide (0<(y4.1.n:Int)))) (.a (decide (0<(y5.1.n:Int))))) ?_;cases h;exact kR hS
theorem NR {d:Law}{a:Sl To}{y:Sl To}(h:Z3 N d a=some y) :FunO S NO [.p (.agg (B2 d)),.p (vSl 2 A0 a)] [] (.vec 0) ([.vec B0 2 y.n (fun i=>A0 (y.g i)) true]) []:=by
 unfold Z3 at h;refine A1 hS Ab2 ?_;refine D8 hS T3 4 3000 (B2 d) ?_;refine D7 hS T3 h (fun x1 x2=>⟨[(6,pN x2),(5,.vec 6500),(2,.p (.ptr (B2 d))),(1,.p (vSl 2 A0 a))],[(6500,.vec B0 2 x1.n (fun i=>A0 (x1.g i)) false)]⟩) (ids:=[]) (fun _ _ _ _ _ o x1 x2 l h=>?_);apply kI hS h<;>intro h
 .obtain⟨c16,h⟩:=C7 h;refine D8 hS (And.intro c16 (by decide:(6:Nat)<=6)) 21 8000 (P1 (d.Out.g x2.toNat)) ?_;obtain⟨c18,h⟩:=C7 h;obtain⟨t5,f⟩:∃x:Int,x=(if (decide (0<=(d.Out.g x2.toNat).From)) then (a.g (d.Out.g x2.toNat).From.toNat).Plus else 0):=⟨_,rfl⟩;obtain⟨t6,j⟩:∃x:Int,x=(if (decide (0<=(d.Out.g x2.toNat).From)) then (a.g (d.Out.g x2.toNat).From.toNat).Minus else 0):=⟨_,rfl⟩;refine Tm hS T3 (A2 hS) 0 ⟨[(8,.reg 9000 0),(7,.p (.ptr (P1 (d.Out.g x2.toNat)))),(6,pN x2),(5,.vec 6500),(2,.p (.ptr (B2 d))),(1,.p (vSl 2 A0 a))],[(9000,.cells [pU t5,pU t6]),(6500,.vec B0 2 x1.n (fun i=>A0 (x1.g i)) false)]⟩ (fun M3 m=>?_) ?_
  .refine D1 hS T3 (b:=decide (0<=(d.Out.g x2.toNat).From)) (fun c19=>?_) (fun c19=>?_)
   .exact m _ [(6500,6500),(9000,9000)] _ (And.intro (c18 c19) (by decide:(2:Nat)<=2)) (hle:=klR [(4,.eq (pI .u32 (a.g (d.Out.g x2.toNat).From.toNat).Plus) (pI .u32 t5)),(5,.eq (pI .u32 (a.g (d.Out.g x2.toNat).From.toNat).Minus) (pI .u32 t6))] (al1 (by simp only[f,j,c19,Leaf.ok,pm,Rm,Rn]) (al1 (by simp only[f,j,c19,Leaf.ok,pm,Rm,Rn]) al0)))
   exact m _ [(6500,6500),(9000,9000)] _ T3 (hle:=klR [(4,.eq (pI .u32 0) (pI .u32 t5)),(5,.eq (pI .u32 0) (pI .u32 t6))] (al1 (by simp only[f,j,c19,Leaf.ok,pm,Rm,Rn]) (al1 (by simp only[f,j,c19,Leaf.ok,pm,Rm,Rn]) al0)))
  subst j;subst f;obtain⟨y5,e5,h⟩:=B1 h;refine B6 hS [] (by decide:(2:Nat)<=4) (RZ hS hL e5) ?_;apply kI hS h<;>intro h
  .refine C5 hS T3 [3,4,5,7,8] ?_;obtain⟨c21,h⟩:=C7 h;obtain⟨y6,e6,h⟩:=B1 h;refine F8 (And.intro c21 (by decide:(2:Nat)<=2)) (XH hS hL e6) ?_;refine D9 T3 ?_;obtain⟨c22,h⟩:=C7 h;exact l _ [(6500,58000)] _ (x1.push y6.1) (wrap .i64 (x2+1)) (And.intro (rfl:true=true) c22) h (hle:=klR [(3,.fn (x1.n+1) (x1.push y6.1).n (I4 x1.n (fun i=>A0 (x1.g i)) (D0 [pI .u32 0,pI .u32 0] [(0,A0 y6.1)])) (fun i=>A0 ((x1.push y6.1).g i)))] (al1 ⟨rfl,W3 (c:=A0) (v:=x1) (x:=y6.1) (z:=[(pI .u32 0),pI .u32 0]) same rfl rfl⟩ al0))
  obtain⟨c23,h⟩:=C7 h;exact l _ [(6500,58000)] _ (x1.push y5.1) (wrap .i64 (x2+1)) (And.intro (rfl:true=true) c23) h (hle:=klR [(3,.fn (x1.n+1) (x1.push y5.1).n (I4 x1.n (fun i=>A0 (x1.g i)) (D0 [pI .u32 0,pI .u32 0] [(0,A0 y5.1)])) (fun i=>A0 ((x1.push y5.1).g i)))] (al1 ⟨rfl,W3 (c:=A0) (v:=x1) (x:=y5.1) (z:=[(pI .u32 0),pI .u32 0]) same rfl rfl⟩ al0))
 obtain rfl:=C0 h;exact A8 hS T3 ⟨[(4,.vec 6500)],[(6500,.vec B0 2 x1.n (fun i=>A0 (x1.g i)) true)]⟩ [6500] (ids:=[(6500,6500)]) ⟨rfl,rfl,rfl⟩
theorem He {d:Law}{a:Sl To}{b:Int}{y:Sl To}(h:M0 N d a b=some y) :FunO S Hc [.p (.agg (B2 d)),.p (vSl 2 A0 a),pN b] [] (.vec 0) ([.vec B0 2 y.n (fun i=>A0 (y.g i)) true]) []:=by unfold M0 at h;refine A1 hS Qz ?_;refine D8 hS T3 6 4000 (B2 d) ?_;obtain⟨c1,h⟩:=C7 h;refine C5 hS (And.intro (And.intro (rfl:true=true) c1.1) c1.2) [1] ?_;obtain⟨c2,h⟩:=C7 h;obtain⟨y1,e1,h⟩:=B1 h;refine Ac [] (And.intro (by decide:(18:Nat)<=18) c2) (NR hS hL e1) ?_;obtain⟨c3,h⟩:=C7 h;refine D9 c3 ?_;obtain⟨c4,h⟩:=C7 h;obtain rfl:=C0 h;exact A8 hS c4 ⟨[(6,.vec 34000)],[(34000,.vec B0 2 ((((Sl.of []:Sl To).app (a.take b.toNat)).app y1).app (a.drop (wrap .i64 (b+(d.If.n:Int))).toNat)).n (fun i=>A0 (((((Sl.of []:Sl To).app (a.take b.toNat)).app y1).app (a.drop (wrap .i64 (b+(d.If.n:Int))).toNat)).g i)) true)]⟩ [34000] (ids:=[(34000,34000)]) ⟨rfl,rfl,rfl⟩ (hle:=klR [(0,.fn (((0+(a.take b.toNat).n)+y1.n)+(a.drop (wrap .i64 (b+(d.If.n:Int))).toNat).n) ((((Sl.of []:Sl To).app (a.take b.toNat)).app y1).app (a.drop (wrap .i64 (b+(d.If.n:Int))).toNat)).n (I4 ((0+(a.take b.toNat).n)+y1.n) (I4 (0+(a.take b.toNat).n) (I4 0 (D0 [pI .u32 0,pI .u32 0] []) (fun i=>A0 ((a.take b.toNat).g i))) (fun i=>A0 (y1.g i))) (fun i=>A0 ((a.drop (wrap .i64 (b+(d.If.n:Int))).toNat).g i))) (fun i=>A0 (((((Sl.of []:Sl To).app (a.take b.toNat)).app y1).app (a.drop (wrap .i64 (b+(d.If.n:Int))).toNat)).g i)))] (al1 ⟨rfl,KB (c:=A0) (v:=((Sl.of []:Sl To).app (a.take b.toNat)).app y1) (w:=a.drop (wrap .i64 (b+(d.If.n:Int))).toNat) (KB (c:=A0) (v:=(Sl.of []:Sl To).app (a.take b.toNat)) (w:=y1) (KB (c:=A0) (v:=(Sl.of []:Sl To)) (w:=a.take b.toNat) (fun i f=>Kh f (by omega)) rfl same rfl) rfl same rfl) rfl same rfl⟩ al0))
theorem Ab5 {a:Law}{d:Sl To}{y:(Sl Int)×(Sl (Sl To))×Int}(h:Du N a d=some y) :FunO S NM [.p (.agg (B2 a)),.p (vSl 2 A0 d)] [] (.tup [.vec 0,.vec 1,pN y.2.2]) ([.vec B8 1 y.1.n (fun i=>cI .i64 (y.1.g i)) true,.vec A6 1 y.2.1.n (fun i=>cL 2 A0 (y.2.1.g i)) true]) []:=by
 unfold Du at h;refine A1 hS Ab0 ?_;refine D8 hS T3 4 3000 (B2 a) ?_;refine Nb hS T3 h (fun x2 x3 x4 x5=>⟨[(10,pN x5),(9,.vec 10501),(8,.vec 9500),(7,.vec 8500),(2,.p (.ptr (B2 a))),(1,.p (vSl 2 A0 d))],[(10501,.vec B0 2 x4.n (fun i=>A0 (x4.g i)) false),(9500,.vec A6 1 x3.n (fun i=>cL 2 A0 (x3.g i)) false),(8500,.vec B8 1 x2.n (fun i=>cI .i64 (x2.g i)) false)]⟩) (ids:=[]) (fun _ _ _ _ _ l x2 x3 x4 x5 f h=>?_);apply kI hS h<;>intro h
 .obtain⟨y5,e5,h⟩:=B1 h;refine B6 hS [] (by decide:(18:Nat)<=18) (Hw hS hL e5) ?_;apply kI hS h<;>intro h
  .refine Ai hS T3 (A2 hS) h 0 (fun z3=>⟨[(10,pN x5),(9,.vec 10500),(8,.vec 9500),(7,.vec 8500),(2,.p (.ptr (B2 a))),(1,.p (vSl 2 A0 d))],[(10500,.vec B0 2 z3.n (fun i=>A0 (z3.g i)) false),(9500,.vec A6 1 x3.n (fun i=>cL 2 A0 (x3.g i)) false),(8500,.vec B8 1 x2.n (fun i=>cI .i64 (x2.g i)) false)]⟩) (fun M6 k3 j h=>?_) (fun z3 h=>?_)
   .apply kI hS h<;>intro h
    .obtain⟨c40,h⟩:=C7 h;exact j _ [(8500,8500),(9500,9500),(10500,33000)] _ (x4.push (d.g x5.toNat)) (And.intro (And.intro (And.intro c40.1 (by decide:(2:Nat)<=2)) (rfl:true=true)) c40.2) h (hle:=klR [(3,.fn (x4.n+1) (x4.push (d.g x5.toNat)).n (I4 x4.n (fun i=>A0 (x4.g i)) (D0 [pI .u32 0,pI .u32 0] [(0,A0 (d.g x5.toNat))])) (fun i=>A0 ((x4.push (d.g x5.toNat)).g i)))] (al1 ⟨rfl,W3 (c:=A0) (v:=x4) (x:=d.g x5.toNat) (z:=[(pI .u32 0),pI .u32 0]) same rfl rfl⟩ al0))
    exact j _ [(8500,8500),(9500,9500),(10500,10501)] _ x4 T3 h
   exact f _ [(8500,8500),(9500,9500),(10501,10500)] _ x2 x3 z3 (wrap .i64 (x5+1)) T3 h
  refine C5 hS T3 [1] ?_;obtain⟨c41,h⟩:=C7 h;obtain⟨y6,e6,h⟩:=B1 h;refine Ac [] (And.intro (by decide:(18:Nat)<=18) c41) (NR hS hL e6) ?_;obtain⟨c42,h⟩:=C7 h;refine D9 c42 ?_;obtain⟨c43,h⟩:=C7 h;refine C5 hS (And.intro (rfl:true=true) c43) [1000] ?_;obtain⟨c44,h⟩:=C7 h;refine D9 (And.intro (And.intro (And.intro (rfl:true=true) c44.1.1) c44.1.2) c44.2) ?_;apply kI hS h<;>intro h
  .obtain rfl:=C0 h;exact A8 hS T3 ⟨[(6,pN 11),(5,.vec 6701),(4,.vec 5700)],[(6701,.vec A6 1 (Sl.nil:Sl (Sl To)).n (fun i=>cL 2 A0 ((Sl.nil:Sl (Sl To)).g i)) true),(5700,.vec B8 1 (Sl.nil:Sl Int).n (fun i=>cI .i64 ((Sl.nil:Sl Int).g i)) true)]⟩ [5700,6701] (ids:=[]) ⟨rfl,rfl,rfl⟩
  refine G9 hS T3 66 ⟨[(65,.vec 61000),(64,.vec 9500),(11,pN (a.If.n:Int)),(10,pN x5),(9,.vec 48000),(7,.vec 52000),(2,.p (.ptr (B2 a))),(1,.p (vSl 2 A0 d))],[(61000,.vec B0 2 (((Sl.of []:Sl To).app (x4.app y6)).app (d.drop (wrap .i64 (x5+(a.If.n:Int))).toNat)).n (fun i=>A0 ((((Sl.of []:Sl To).app (x4.app y6)).app (d.drop (wrap .i64 (x5+(a.If.n:Int))).toNat)).g i)) true),(52000,.vec B8 1 (x2.push x5).n (fun i=>cI .i64 ((x2.push x5).g i)) false),(48000,.vec B0 2 (x4.app y6).n (fun i=>A0 ((x4.app y6).g i)) false),(9500,.vec A6 1 x3.n (fun i=>cL 2 A0 (x3.g i)) false)]⟩ (ids:=[(9500,9500),(48000,48000),(52000,52000),(61000,61000)]) ?_ (hle:=klR [(4,.fn ((0+(x4.n+y6.n))+(d.drop (wrap .i64 (x5+(a.If.n:Int))).toNat).n) (((Sl.of []:Sl To).app (x4.app y6)).app (d.drop (wrap .i64 (x5+(a.If.n:Int))).toNat)).n (I4 (0+(x4.n+y6.n)) (I4 0 (D0 [pI .u32 0,pI .u32 0] []) (I4 x4.n (fun i=>A0 (x4.g i)) (fun i=>A0 (y6.g i)))) (fun i=>A0 ((d.drop (wrap .i64 (x5+(a.If.n:Int))).toNat).g i))) (fun i=>A0 ((((Sl.of []:Sl To).app (x4.app y6)).app (d.drop (wrap .i64 (x5+(a.If.n:Int))).toNat)).g i))),(5,.fn (x2.n+1) (x2.push x5).n (I4 x2.n (fun i=>cI .i64 (x2.g i)) (D0 [pI .i64 0] [(0,cI .i64 x5)])) (fun i=>cI .i64 ((x2.push x5).g i))),(6,.fn (x4.n+y6.n) (x4.app y6).n (I4 x4.n (fun i=>A0 (x4.g i)) (fun i=>A0 (y6.g i))) (fun i=>A0 ((x4.app y6).g i)))] (al1 ⟨rfl,KB (c:=A0) (v:=(Sl.of []:Sl To).app (x4.app y6)) (w:=d.drop (wrap .i64 (x5+(a.If.n:Int))).toNat) (KB (c:=A0) (v:=(Sl.of []:Sl To)) (w:=x4.app y6) (fun i m=>Kh m (by omega)) rfl (KB (c:=A0) (v:=x4) (w:=y6) same rfl same rfl) rfl) rfl same rfl⟩ (al1 ⟨rfl,W3 (c:=cI .i64) (v:=x2) (x:=x5) (z:=[(pI .i64 0)]) same rfl rfl⟩ (al1 ⟨rfl,KB (c:=A0) (v:=x4) (w:=y6) same rfl same rfl⟩ al0))));obtain⟨c46,h⟩:=C7 h;refine D1 hS (And.intro (rfl:true=true) c46) (b:=(a.If.n:Int)==0) (fun c47=>?_) (fun c47=>?_)
  .replace h:=itT c47 h;apply kI hS h<;>intro h
   .obtain⟨c49,h⟩:=C7 h;exact f _ [(8500,52000),(9500,68000),(10501,84000)] _ (x2.push x5) (x3.push (((Sl.of []:Sl To).app (x4.app y6)).app (d.drop (wrap .i64 (x5+(a.If.n:Int))).toNat))) ((x4.app y6).push (d.g (wrap .i64 (x5+(a.If.n:Int))).toNat)) (wrap .i64 ((wrap .i64 (x5+(a.If.n:Int)))+1)) (And.intro (And.intro (And.intro c49.1 (by decide:(2:Nat)<=2)) (rfl:true=true)) c49.2) h (hle:=klR [(3,.fn ((x4.app y6).n+1) ((x4.app y6).push (d.g (wrap .i64 (x5+(a.If.n:Int))).toNat)).n (I4 (x4.app y6).n (fun i=>A0 ((x4.app y6).g i)) (D0 [pI .u32 0,pI .u32 0] [(0,A0 (d.g (wrap .i64 (x5+(a.If.n:Int))).toNat))])) (fun i=>A0 (((x4.app y6).push (d.g (wrap .i64 (x5+(a.If.n:Int))).toNat)).g i))),(4,.fn (x3.n+1) (x3.push (((Sl.of []:Sl To).app (x4.app y6)).app (d.drop (wrap .i64 (x5+(a.If.n:Int))).toNat))).n (I4 x3.n (fun i=>cL 2 A0 (x3.g i)) (D0 [G6] [(0,cL 2 A0 (((Sl.of []:Sl To).app (x4.app y6)).app (d.drop (wrap .i64 (x5+(a.If.n:Int))).toNat)))])) (fun i=>cL 2 A0 ((x3.push (((Sl.of []:Sl To).app (x4.app y6)).app (d.drop (wrap .i64 (x5+(a.If.n:Int))).toNat))).g i)))] (al1 ⟨rfl,W3 (c:=A0) (v:=x4.app y6) (x:=d.g (wrap .i64 (x5+(a.If.n:Int))).toNat) (z:=[(pI .u32 0),pI .u32 0]) same rfl rfl⟩ (al1 ⟨rfl,W3 (c:=cL 2 A0) (v:=x3) (x:=((Sl.of []:Sl To).app (x4.app y6)).app (d.drop (wrap .i64 (x5+(a.If.n:Int))).toNat)) (z:=[G6]) same rfl rfl⟩ al0)))
   exact f _ [(8500,52000),(9500,68000),(10501,48000)] _ (x2.push x5) (x3.push (((Sl.of []:Sl To).app (x4.app y6)).app (d.drop (wrap .i64 (x5+(a.If.n:Int))).toNat))) (x4.app y6) (wrap .i64 ((wrap .i64 (x5+(a.If.n:Int)))+1)) T3 h (hle:=klR [(4,.fn (x3.n+1) (x3.push (((Sl.of []:Sl To).app (x4.app y6)).app (d.drop (wrap .i64 (x5+(a.If.n:Int))).toNat))).n (I4 x3.n (fun i=>cL 2 A0 (x3.g i)) (D0 [G6] [(0,cL 2 A0 (((Sl.of []:Sl To).app (x4.app y6)).app (d.drop (wrap .i64 (x5+(a.If.n:Int))).toNat)))])) (fun i=>cL 2 A0 ((x3.push (((Sl.of []:Sl To).app (x4.app y6)).app (d.drop (wrap .i64 (x5+(a.If.n:Int))).toNat))).g i)))] (al1 ⟨rfl,W3 (c:=cL 2 A0) (v:=x3) (x:=((Sl.of []:Sl To).app (x4.app y6)).app (d.drop (wrap .i64 (x5+(a.If.n:Int))).toNat)) (z:=[G6]) same rfl rfl⟩ al0))
  replace h:=itF c47 h;exact f _ [(8500,52000),(9500,68000),(10501,48000)] _ (x2.push x5) (x3.push (((Sl.of []:Sl To).app (x4.app y6)).app (d.drop (wrap .i64 (x5+(a.If.n:Int))).toNat))) (x4.app y6) (wrap .i64 (x5+(a.If.n:Int))) T3 h (hle:=klR [(4,.fn (x3.n+1) (x3.push (((Sl.of []:Sl To).app (x4.app y6)).app (d.drop (wrap .i64 (x5+(a.If.n:Int))).toNat))).n (I4 x3.n (fun i=>cL 2 A0 (x3.g i)) (D0 [G6] [(0,cL 2 A0 (((Sl.of []:Sl To).app (x4.app y6)).app (d.drop (wrap .i64 (x5+(a.If.n:Int))).toNat)))])) (fun i=>cL 2 A0 ((x3.push (((Sl.of []:Sl To).app (x4.app y6)).app (d.drop (wrap .i64 (x5+(a.If.n:Int))).toNat))).g i)))] (al1 ⟨rfl,W3 (c:=cL 2 A0) (v:=x3) (x:=((Sl.of []:Sl To).app (x4.app y6)).app (d.drop (wrap .i64 (x5+(a.If.n:Int))).toNat)) (z:=[G6]) same rfl rfl⟩ al0))
 obtain rfl:=C0 h;exact A8 hS T3 ⟨[(6,pN 0),(5,.vec 9500),(4,.vec 8500)],[(9500,.vec A6 1 x3.n (fun i=>cL 2 A0 (x3.g i)) true),(8500,.vec B8 1 x2.n (fun i=>cI .i64 (x2.g i)) true)]⟩ [8500,9500] (ids:=[(8500,8500),(9500,9500)]) ⟨rfl,rfl,rfl⟩
theorem Ul {a:Law}{f:Sl To}{y:(Sl Int)×(Sl (Sl To))×Int}(h:Am N a f=some y) :FunO S Kd [.p (.agg (B2 a)),.p (vSl 2 A0 f)] [] (.tup [.vec 0,.vec 1,pN y.2.2]) ([.vec B8 1 y.1.n (fun i=>cI .i64 (y.1.g i)) true,.vec A6 1 y.2.1.n (fun i=>cL 2 A0 (y.2.1.g i)) true]) []:=by
 unfold Am at h;refine A1 hS Ue ?_;refine Nb hS T3 h (fun x1 x2 x3 x4=>⟨[(10,pN x4),(9,pN (a.If.n:Int)),(8,.vec 9500),(7,.vec 8500),(2,.reg 3000 0),(1,.p (vSl 2 A0 x1))],[(9500,.vec A6 1 x3.n (fun i=>cL 2 A0 (x3.g i)) false),(8500,.vec B8 1 x2.n (fun i=>cI .i64 (x2.g i)) false),(3000,.cells ((B2 a).map .p))]⟩) (ids:=[(3000,3000)]) (fun _ _ _ _ _ j x1 x2 x3 x4 d h=>?_);apply kI hS h<;>intro h
 .refine kC hS h (Hw hS hL) (fun y5 h=>?_);apply kI hS h<;>intro h
  .exact d _ [(3000,3000),(8500,8500),(9500,9500)] _ x1 x2 x3 (wrap .i64 (x4+1)) T3 h
  refine kC hS h (He hS hL) (fun y6 h=>?_);apply kI hS h<;>intro h
  .obtain rfl:=C0 h;exact A8 hS T3 ⟨[(6,pN 11),(5,.vec 6701),(4,.vec 5700)],[(6701,.vec A6 1 (Sl.nil:Sl (Sl To)).n (fun i=>cL 2 A0 ((Sl.nil:Sl (Sl To)).g i)) true),(5700,.vec B8 1 (Sl.nil:Sl Int).n (fun i=>cI .i64 ((Sl.nil:Sl Int).g i)) true)]⟩ [5700,6701] (ids:=[]) ⟨rfl,rfl,rfl⟩
  obtain⟨c14,h⟩:=C7 h;refine D1 hS (And.intro (And.intro (And.intro (rfl:true=true) c14.1) (rfl:true=true)) c14.2) (b:=(a.If.n:Int)==0) (fun c15=>?_) (fun c15=>?_)
  .replace h:=itT c15 h;exact d _ [(3000,3000),(8500,38000),(9500,42000)] _ y6 (x2.push x4) (x3.push y6) (wrap .i64 ((wrap .i64 (x4+(a.Out.n:Int)))+1)) T3 h (hle:=klR [(3,.fn (x3.n+1) (x3.push y6).n (I4 x3.n (fun i=>cL 2 A0 (x3.g i)) (D0 [G6] [(0,cL 2 A0 y6)])) (fun i=>cL 2 A0 ((x3.push y6).g i))),(4,.fn (x2.n+1) (x2.push x4).n (I4 x2.n (fun i=>cI .i64 (x2.g i)) (D0 [pI .i64 0] [(0,cI .i64 x4)])) (fun i=>cI .i64 ((x2.push x4).g i)))] (al1 ⟨rfl,W3 (c:=cL 2 A0) (v:=x3) (x:=y6) (z:=[G6]) same rfl rfl⟩ (al1 ⟨rfl,W3 (c:=cI .i64) (v:=x2) (x:=x4) (z:=[(pI .i64 0)]) same rfl rfl⟩ al0)))
  replace h:=itF c15 h;exact d _ [(3000,3000),(8500,38000),(9500,42000)] _ y6 (x2.push x4) (x3.push y6) (wrap .i64 (x4+(a.Out.n:Int))) T3 h (hle:=klR [(3,.fn (x3.n+1) (x3.push y6).n (I4 x3.n (fun i=>cL 2 A0 (x3.g i)) (D0 [G6] [(0,cL 2 A0 y6)])) (fun i=>cL 2 A0 ((x3.push y6).g i))),(4,.fn (x2.n+1) (x2.push x4).n (I4 x2.n (fun i=>cI .i64 (x2.g i)) (D0 [pI .i64 0] [(0,cI .i64 x4)])) (fun i=>cI .i64 ((x2.push x4).g i)))] (al1 ⟨rfl,W3 (c:=cL 2 A0) (v:=x3) (x:=y6) (z:=[G6]) same rfl rfl⟩ (al1 ⟨rfl,W3 (c:=cI .i64) (v:=x2) (x:=x4) (z:=[(pI .i64 0)]) same rfl rfl⟩ al0)))
 obtain rfl:=C0 h;exact A8 hS T3 ⟨[(6,pN 0),(5,.vec 9500),(4,.vec 8500)],[(9500,.vec A6 1 x3.n (fun i=>cL 2 A0 (x3.g i)) true),(8500,.vec B8 1 x2.n (fun i=>cI .i64 (x2.g i)) true)]⟩ [8500,9500] (ids:=[(8500,8500),(9500,9500)]) ⟨rfl,rfl,rfl⟩
theorem XP {a:Law}{f:Sl To}{y:(Sl Int)×(Sl (Sl To))×Int}(h:AN N a f=some y) :FunO S LO [.p (.agg (B2 a)),.p (vSl 2 A0 f)] [] (.tup [.vec 0,.vec 1,pN y.2.2]) ([.vec B8 1 y.1.n (fun i=>cI .i64 (y.1.g i)) true,.vec A6 1 y.2.1.n (fun i=>cL 2 A0 (y.2.1.g i)) true]) []:=by
 unfold AN at h;refine A1 hS XB ?_;refine Nb hS T3 h (fun x1 x2 x3 x4=>⟨[(10,pN x4),(9,pN (a.If.n:Int)),(8,.vec 9500),(7,.vec 8500),(2,.reg 3000 0),(1,.p (vSl 2 A0 x1))],[(9500,.vec A6 1 x3.n (fun i=>cL 2 A0 (x3.g i)) false),(8500,.vec B8 1 x2.n (fun i=>cI .i64 (x2.g i)) false),(3000,.cells ((B2 a).map .p))]⟩) (ids:=[(3000,3000)]) (fun _ _ _ _ _ j x1 x2 x3 x4 d h=>?_);apply kI hS h<;>intro h
 .refine kC hS h (Hw hS hL) (fun y5 h=>?_);apply kI hS h<;>intro h
  .exact d _ [(3000,3000),(8500,8500),(9500,9500)] _ x1 x2 x3 (wrap .i64 (x4-1)) T3 h
  refine kC hS h (He hS hL) (fun y6 h=>?_);apply kI hS h<;>intro h
  .obtain rfl:=C0 h;exact A8 hS T3 ⟨[(6,pN 11),(5,.vec 6701),(4,.vec 5700)],[(6701,.vec A6 1 (Sl.nil:Sl (Sl To)).n (fun i=>cL 2 A0 ((Sl.nil:Sl (Sl To)).g i)) true),(5700,.vec B8 1 (Sl.nil:Sl Int).n (fun i=>cI .i64 ((Sl.nil:Sl Int).g i)) true)]⟩ [5700,6701] (ids:=[]) ⟨rfl,rfl,rfl⟩
  obtain⟨c14,h⟩:=C7 h;refine D1 hS (And.intro (And.intro (And.intro (rfl:true=true) c14.1) (rfl:true=true)) c14.2) (b:=(a.If.n:Int)==0) (fun c15=>?_) (fun c15=>?_)
  .replace h:=itT c15 h;exact d _ [(3000,3000),(8500,38000),(9500,42000)] _ y6 (x2.push x4) (x3.push y6) (wrap .i64 ((wrap .i64 (x4-(a.If.n:Int)))-1)) T3 h (hle:=klR [(3,.fn (x3.n+1) (x3.push y6).n (I4 x3.n (fun i=>cL 2 A0 (x3.g i)) (D0 [G6] [(0,cL 2 A0 y6)])) (fun i=>cL 2 A0 ((x3.push y6).g i))),(4,.fn (x2.n+1) (x2.push x4).n (I4 x2.n (fun i=>cI .i64 (x2.g i)) (D0 [pI .i64 0] [(0,cI .i64 x4)])) (fun i=>cI .i64 ((x2.push x4).g i)))] (al1 ⟨rfl,W3 (c:=cL 2 A0) (v:=x3) (x:=y6) (z:=[G6]) same rfl rfl⟩ (al1 ⟨rfl,W3 (c:=cI .i64) (v:=x2) (x:=x4) (z:=[(pI .i64 0)]) same rfl rfl⟩ al0)))
  replace h:=itF c15 h;exact d _ [(3000,3000),(8500,38000),(9500,42000)] _ y6 (x2.push x4) (x3.push y6) (wrap .i64 (x4-(a.If.n:Int))) T3 h (hle:=klR [(3,.fn (x3.n+1) (x3.push y6).n (I4 x3.n (fun i=>cL 2 A0 (x3.g i)) (D0 [G6] [(0,cL 2 A0 y6)])) (fun i=>cL 2 A0 ((x3.push y6).g i))),(4,.fn (x2.n+1) (x2.push x4).n (I4 x2.n (fun i=>cI .i64 (x2.g i)) (D0 [pI .i64 0] [(0,cI .i64 x4)])) (fun i=>cI .i64 ((x2.push x4).g i)))] (al1 ⟨rfl,W3 (c:=cL 2 A0) (v:=x3) (x:=y6) (z:=[G6]) same rfl rfl⟩ (al1 ⟨rfl,W3 (c:=cI .i64) (v:=x2) (x:=x4) (z:=[(pI .i64 0)]) same rfl rfl⟩ al0)))
 obtain rfl:=C0 h;exact A8 hS T3 ⟨[(6,pN 0),(5,.vec 9500),(4,.vec 8500)],[(9500,.vec A6 1 x3.n (fun i=>cL 2 A0 (x3.g i)) true),(8500,.vec B8 1 x2.n (fun i=>cI .i64 (x2.g i)) true)]⟩ [8500,9500] (ids:=[(8500,8500),(9500,9500)]) ⟨rfl,rfl,rfl⟩
theorem Um {a:Law}{b:Sl To}{y:(Sl Int)×(Sl (Sl To))×Int}(h:An N a b=some y) :FunO S Kb [.p (.agg (B2 a)),.p (vSl 2 A0 b)] [] (.tup [.vec 0,.vec 1,pN y.2.2]) ([.vec B8 1 y.1.n (fun i=>cI .i64 (y.1.g i)) true,.vec A6 1 y.2.1.n (fun i=>cL 2 A0 (y.2.1.g i)) true]) []:=by
 unfold An at h;refine A1 hS Uc ?_;refine kC hS h (Uk hS hL) (fun y1 h=>?_);apply kI hS h<;>intro h
 .obtain rfl:=C0 h;exact A8 hS T3 ⟨[(6,pN y1),(5,.vec 6701),(4,.vec 5700)],[(6701,.vec A6 1 (Sl.nil:Sl (Sl To)).n (fun i=>cL 2 A0 ((Sl.nil:Sl (Sl To)).g i)) true),(5700,.vec B8 1 (Sl.nil:Sl Int).n (fun i=>cI .i64 ((Sl.nil:Sl Int).g i)) true)]⟩ [5700,6701] (ids:=[]) ⟨rfl,rfl,rfl⟩
 apply kI hS h<;>intro h
 .refine kC hS h (Ab5 hS hL) (fun y2 h=>?_);obtain rfl:=C0 h;exact A8 hS T3 ⟨[(6,pN y2.2.2),(5,.vec 21001),(4,.vec 21000)],[(21001,.vec A6 1 y2.2.1.n (fun i=>cL 2 A0 (y2.2.1.g i)) true),(21000,.vec B8 1 y2.1.n (fun i=>cI .i64 (y2.1.g i)) true)]⟩ [21000,21001] (ids:=[(21000,21000),(21001,21001)]) ⟨rfl,rfl,rfl⟩
 apply kI hS h<;>intro h
 .refine kC hS h (Ul hS hL) (fun y3 h=>?_);obtain rfl:=C0 h;exact A8 hS T3 ⟨[(6,pN y3.2.2),(5,.vec 29001),(4,.vec 29000)],[(29001,.vec A6 1 y3.2.1.n (fun i=>cL 2 A0 (y3.2.1.g i)) true),(29000,.vec B8 1 y3.1.n (fun i=>cI .i64 (y3.1.g i)) true)]⟩ [29000,29001] (ids:=[(29000,29000),(29001,29001)]) ⟨rfl,rfl,rfl⟩
 refine kC hS h (XP hS hL) (fun y4 h=>?_);obtain rfl:=C0 h;exact A8 hS T3 ⟨[(6,pN y4.2.2),(5,.vec 35001),(4,.vec 35000)],[(35001,.vec A6 1 y4.2.1.n (fun i=>cL 2 A0 (y4.2.1.g i)) true),(35000,.vec B8 1 y4.1.n (fun i=>cI .i64 (y4.1.g i)) true)]⟩ [35000,35001] (ids:=[(35000,35000),(35001,35001)]) ⟨rfl,rfl,rfl⟩
theorem Un {b:Law}{a:Sl To}{y:(Sl To)×Int}(h:Y1 N b a=some y) :FunO S Ka [.p (.agg (B2 b)),.p (vSl 2 A0 a)] [] (.tup [.vec 0,pN y.2]) ([.vec B0 2 y.1.n (fun i=>A0 (y.1.g i)) true]) []:=by
 unfold Y1 at h;refine A1 hS Ub ?_;refine kC hS h (Um hS hL) (fun y1 h=>?_);apply kI hS h<;>intro h
 .obtain rfl:=C0 h;exact A8 hS T3 ⟨[(5,pN y1.2.2),(4,.vec 5700)],[(5700,.vec B0 2 (Sl.nil:Sl To).n (fun i=>A0 ((Sl.nil:Sl To).g i)) true)]⟩ [5700] (ids:=[]) ⟨rfl,rfl,rfl⟩
 apply kI hS h<;>intro h
 .obtain⟨c3,h⟩:=C7 h;obtain rfl:=C0 h;exact A8 hS (And.intro (rfl:true=true) c3) ⟨[(5,pN 0),(4,.vec 25000)],[(25000,.vec B0 2 ((Sl.of []:Sl To).app a).n (fun i=>A0 (((Sl.of []:Sl To).app a).g i)) true)]⟩ [25000] (ids:=[(25000,25000)]) ⟨rfl,rfl,rfl⟩ (hle:=klR [(1,.fn (0+a.n) ((Sl.of []:Sl To).app a).n (I4 0 (D0 [pI .u32 0,pI .u32 0] []) (fun i=>A0 (a.g i))) (fun i=>A0 (((Sl.of []:Sl To).app a).g i)))] (al1 ⟨rfl,KB (c:=A0) (v:=(Sl.of []:Sl To)) (w:=a) (fun i d=>Kh d (by omega)) rfl same rfl⟩ al0))
 obtain⟨c4,h⟩:=C7 h;obtain rfl:=C0 h;exact A8 hS (And.intro (And.intro (And.intro (rfl:true=true) c4.1.1) c4.1.2) c4.2) ⟨[(5,pN 0),(4,.vec 33000)],[(33000,.vec B0 2 ((Sl.of []:Sl To).app (y1.2.1.g (wrap .i64 ((y1.2.1.n:Int)-1)).toNat)).n (fun i=>A0 (((Sl.of []:Sl To).app (y1.2.1.g (wrap .i64 ((y1.2.1.n:Int)-1)).toNat)).g i)) true)]⟩ [33000] (ids:=[(33000,33000)]) ⟨rfl,rfl,rfl⟩ (hle:=klR [(1,.fn (0+(y1.2.1.g (wrap .i64 ((y1.2.1.n:Int)-1)).toNat).n) ((Sl.of []:Sl To).app (y1.2.1.g (wrap .i64 ((y1.2.1.n:Int)-1)).toNat)).n (I4 0 (D0 [pI .u32 0,pI .u32 0] []) (fun i=>A0 ((y1.2.1.g (wrap .i64 ((y1.2.1.n:Int)-1)).toNat).g i))) (fun i=>A0 (((Sl.of []:Sl To).app (y1.2.1.g (wrap .i64 ((y1.2.1.n:Int)-1)).toNat)).g i)))] (al1 ⟨rfl,KB (c:=A0) (v:=(Sl.of []:Sl To)) (w:=y1.2.1.g (wrap .i64 ((y1.2.1.n:Int)-1)).toNat) (fun i d=>Kh d (by omega)) rfl same rfl⟩ al0))
theorem Uo {a:Sl Law}{b:Sl To}{y:(Sl (Sl To))×Int}(h:Bp N a b=some y) :FunO S JW [.p (vSl 18 B2 a),.p (vSl 2 A0 b)] [] (.tup [.vec 0,pN y.2]) ([.vec A6 1 y.1.n (fun i=>cL 2 A0 (y.1.g i)) true]) []:=by
 unfold Bp at h;refine A1 hS TX ?_;refine kC hS h (Uj hS hL) (fun y1 h=>?_);refine Ai hS T3 (A2 hS) h 0 (fun z1=>⟨[(6,pN z1),(1,.p (vSl 2 A0 b)),(0,.p (vSl 18 B2 a))],[]⟩) (fun M1 k1 d h=>?_) (fun z1 h=>?_)
 .apply kI hS h<;>intro h
  .refine kC hS h (AE hS hL) (fun y3 h=>?_);exact d _ [] _ y3 T3 h
  exact d _ [] _ y1 T3 h
 apply kI hS h<;>intro h
 .obtain rfl:=C0 h;exact A8 hS T3 ⟨[(5,pN z1),(4,.vec 5700)],[(5700,.vec A6 1 (Sl.nil:Sl (Sl To)).n (fun i=>cL 2 A0 ((Sl.nil:Sl (Sl To)).g i)) true)]⟩ [5700] (ids:=[]) ⟨rfl,rfl,rfl⟩
 refine kC hS h (XJ hS hL) (fun y4 h=>?_);refine D7 hS (rfl:true=true) h (fun x2 x3=>⟨[(8,pN x3),(7,.vec 8500),(0,.p (vSl 18 B2 a))],[(8500,.vec A6 1 x2.n (fun i=>cL 2 A0 (x2.g i)) false)]⟩) (ids:=[(8500,23000)]) (fun _ _ _ _ _ f x2 x3 j h=>?_) (hle:=klR [(2,.fn 1 (Sl.of [y4]:Sl (Sl To)).n (D0 [G6] [(0,cL 2 A0 y4)]) (fun i=>cL 2 A0 ((Sl.of [y4]:Sl (Sl To)).g i)))] (al1 ⟨rfl,(fun i l=>match i,l with|0,_=>rfl|_+1,l=>Kh l (by omega))⟩ al0));apply kI hS h<;>intro h
 .refine C5 hS T3 [2,3] ?_;obtain⟨c12,h⟩:=C7 h;obtain⟨y7,e7,h⟩:=B1 h;refine Ac [] (And.intro (And.intro (And.intro c12.1.1 (by decide:(18:Nat)<=18)) c12.1.2) c12.2) (Un hS hL e7) ?_;refine D9 T3 ?_;apply kI hS h<;>intro h
  .obtain rfl:=C0 h;exact A8 hS T3 ⟨[(5,pN y7.2),(4,.vec 5700)],[(5700,.vec A6 1 (Sl.nil:Sl (Sl To)).n (fun i=>cL 2 A0 ((Sl.nil:Sl (Sl To)).g i)) true)]⟩ [5700] (ids:=[]) ⟨rfl,rfl,rfl⟩
  obtain⟨c14,h⟩:=C7 h;exact j _ [(8500,48000)] _ (x2.push y7.1) (wrap .i64 (x3+1)) (And.intro (rfl:true=true) c14) h (hle:=klR [(2,.fn (x2.n+1) (x2.push y7.1).n (I4 x2.n (fun i=>cL 2 A0 (x2.g i)) (D0 [G6] [(0,cL 2 A0 y7.1)])) (fun i=>cL 2 A0 ((x2.push y7.1).g i)))] (al1 ⟨rfl,W3 (c:=cL 2 A0) (v:=x2) (x:=y7.1) (z:=[G6]) same rfl rfl⟩ al0))
 obtain rfl:=C0 h;exact A8 hS T3 ⟨[(5,pN 0),(4,.vec 8500)],[(8500,.vec A6 1 x2.n (fun i=>cL 2 A0 (x2.g i)) true)]⟩ [8500] (ids:=[(8500,8500)]) ⟨rfl,rfl,rfl⟩
theorem Sc {a:Sl Law}{b:Sl To}{y:(Sl To)×Int}(h:U5 N a b=some y) :FunO S Io [.p (vSl 18 B2 a),.p (vSl 2 A0 b)] [] (.tup [.p (vSl 2 A0 y.1),pN y.2]) ([]) []:=by
 unfold U5 at h;refine A1 hS RU ?_;refine kC hS h (Uo hS hL) (fun y1 h=>?_);apply kI hS h<;>intro h
 .obtain rfl:=C0 h;exact A8 hS T3 ⟨[(5,pN y1.2),(4,.p (vSl 2 A0 (Sl.nil:Sl To)))],[]⟩ [] (ids:=[]) ⟨rfl,rfl,rfl⟩
 obtain⟨c2,h⟩:=C7 h;obtain rfl:=C0 h;exact AN0 hS c2 [] ⟨rfl,rfl,rfl⟩
end Go.AM
namespace Go.AM
variable {N:Nat}
open IntKind (wrap)
open Go.Proofs
set_option maxRecDepth 10000
set_option maxHeartbeats 2000000
variable {S:W1}(hS:H9 S Tryz.prog) (hL:GD S)
include hS hL
theorem Sd {b:Int}{y:Bool}(h:Bv N b=some y) :FunO S Ip [.p (pI .u8 b)] [] (pB y) ([]) []:=by unfold Bv at h;refine A1 hS RV ?_;refine kB hS (A2 hS) T3 T3 23 (.o (.o (.o (.n (.a (decide (97<=b))) (.a (decide (b<=122)))) (.n (.a (decide (65<=b))) (.a (decide (b<=90))))) (.n (.a (decide (48<=b))) (.a (decide (b<=57))))) (.a (b==45))) ?_;cases h;exact kR hS
theorem Gw {b:Str}{y:Bool}(h:S2 N b=some y) :FunO S LG [.p (.str b)] [] (pB y) ([]) []:=by
 unfold S2 at h;refine A1 hS Xr ?_;refine E2 hS T3 h (fun x1=>⟨[(3,pN x1),(0,.p (.str b))],[]⟩) (ids:=[]) (fun _ _ _ _ _ c x1 d h=>?_);apply kI hS h<;>intro h
 .obtain⟨c8,h⟩:=C7 h;obtain⟨y3,e3,h⟩:=B1 h;refine B6 hS [] c8 (Sd hS hL e3) ?_;apply kI hS h<;>intro h
  .cases h;exact kR hS
  exact d _ [] _ (wrap .i64 (x1+1)) T3 h
 refine kB hS (A2 hS) T3 T3 4 (.n (.a (decide (1<=(b.length:Int)))) (.a (decide ((b.length:Int)<=24)))) ?_;cases h;exact kR hS
theorem Fk {c:Sl J6}{y:Int}(h:S7 N c=some y) :FunO S JT [.p (vSl 2 E4 c)] [] (pN y) ([]) []:=by
 unfold S7 at h;refine A1 hS TU ?_;obtain⟨c1,h⟩:=C7 h;refine kB hS (A2 hS) T3 c1 11 (.o (.o (.a (decide ((c.n:Int)<1))) (.a (decide (63<(c.n:Int))))) (.a ((c.g 0).Parent != (-1)))) ?_;apply kI hS h<;>intro h
 .cases h;exact kR hS
 refine E2 hS T3 h (fun x3=>⟨[(3,pN x3),(0,.p (vSl 2 E4 c))],[]⟩) (ids:=[]) (fun _ _ _ _ _ f x3 i h=>?_);apply kI hS h<;>intro h
 .refine Ai hS T3 (A2 hS) h 0 (fun z3=>⟨[(53,pB z3),(3,pN x3),(0,.p (vSl 2 E4 c))],[]⟩) (fun M3 k3 d h=>?_) (fun z3 h=>?_)
  .refine kG hS h (fun h=>?_) (fun h=>?_)
   .obtain⟨c71,h⟩:=C7 h;refine X9 hS c71 (b:=decide ((c.g x3.toNat).Parent<0)) (fun c72=>?_) (fun c72=>?_)
    .replace h:=itT c72 h;exact d _ [] _ true T3 h
    replace h:=itF c72 h;obtain⟨c73,h⟩:=C7 h;refine X9 hS c73 (b:=decide (x3<=(c.g x3.toNat).Parent)) (fun c74=>?_) (fun c74=>?_)
    .replace h:=itT c74 h;exact d _ [] _ true T3 h
    replace h:=itF c74 h;obtain⟨c75,h⟩:=C7 h;obtain⟨j,e11,h⟩:=B1 h;refine B6 hS [] c75 (Gw hS hL e11) ?_;exact d _ [] _ (!j) T3 h
   obtain⟨c76,h⟩:=C7 h;obtain⟨l,e12,h⟩:=B1 h;refine B6 hS [] c76 (Gw hS hL e12) ?_;exact d _ [] _ (!l) T3 h
  apply kI hS h<;>intro h
  .cases h;exact kR hS
  refine E2 hS T3 h (fun x7=>⟨[(4,pN x7),(3,pN x3),(0,.p (vSl 2 E4 c))],[]⟩) (ids:=[]) (fun _ _ _ _ _ m x7 q h=>?_);apply kI hS h<;>intro h
  .refine C5 hS T3 [2,4,7,9] ?_;obtain⟨c85,h⟩:=C7 h;refine D9 c85 ?_;apply kI hS h<;>intro h
   .cases h;exact kR hS
   exact q _ [] _ (wrap .i64 (x7+1)) T3 h
  exact i _ [] _ (wrap .i64 (x3+1)) T3 h
 cases h;exact kR hS
theorem Up {rec:A5->Int->Option (Sl Int)}(d:∀{a:A5}{b:Int}{y:Sl Int},rec a b=some y->FunO S DJ [.p (.agg (A4 a)),pN b] [] (.vec 0) ([.vec B8 1 y.n (fun i=>cI .i64 (y.g i)) true]) []){a:A5}{b:Int}{y:Sl Int}(h:R5 rec N a b=some y) :FunO S DJ [.p (.agg (A4 a)),pN b] [] (.vec 0) ([.vec B8 1 y.n (fun i=>cI .i64 (y.g i)) true]) []:=by
 unfold R5 at h;refine A1 hS Xt ?_;refine D8 hS T3 4 3000 (A4 a) ?_;apply kI hS h<;>intro h
 .obtain rfl:=C0 h;exact A8 hS T3 ⟨[(4,.vec 5700)],[(5700,.vec B8 1 (Sl.nil:Sl Int).n (fun i=>cI .i64 ((Sl.nil:Sl Int).g i)) true)]⟩ [5700] (ids:=[]) ⟨rfl,rfl,rfl⟩
 refine C5 hS T3 [0,2,4,6,9,11,12] ?_;obtain⟨c2,h⟩:=C7 h;obtain⟨y1,e1,h⟩:=B1 h;refine Ac [] (And.intro (by decide:(3:Nat)<=3) c2) (d e1) ?_;obtain⟨c3,h⟩:=C7 h;refine D9 c3 ?_;obtain rfl:=C0 h;exact A8 hS T3 ⟨[(4,.vec 21000)],[(21000,.vec B8 1 (y1.app (a.On.g b.toNat)).n (fun i=>cI .i64 ((y1.app (a.On.g b.toNat)).g i)) true)]⟩ [21000] (ids:=[(21000,21000)]) ⟨rfl,rfl,rfl⟩ (hle:=klR [(0,.fn (y1.n+(a.On.g b.toNat).n) (y1.app (a.On.g b.toNat)).n (I4 y1.n (fun i=>cI .i64 (y1.g i)) (fun i=>cI .i64 ((a.On.g b.toNat).g i))) (fun i=>cI .i64 ((y1.app (a.On.g b.toNat)).g i)))] (al1 ⟨rfl,KB (c:=cI .i64) (v:=y1) (w:=a.On.g b.toNat) same rfl same rfl⟩ al0))
theorem XQ {a:A5}{b:Int}{y:Sl Int}(h:BU N a b=some y) :FunO S DJ [.p (.agg (A4 a)),pN b] [] (.vec 0) ([.vec B8 1 y.n (fun i=>cI .i64 (y.g i)) true]) []:=by
 induction N generalizing a b y with
 |zero=>cases (show (none:Option (Sl Int))=some y from h)
 |succ N ih=>exact Up hS hL (fun e=>ih e) h
theorem Uq {a:A5}{y:Int}(h:P6 N a=some y) :FunO S JP [.p (.agg (A4 a))] [] (pN y) ([]) []:=by
 unfold P6 at h;refine A1 hS TP ?_;refine D8 hS T3 2 2000 (A4 a) ?_;refine kC hS h (Fk hS hL) (fun y1 h=>?_);apply kI hS h<;>intro h
 .cases h;exact kR hS
 apply kI hS h<;>intro h
 .cases h;exact kR hS
 refine E2 hS T3 h (fun x1=>⟨[(3,pN x1),(1,.p (.ptr (A4 a)))],[]⟩) (ids:=[]) (fun _ _ _ _ _ i x1 j h=>?_);apply kI hS h<;>intro h
 .obtain⟨c10,h⟩:=C7 h;obtain⟨y4,e4,h⟩:=B1 h;refine B6 hS [] (And.intro c10 (by decide:(18:Nat)<=18)) (Fj hS hL e4) ?_;apply kI hS h<;>intro h
  .cases h;exact kR hS
  exact j _ [] _ (wrap .i64 (x1+1)) T3 h
 refine E2 hS T3 h (fun x3=>⟨[(4,pN x3),(1,.p (.ptr (A4 a)))],[]⟩) (ids:=[]) (fun _ _ _ _ _ l x3 m h=>?_);apply kI hS h<;>intro h
 .refine E2 hS T3 h (fun x5=>⟨[(5,pN x5),(4,pN x3),(1,.p (.ptr (A4 a)))],[]⟩) (ids:=[]) (fun _ _ _ _ _ o x5 q h=>?_);apply kI hS h<;>intro h
  .refine C5 hS T3 [1,3,5,7,9,11] ?_;obtain⟨c40,h⟩:=C7 h;refine D9 c40 ?_;apply kI hS h<;>intro h
   .cases h;exact kR hS
   exact q _ [] _ (wrap .i64 (x5+1)) T3 h
  exact m _ [] _ (wrap .i64 (x3+1)) T3 h
 apply kI hS h<;>intro h
 .cases h;exact kR hS
 refine E2 hS T3 h (fun x6=>⟨[(6,pN x6),(1,.p (.ptr (A4 a)))],[]⟩) (ids:=[]) (fun _ _ _ _ _ r x6 s h=>?_);apply kI hS h<;>intro h
 .obtain⟨y7,e7,h⟩:=B1 h;refine B6 hS [] (by decide:(3:Nat)<=3) (XQ hS hL e7) ?_;apply kI hS h<;>intro h
  .cases h;exact kR hS
  exact s _ [] _ (wrap .i64 (x6+1)) T3 h
 refine E2 hS T3 h (fun x8=>⟨[(7,pN x8),(1,.p (.ptr (A4 a)))],[]⟩) (ids:=[]) (fun _ _ _ _ _ t x8 u h=>?_);apply kI hS h<;>intro h
 .refine E2 hS T3 h (fun c=>⟨[(8,pN c),(7,pN x8),(1,.p (.ptr (A4 a)))],[]⟩) (ids:=[]) (fun _ _ _ _ _ f c d h=>?_);obtain⟨c100,h⟩:=C7 h;refine D1 hS c100 (b:=decide (c<((a.On.g x8.toNat).n:Int))) (fun c101=>?_) (fun c101=>?_)
  .replace h:=itT c101 h;refine C5 hS T3 [1,3,4,6,7,11,13,14,16,17,19] ?_;obtain⟨c102,h⟩:=C7 h;refine AY c102 (b:=decide (((a.On.g x8.toNat).g c.toNat)<0)) (fun c103=>?_) (fun c103=>?_)
   .replace h:=itT c103 h;refine D9 T3 ?_;cases h;exact kR hS
   replace h:=itF c103 h;obtain⟨c104,h⟩:=C7 h;refine D9 c104 ?_;apply kI hS h<;>intro h
   .cases h;exact kR hS
   exact d _ [] _ (wrap .i64 (c+1)) T3 h
  replace h:=itF c101 h;exact u _ [] _ (wrap .i64 (x8+1)) T3 h
 cases h;exact kR hS
end Go.AM
namespace Go.AM
open IntKind (wrap)
open Go.Proofs
set_option maxRecDepth 10000
set_option maxHeartbeats 2000000
variable {S:W1}(hS:H9 S Tryz.prog) (hL:GD S)
include hS hL
theorem OU {N:Nat}{a:Sl J6}{d:Int}{y:Sl Int}(h:Q2 N a d=some y) :FunO S Gv [.p (vSl 2 E4 a),pN d] [] (.vec 0) ([.vec B8 1 y.n (fun i=>cI .i64 (y.g i)) true]) []:=by
 unfold Q2 at h;refine A1 hS OT ?_;refine D7 hS T3 h (fun x1 x2=>⟨[(6,pN x2),(5,.vec 6500),(1,pN d),(0,.p (vSl 2 E4 a))],[(6500,.vec B8 1 x1.n (fun i=>cI .i64 (x1.g i)) false)]⟩) (ids:=[]) (fun _ _ _ _ _ j x1 x2 f h=>?_);apply kI hS h<;>intro h
 .obtain⟨c8,h⟩:=C7 h;refine D1 hS c8 (b:=(a.g x2.toNat).Parent==d) (fun c9=>?_) (fun c9=>?_)
  .replace h:=itT c9 h;obtain⟨c10,h⟩:=C7 h;exact f _ [(6500,24000)] _ (x1.push x2) (wrap .i64 (x2+1)) (And.intro (rfl:true=true) c10) h (hle:=klR [(3,.fn (x1.n+1) (x1.push x2).n (I4 x1.n (fun i=>cI .i64 (x1.g i)) (D0 [pI .i64 0] [(0,cI .i64 x2)])) (fun i=>cI .i64 ((x1.push x2).g i)))] (al1 ⟨rfl,W3 (c:=cI .i64) (v:=x1) (x:=x2) (z:=[(pI .i64 0)]) same rfl rfl⟩ al0))
  replace h:=itF c9 h;exact f _ [(6500,6500)] _ x1 (wrap .i64 (x2+1)) T3 h
 obtain rfl:=C0 h;exact A8 hS T3 ⟨[(4,.vec 6500)],[(6500,.vec B8 1 x1.n (fun i=>cI .i64 (x1.g i)) true)]⟩ [6500] (ids:=[(6500,6500)]) ⟨rfl,rfl,rfl⟩
theorem Iv {N:Nat}{a:Sl J6}{y:(Sl Int)×Int}(h:K5 N a=some y) :FunO S Im [.p (vSl 2 E4 a)] [] (.tup [.vec 0,pN y.2]) ([.vec B8 1 y.1.n (fun i=>cI .i64 (y.1.g i)) true]) []:=by
 unfold K5 at h;refine A1 hS RR ?_;refine kC hS h (Fk hS hL) (fun y1 h=>?_);apply kI hS h<;>intro h
 .obtain rfl:=C0 h;exact A8 hS T3 ⟨[(3,pN y1),(2,.vec 3700)],[(3700,.vec B8 1 (Sl.nil:Sl Int).n (fun i=>cI .i64 ((Sl.nil:Sl Int).g i)) true)]⟩ [3700] (ids:=[]) ⟨rfl,rfl,rfl⟩
 refine D7 hS T3 h (fun x1 x2=>⟨[(6,pN x2),(5,.vec 6500),(0,.p (vSl 2 E4 a))],[(6500,.vec B8 1 x1.n (fun i=>cI .i64 (x1.g i)) false)]⟩) (ids:=[]) (fun _ _ _ _ _ d x1 x2 b h=>?_);apply kI hS h<;>intro h
 .refine kC hS h (OU hS hL) (fun y4 h=>?_);apply kI hS h<;>intro h
  .obtain⟨c8,h⟩:=C7 h;exact b _ [(6500,27000)] _ (x1.push x2) (wrap .i64 (x2+1)) (And.intro (rfl:true=true) c8) h (hle:=klR [(2,.fn (x1.n+1) (x1.push x2).n (I4 x1.n (fun i=>cI .i64 (x1.g i)) (D0 [pI .i64 0] [(0,cI .i64 x2)])) (fun i=>cI .i64 ((x1.push x2).g i)))] (al1 ⟨rfl,W3 (c:=cI .i64) (v:=x1) (x:=x2) (z:=[(pI .i64 0)]) same rfl rfl⟩ al0))
  exact b _ [(6500,6500)] _ x1 (wrap .i64 (x2+1)) T3 h
 obtain rfl:=C0 h;exact A8 hS T3 ⟨[(3,pN 0),(2,.vec 6500)],[(6500,.vec B8 1 x1.n (fun i=>cI .i64 (x1.g i)) true)]⟩ [6500] (ids:=[(6500,6500)]) ⟨rfl,rfl,rfl⟩
end Go.AM
namespace Go.AM
variable {N:Nat}
open IntKind (wrap)
open Go.Proofs
set_option maxRecDepth 10000
set_option maxHeartbeats 2000000
variable {S:W1}(hS:H9 S Tryz.prog) (hL:GD S)
include hS hL
theorem XR {c:Sl J6}{b:Int}{y:Int}(h:Dd N c b=some y) :FunO S LM [.p (vSl 2 E4 c),pN b] [] (pN y) ([]) []:=by
 unfold Dd at h;refine A1 hS Xy ?_;refine kC hS h (Fk hS hL) (fun y1 h=>?_);refine kB hS (A2 hS) T3 T3 9 (.n (.a (y1==0)) (.o (.a (decide (b<0))) (.a (decide ((c.n:Int)<=b))))) ?_;apply kI hS h<;>intro h
 .cases h;exact kR hS
 cases h;exact kR hS
theorem XS {a:Sl J6}{b:Int}{y:Sl Int}(h:Ei N a b=some y) :FunO S FE [.p (vSl 2 E4 a),pN b] [] (.vec 0) ([.vec B8 1 y.n (fun i=>cI .i64 (y.g i)) true]) []:=by
 induction N generalizing a b y with
 |zero=>cases (show (none:Option (Sl Int))=some y from h)
 |succ N ih=>exact OG hS hL (fun e=>ih e) h
theorem XT {a:Sl J6}{b:Int}{y:(Sl Int)×Int}(h:BV N a b=some y) :FunO S LI [.p (vSl 2 E4 a),pN b] [] (.tup [.vec 0,pN y.2]) ([.vec B8 1 y.1.n (fun i=>cI .i64 (y.1.g i)) true]) []:=by
 unfold BV at h;refine A1 hS Xu ?_;refine kC hS h (XR hS hL) (fun y1 h=>?_);apply kI hS h<;>intro h
 .obtain rfl:=C0 h;exact A8 hS T3 ⟨[(5,pN y1),(4,.vec 5700)],[(5700,.vec B8 1 (Sl.nil:Sl Int).n (fun i=>cI .i64 ((Sl.nil:Sl Int).g i)) true)]⟩ [5700] (ids:=[]) ⟨rfl,rfl,rfl⟩
 refine kC hS h (XS hS hL) (fun y2 h=>?_);obtain rfl:=C0 h;exact A8 hS T3 ⟨[(5,pN 0),(4,.vec 16000)],[(16000,.vec B8 1 y2.n (fun i=>cI .i64 (y2.g i)) true)]⟩ [16000] (ids:=[(16000,16000)]) ⟨rfl,rfl,rfl⟩
theorem Ur {b:Sl E6}{y:Bool}(h:I7 N b=some y) :FunO S JQ [.p (vSl 2 C6 b)] [] (pB y) ([]) []:=by
 unfold I7 at h;refine A1 hS TQ ?_;refine E2 hS T3 h (fun x1=>⟨[(3,pN x1),(0,.p (vSl 2 C6 b))],[]⟩) (ids:=[]) (fun _ _ _ _ _ c x1 d h=>?_);apply kI hS h<;>intro h
 .obtain⟨c10,h⟩:=C7 h;obtain⟨c11,h⟩:=C7 h;refine kB hS (A2 hS) c10 c11 8 (.n (.a (!(b.g x1.toNat).Has)) (.a (decide (0<((b.g x1.toNat).W.n:Int))))) ?_;apply kI hS h<;>intro h
  .cases h;exact kR hS
  exact d _ [] _ (wrap .i64 (x1+1)) T3 h
 cases h;exact kR hS
theorem Us {a:Sl E6}{y:Int}(h:H2 N a=some y) :FunO S JR [.p (vSl 2 C6 a)] [] (pN y) ([]) []:=by
 unfold H2 at h;refine A1 hS TR ?_;refine E2 hS T3 h (fun x1=>⟨[(3,pN x1),(0,.p (vSl 2 C6 a))],[]⟩) (ids:=[]) (fun _ _ _ _ _ b x1 c h=>?_);apply kI hS h<;>intro h
 .obtain⟨c8,h⟩:=C7 h;obtain⟨y3,e3,h⟩:=B1 h;refine B6 hS [] c8 (AE hS hL e3) ?_;apply kI hS h<;>intro h
  .cases h;exact kR hS
  exact c _ [] _ (wrap .i64 (x1+1)) T3 h
 cases h;exact kR hS
theorem XU {d:A5}{f:Int}{a:Int}{y:Sl Law}(h:BX N d f a=some y) :FunO S LH [.p (.agg (A4 d)),pN f,pN a] [] (.vec 0) ([.vec H7 18 y.n (fun i=>B2 (y.g i)) true]) []:=by
 unfold BX at h;refine A1 hS Xs ?_;refine D8 hS T3 6 4000 (A4 d) ?_;refine kC hS h (XT hS hL) (fun y1 h=>?_);refine D7 hS T3 h (fun x3 x4=>⟨[(10,pN x4),(9,.vec 10501),(7,.vec 18000),(3,.p (.ptr (A4 d))),(2,pN a)],[(18000,.vec B8 1 y1.1.n (fun i=>cI .i64 (y1.1.g i)) true),(10501,.vec H7 18 x3.n (fun i=>B2 (x3.g i)) false)]⟩) (ids:=[(18000,18000)]) (fun _ _ _ _ _ l x3 x4 m h=>?_);apply kI hS h<;>intro h
 .refine C5 hS T3 [1,6,7] ?_;obtain⟨c36,h⟩:=C7 h;refine D9 c36 ?_;refine D7 hS T3 h (fun x7 x8=>⟨[(12,pN x8),(11,.p (vSl 1 (cI .i64) (d.On.g (y1.1.g x4.toNat).toNat))),(10,pN x4),(9,.vec 10502),(7,.vec 18000),(3,.p (.ptr (A4 d))),(2,pN a)],[(18000,.vec B8 1 y1.1.n (fun i=>cI .i64 (y1.1.g i)) true),(10502,.vec H7 18 x7.n (fun i=>B2 (x7.g i)) false)]⟩) (ids:=[(10502,10501),(18000,18000)]) (fun _ _ _ _ _ o x7 x8 j h=>?_);apply kI hS h<;>intro h
  .obtain⟨c48,h⟩:=C7 h;refine D1 hS c48 (b:=((d.On.g (y1.1.g x4.toNat).toNat).g x8.toNat) != a) (fun c49=>?_) (fun c49=>?_)
   .replace h:=itT c49 h;refine C5 hS T3 [2,5,6,7,8] ?_;obtain⟨c50,h⟩:=C7 h;refine Aj (And.intro (And.intro c50.1 c50.2) (by decide:(18:Nat)<=18)) (x:=.sl true 18 1 (D0 [.str [],pI .i64 0,pI .u32 0,pI .u32 0,.v (.bool false),pI .i64 0,pI .i64 0,G6,pI .i64 0,pI .u32 0,pI .u32 0,.v (.bool false),pI .i64 0,pI .i64 0,G6,G6,G6,pI .i64 0] [(0,B2 (d.Laws.g ((d.On.g (y1.1.g x4.toNat).toNat).g x8.toNat).toNat))])) ?_;obtain⟨c51,h⟩:=C7 h;refine D9 c51 ?_;exact j _ [(10502,57000),(18000,18000)] _ (x7.push (d.Laws.g ((d.On.g (y1.1.g x4.toNat).toNat).g x8.toNat).toNat)) (wrap .i64 (x8+1)) T3 h (hle:=klR [(6,.fn (x7.n+1) (x7.push (d.Laws.g ((d.On.g (y1.1.g x4.toNat).toNat).g x8.toNat).toNat)).n (I4 x7.n (fun i=>B2 (x7.g i)) (D0 [.str [],pI .i64 0,pI .u32 0,pI .u32 0,.v (.bool false),pI .i64 0,pI .i64 0,G6,pI .i64 0,pI .u32 0,pI .u32 0,.v (.bool false),pI .i64 0,pI .i64 0,G6,G6,G6,pI .i64 0] [(0,B2 (d.Laws.g ((d.On.g (y1.1.g x4.toNat).toNat).g x8.toNat).toNat))])) (fun i=>B2 ((x7.push (d.Laws.g ((d.On.g (y1.1.g x4.toNat).toNat).g x8.toNat).toNat)).g i)))] (al1 ⟨rfl,W3 (c:=B2) (v:=x7) (x:=d.Laws.g ((d.On.g (y1.1.g x4.toNat).toNat).g x8.toNat).toNat) (z:=[(.str []),pI .i64 0,pI .u32 0,pI .u32 0,.v (.bool false),pI .i64 0,pI .i64 0,G6,pI .i64 0,pI .u32 0,pI .u32 0,.v (.bool false),pI .i64 0,pI .i64 0,G6,G6,G6,pI .i64 0]) same rfl rfl⟩ al0))
   replace h:=itF c49 h;exact j _ [(10502,10502),(18000,18000)] _ x7 (wrap .i64 (x8+1)) T3 h
  exact m _ [(10501,10502),(18000,18000)] _ x7 (wrap .i64 (x4+1)) T3 h
 obtain rfl:=C0 h;exact A8 hS T3 ⟨[(6,.vec 10501)],[(10501,.vec H7 18 x3.n (fun i=>B2 (x3.g i)) true)]⟩ [10501] (ids:=[(10501,10501)]) ⟨rfl,rfl,rfl⟩
theorem QC {d:A5}{a:E6}{c:Int}{b:Int}{y:E6}(h:O2 N d a c b=some y) :FunO S Hb [.p (.agg (A4 d)),.p (.agg (C6 a)),pN c,pN b] [] (.p (.agg (C6 y))) ([]) []:=by
 unfold O2 at h;refine A1 hS Qy ?_;refine D8 hS T3 5 5000 (A4 d) ?_;refine D8 hS T3 8 6000 [.bb a.Has,vSl 2 A0 a.W] ?_;apply kI hS h<;>intro h
 .obtain rfl:=C0 h;exact A8 hS T3 ⟨[(8,.reg 9000 0)],[(9000,.cells [pB false,.p (vSl 2 A0 (Sl.nil:Sl To))])]⟩ [] (ids:=[(9000,9000)]) ⟨rfl,rfl,rfl⟩
 refine kC hS h (Iv hS hL) (fun y1 h=>?_);refine C5 hS T3 [0,8] ?_;obtain⟨c2,h⟩:=C7 h;obtain⟨y2,e2,h⟩:=B1 h;refine Ac [] (And.intro (And.intro (by decide:(3:Nat)<=3) c2.1) c2.2) (XU hS hL e2) ?_;obtain⟨y3,e3,h⟩:=B1 h;refine Ac [] T3 (Sc hS hL e3) ?_;refine D9 T3 ?_;apply kI hS h<;>intro h
 .obtain rfl:=C0 h;exact A8 hS T3 ⟨[(8,.reg 9000 0)],[(9000,.cells [pB false,.p (vSl 2 A0 (Sl.nil:Sl To))])]⟩ [] (ids:=[(9000,9000)]) ⟨rfl,rfl,rfl⟩
 cases h;exact kR hS
theorem QD {d:A5}{b:E6}{c:Int}{f:E6}{a:Int}{y:Bool}(h:I8 N d b c f a=some y) :FunO S Ha [.p (.agg (A4 d)),.p (.agg (C6 b)),pN c,.p (.agg (C6 f)),pN a] [] (pB y) ([]) []:=by
 unfold I8 at h;refine A1 hS Qx ?_;refine kC hS h (QC hS hL) (fun y1 h=>?_);refine Ai hS T3 (A2 hS) h 0 (fun z1=>⟨[(10,pB z1)],[]⟩) (fun M1 k1 g h=>?_) (fun z1 h=>?_)
 .refine kG hS h (fun h=>?_) (fun h=>?_)
  .refine kC hS h (OE hS hL) (fun y3 h=>?_);exact g _ [] _ y3 T3 h
  exact g _ [] _ false T3 h
 cases h;exact kR hS
def FI (N:Nat)(m:A5)(c:Entry)(a:Sl (Sl To)):Option (Int×Int×Int):= (P6 N m).bind fun y1=>if (y1 != 0) then some (0,0,y1) else if (decide (256<(a.n:Int))) then some (0,0,12) else (K5 N m.Tree).bind fun y2=>lt (fun (z1:Bool)=>if z1 then some (0,0,2) else (S2 N c.Gloss).bind fun y5=>if (!y5) then some (0,0,15) else (H2 N c.Forms).bind fun y6=>P9 N (fun o (x2:Int) (x3:Int)=>if ((decide (x3<(a.n:Int)))&&(x2==0)) then if ((0:Int)<=x3/\x3<(a.n:Int))then (P5 N (a.g x3.toNat)).bind fun y9=>o y9 (wrap .i64 (x3+1)) else none else if (x2 != 0) then some (0,0,x2) else Zb N (fun i (q:Int) (l:Int) (d:Int)=>if (decide (d<(a.n:Int))) then P9 N (fun f (j:Int) (b:Int)=>if (decide (b<(c.Forms.n:Int))) then if ((0:Int)<=b/\b<(c.Forms.n:Int))then if (c.Forms.g b.toNat).Has then if (((0:Int)<=d/\d<(a.n:Int))/\((0:Int)<=b/\b<(c.Forms.n:Int)))then (I8 N m (⟨true,a.g d.toNat⟩:E6) b (c.Forms.g b.toNat) (-1)).bind fun r=>if r then f (wrap .i64 (j+1)) (wrap .i64 (b+1)) else f j (wrap .i64 (b+1)) else none else f j (wrap .i64 (b+1)) else none else if (decide (l<j)) then i d j (wrap .i64 (d+1)) else i q l (wrap .i64 (d+1))) 0 0 else if (decide (l<0)) then some (0,0,5) else some (q,l,0)) 0 (-1) 0) y6 0) fun k1=>if ((c.Forms.n:Int) != (y2.1.n:Int)) then k1 true else (I7 N c.Forms).bind fun y4=>k1 (!y4)
theorem Bj8 {f:A5}{d:Entry}{c:Sl (Sl To)}{y:Int×Int×Int}(h:FI N f d c=some y) :FunO S Al5 [.p (.agg (A4 f)),.p (.agg (B7 d)),.p (vSl 1 (cL 2 A0) c)] [] (.tup [pN y.1,pN y.2.1,pN y.2.2]) ([]) []:=by
 unfold FI at h;refine A1 hS Tryz.func28 ?_;refine D8 hS T3 4 4000 (A4 f) ?_;refine D8 hS T3 6 5000 [.str d.Gloss,vSl 2 C6 d.Forms] ?_;obtain⟨y1,e1,h⟩:=B1 h;refine B6 hS [] (by decide:(3:Nat)<=3) (Uq hS hL e1) ?_;apply kI hS h<;>intro h
 .cases h;exact kR hS
 apply kI hS h<;>intro h
 .cases h;exact kR hS
 refine kC hS h (Iv hS hL) (fun y2 h=>?_);refine Ai hS T3 (A2 hS) h 0 (fun z1=>⟨[(43,pB z1),(4,.p (.ptr [.str d.Gloss,vSl 2 C6 d.Forms])),(3,.p (.ptr (A4 f))),(2,.p (vSl 1 (cL 2 A0) c))],[]⟩) (fun M1 k1 r h=>?_) (fun z1 h=>?_)
 .refine kG hS h (fun h=>?_) (fun h=>?_)
  .exact r _ [] _ true T3 h
  refine kC hS h (Ur hS hL) (fun y4 h=>?_);exact r _ [] _ (!y4) T3 h
 apply kI hS h<;>intro h
 .cases h;exact kR hS
 refine kC hS h (Gw hS hL) (fun y5 h=>?_);apply kI hS h<;>intro h
 .cases h;exact kR hS
 refine kC hS h (Us hS hL) (fun y6 h=>?_);refine D7 hS T3 h (fun x2 x3=>⟨[(12,pN x3),(9,pN x2),(4,.p (.ptr [.str d.Gloss,vSl 2 C6 d.Forms])),(3,.p (.ptr (A4 f))),(2,.p (vSl 1 (cL 2 A0) c))],[]⟩) (ids:=[]) (fun _ _ _ _ _ t x2 x3 u h=>?_);refine kB hS (A2 hS) T3 T3 3 (.n (.a (decide (x3<(c.n:Int)))) (.a (x2==0))) ?_;apply kI hS h<;>intro h
 .obtain⟨c13,h⟩:=C7 h;obtain⟨y9,e9,h⟩:=B1 h;refine B6 hS [] c13 (AE hS hL e9) ?_;exact u _ [] _ y9 (wrap .i64 (x3+1)) T3 h
 apply kI hS h<;>intro h
 .cases h;exact kR hS
 refine Cv hS T3 h (fun m o i=>⟨[(15,pN i),(14,pN o),(13,pN m),(4,.p (.ptr [.str d.Gloss,vSl 2 C6 d.Forms])),(3,.p (.ptr (A4 f))),(2,.p (vSl 1 (cL 2 A0) c))],[]⟩) (ids:=[]) (fun _ _ _ _ _ v m o i s h=>?_);apply kI hS h<;>intro h
 .refine D7 hS T3 h (fun j l=>⟨[(17,pN l),(16,pN j),(15,pN i),(14,pN o),(13,pN m),(4,.p (.ptr [.str d.Gloss,vSl 2 C6 d.Forms])),(3,.p (.ptr (A4 f))),(2,.p (vSl 1 (cL 2 A0) c))],[]⟩) (ids:=[]) (fun _ _ _ _ _ w j l q h=>?_);apply kI hS h<;>intro h
  .refine C5 hS T3 [1,3,5,7,10,11,15,17,18,19] ?_;obtain⟨c78,h⟩:=C7 h;refine AY c78 (b:=(d.Forms.g l.toNat).Has) (fun c79=>?_) (fun c79=>?_)
   .replace h:=itT c79 h;obtain⟨c80,h⟩:=C7 h;obtain⟨x,e21,h⟩:=B1 h;refine F8 (And.intro (And.intro (And.intro (by decide:(3:Nat)<=3) c80.1) c80.2) (by decide:(2:Nat)<=2)) (QD hS hL e21) ?_;refine D9 T3 ?_;apply kI hS h<;>intro h
    .exact q _ [] _ (wrap .i64 (j+1)) (wrap .i64 (l+1)) T3 h
    exact q _ [] _ j (wrap .i64 (l+1)) T3 h
   replace h:=itF c79 h;refine D9 T3 ?_;exact q _ [] _ j (wrap .i64 (l+1)) T3 h
  apply kI hS h<;>intro h
  .exact s _ [] _ i j (wrap .i64 (i+1)) T3 h
  exact s _ [] _ m o (wrap .i64 (i+1)) T3 h
 apply kI hS h<;>intro h
 .cases h;exact kR hS
 cases h;exact kR hS
end Go.AM
namespace Go.AM
open IntKind (wrap)
open Go.Proofs
set_option maxRecDepth 10000
set_option maxHeartbeats 2000000
variable {S:W1}(hS:H9 S Tryz.prog) (hL:GD S)
include hS hL
def Cc (N:Nat)(b:A5)(p_x:Entry)(a:Sl (Sl To)):Option Bool:= (S8 N b).bind fun y1=>lt (fun (z1:Bool)=>if z1 then (E1 N ).bind fun y4=>some y4 else T9 N (fun c (x2:Int)=>if (decide (x2<(a.n:Int))) then if ((0:Int)<=x2/\x2<(a.n:Int))then if (decide (100<((a.g x2.toNat).n:Int))) then (E1 N ).bind fun y7=>some y7 else c (wrap .i64 (x2+1)) else none else (Ap N b p_x a).bind fun y8=>(FI N b p_x a).bind fun y9=>lt (fun (z2:Bool)=>some z2) fun k2=>if (y8.1==y9.1) then if (y8.2.1==y9.2.1) then if (y8.2.2==y9.2.2) then (E1 N ).bind fun d=>k2 d else k2 false else k2 false else k2 false) 0) fun k1=>if (!y1) then k1 true else (S9 N (Sl.nil:Sl E6) (Sl.of [p_x]:Sl Entry)).bind fun y3=>if (!y3) then k1 true else if (decide (6<(a.n:Int))) then if (decide ((a.n:Int)<=256)) then k1 true else k1 (decide (400<(a.n:Int))) else k1 (decide (400<(a.n:Int)))
theorem Se {N:Nat}{c:A5}{p_x:Entry}{a:Sl (Sl To)}{y:Bool}(h:Cc N c p_x a=some y) :FunO S Es [.p (.agg (A4 c)),.p (.agg (B7 p_x)),.p (vSl 1 (cL 2 A0) a)] [] (pB y) ([]) []:=by
 unfold Cc at h;refine A1 hS Tryz.func5 ?_;refine kC hS h (Ek hS hL) (fun y1 h=>?_);refine Ai hS T3 (A2 hS) h 0 (fun z1=>⟨[(37,pB z1),(4,.reg 5000 0),(3,.reg 4000 0),(2,.p (vSl 1 (cL 2 A0) a))],[(5000,.cells [.p (.str p_x.Gloss),.p (vSl 2 C6 p_x.Forms)]),(4000,.cells ((A4 c).map .p))]⟩) (fun M1 k1 d h=>?_) (fun z1 h=>?_)
 .refine kG hS h (fun h=>?_) (fun h=>?_)
  .exact d _ [(4000,4000),(5000,5000)] _ true T3 h
  refine Da hS (rfl:true=true) ⟨[(19,.vec 20000),(17,.p (.v (.bool false))),(4,.reg 5000 0),(3,.reg 4000 0),(2,.p (vSl 1 (cL 2 A0) a))],[(20000,.vec Jc 2 (Sl.of [p_x]:Sl Entry).n (fun i=>B7 ((Sl.of [p_x]:Sl Entry).g i)) false),(5000,.cells [.p (.str p_x.Gloss),.p (vSl 2 C6 p_x.Forms)]),(4000,.cells ((A4 c).map .p))]⟩ (ids:=[(4000,4000),(5000,5000),(20000,20000)]) ?_ (hle:=klR [(2,.fn 1 (Sl.of [p_x]:Sl Entry).n (D0 [.str [],G6] [(0,B7 p_x)]) (fun i=>B7 ((Sl.of [p_x]:Sl Entry).g i)))] (al1 ⟨rfl,(fun i j=>match i,j with|0,_=>rfl|_+1,j=>Kh j (by omega))⟩ al0));obtain⟨y3,e3,h⟩:=B1 h;refine B6 hS [] T3 (FunO.le hS (args:=[.p G6,.p (vSl 2 B7 (Sl.of [p_x]:Sl Entry))]) (by exact⟨Cj9,⟨.inl rfl,trivial⟩⟩) (El hS hL e3)) ?_;refine kG hS h (fun h=>?_) (fun h=>?_)
  .exact d _ [(4000,4000),(5000,5000)] _ true T3 h
  refine kG hS h (fun h=>?_) (fun h=>?_)
  .refine kG hS h (fun h=>?_) (fun h=>?_)
   .exact d _ [(4000,4000),(5000,5000)] _ true T3 h
   exact d _ [(4000,4000),(5000,5000)] _ (decide (400<(a.n:Int))) T3 h
  exact d _ [(4000,4000),(5000,5000)] _ (decide (400<(a.n:Int))) T3 h
 apply kI hS h<;>intro h
 .refine kC hS h (N0 hS hL) (fun y4 h=>?_);cases h;exact kR hS
 refine E2 hS T3 h (fun x2=>⟨[(7,pN x2),(4,.reg 5000 0),(3,.reg 4000 0),(2,.p (vSl 1 (cL 2 A0) a))],[(5000,.cells [.p (.str p_x.Gloss),.p (vSl 2 C6 p_x.Forms)]),(4000,.cells ((A4 c).map .p))]⟩) (ids:=[(4000,4000),(5000,5000)]) (fun _ _ _ _ _ l x2 m h=>?_);apply kI hS h<;>intro h
 .obtain⟨c18,h⟩:=C7 h;refine D1 hS c18 (b:=decide (100<((a.g x2.toNat).n:Int))) (fun c19=>?_) (fun c19=>?_)
  .replace h:=itT c19 h;refine kC hS h (N0 hS hL) (fun y7 h=>?_);cases h;exact kR hS
  replace h:=itF c19 h;exact m _ [(4000,4000),(5000,5000)] _ (wrap .i64 (x2+1)) T3 h
 refine kC hS h (Qc hS hL) (fun y8 h=>?_);refine kC hS h (Bj8 hS hL) (fun y9 h=>?_);refine Ai hS T3 (A2 hS) h 0 (fun z2=>⟨[(6,pB z2)],[]⟩) (fun M2 k2 f h=>?_) (fun z2 h=>?_)
 .refine kG hS h (fun h=>?_) (fun h=>?_)
  .refine kG hS h (fun h=>?_) (fun h=>?_)
   .refine kG hS h (fun h=>?_) (fun h=>?_)
    .refine kC hS h (N0 hS hL) (fun o h=>?_);exact f _ [] _ o T3 h
    exact f _ [] _ false T3 h
   exact f _ [] _ false T3 h
  exact f _ [] _ false T3 h
 cases h;exact kR hS
end Go.AM
namespace Go.AM
open Go.Proofs
def loop4 {A B C D R:Type}{body:(A->B->C->D->Option R)->A->B->C->D->Option R}(I:Nat->A->B->C->D->Prop)(n:Nat)(O8:R->Prop){N:Nat}(l:n<N){a:A}{b:B}{c:C}{d:D}(m:I 0 a b c d)
 (g:∀f i a b c d,i<=n->I i a b c d->(i<n->∀a' b' c' d',I (i+1) a' b' c' d' -> ∃r,f a' b' c' d' = some r/\O8 r)->∃r,body f a b c d=some r/\O8 r):∃r,Bf5 N body a b c d=some r/\O8 r:=
 Bs0 (fun i x=>I i x.1 x.2.1 x.2.2.1 x.2.2.2) n O8 (fun f i x o q h=>g (fun a b c d=>f (a,b,c,d)) i x.1 x.2.1 x.2.2.1 x.2.2.2 o q fun hl a' b' c' d' j=>h hl (a',b',c',d') j) N 0 (a,b,c,d) (Cx3 _) m l
end Go.AM
namespace Go.AM
open Go.Proofs
def Bb6 {R A:Type}{Q:R->Prop}{k:A->Option R}{f:(A->Option R)->Option R}(u:A)(h1:∃r,k u=some r/\Q r)(a:∀k:A->Option R,(∃r,k u=some r/\Q r)->∃r,f k=some r/\Q r):∃r,lt k f=some r/\Q r:=a k h1
open Classical in
noncomputable def AF (P:Nat×Nat->Prop) (L:List (Nat×Nat)):Nat:=(L.filter fun q=>decide (P q)).length
open Classical in
theorem QE {P:Nat×Nat->Prop}{L:List (Nat×Nat)}{q:Nat×Nat}(h:P q):AF P (L++[q])=AF P L+1:=by unfold AF;rw[Cr0,Cm0];congr 1;simp[h]
open Classical in
theorem Te {P:Nat×Nat->Prop}{L:List (Nat×Nat)}{q:Nat×Nat}(h:¬P q):AF P (L++[q])=AF P L:=by unfold AF;rw[Cr0,Cm0];simp[h]
open Classical in
theorem Tf (P:Nat×Nat->Prop)(L:List (Nat×Nat)):AF P L<=L.length:=Cr4 _ _
end Go.AM
namespace Go.AM
variable {N:Nat}
open IntKind (wrap)
open Go.Proofs
abbrev Hx (e:Entry):Sl Entry:=(Sl.of [e]:Sl Entry)
def Bb7 (e:Entry):DT (Hx e)=attR (Hx e) 0 e.Forms.n:=by show CN (Hx e) 1=_;rw[Gl];rfl
def XV (N:Nat)(h:A5)(e:Entry)(w:Sl To)(q:Nat×Nat):Prop:=RG N h (Y5 h q.2) (-1) ⟨true,w⟩ (e.Forms.g q.2)
noncomputable def QF (N:Nat) (h:A5) (e:Entry) (w:Sl To):Nat:=AF (XV N h e w) (DT (Hx e))
noncomputable def EY (N:Nat) (h:A5) (e:Entry) (c:Sl (Sl To)):Nat->Int×Int
 |0=>(0,-1)
 |i+1=>if (EY N h e c i).2<(QF N h e (c.g i):Int)then ((i:Int),(QF N h e (c.g i):Int))else EY N h e c i
def Iw {h:A5}{e:Entry}{c:Sl (Sl To)}{i:Nat}(g:(EY N h e c i).2<(QF N h e (c.g i):Int)):EY N h e c (i+1)=((i:Int),(QF N h e (c.g i):Int)):=Il g
def QG {h:A5}{e:Entry}{c:Sl (Sl To)}{i:Nat}(g:¬(EY N h e c i).2<(QF N h e (c.g i):Int)):EY N h e c (i+1)=EY N h e c i:=Ix g
def AH9 {N:Nat}{h:A5}{e:Entry}{c:Sl (Sl To)}:∀i,0<=(EY N h e c (i+1)).2
 |0=>by
  have g:(EY N h e c 0).2<(QF N h e (c.g 0):Int):=by show (-1:Int)<_;omega
  rw[Iw g];show (0:Int)<=(QF N h e (c.g 0):Int);omega
 |i+1=>by
  by_cases g:(EY N h e c (i+1)).2<(QF N h e (c.g (i+1)):Int)
  .rw[Iw g];show (0:Int)<=(QF N h e (c.g (i+1)):Int);omega
  rw[QG g];exact AH9 i
structure Bx9 (N:Nat) (h:A5) (e:Entry) (c:Sl (Sl To)):Prop where
 hist:U7 N h
 n:c.n<=256
 fn:e.Forms.n=(F7 h.Tree h.Tree.n).n
 cw:∀i,i<c.n->wOk (c.g i)
def BJ8 (hN:3000000<=N){h:A5}(hi:I6 h){e:Entry}{c:Sl (Sl To)}(hb:Bx9 N h e c){X:Sl (Sl Law)}(hX:derX N h (-1) (F7 h.Tree h.Tree.n) X) :∃r,Bf5 N (fun o (x17:Sl (List (Str×E6))) (x18:Int) (v:Int) (l:Int)=>
  if (decide (l<(c.n:Int))) then
   if ((0:Int)<=l/\l<(c.n:Int))then
    (P7 N (Sl.of [e]:Sl Entry)).bind fun y39=>
    (F2 N y39).bind fun L4=>
    Q5 L4 (fun d (x27:Bd×(Sl To)) (j:(Sl (List (Str×E6)))×Int)=>
     (E7 N (⟨true,c.g l.toNat⟩:E6) x27.1.leaf j.1 X).bind fun s=>
     lt (fun (z16:Bool)=>
      if z16 then
       d (s.2.2,wrap .i64 (j.2+1))
      else
       d (s.2.2,j.2)
      ) fun k12=>
      if s.2.1 then
       (N2 N s.1 x27.2).bind fun y48=>
       k12 y48
      else
       k12 false
     ) (fun (j:(Sl (List (Str×E6)))×Int)=>
      if (decide (v<j.2)) then
       o j.1 l j.2 (wrap .i64 (l+1))
      else
       o j.1 x18 v (wrap .i64 (l+1))
     ) (x17,0)
   else none
  else
   some (x18,v,(0:Int))
  ) (⟨X.n,fun _=>[]⟩:Sl (List (Str×E6))) 0 (-1) 0=some r/\r=((EY N h e c c.n).1,(EY N h e c c.n).2,0):=by
 have h63:=Cq hb.hist.tree;have hcn:=hb.n;have hfn:=hb.fn;have hm0:Df N h (-1) (F7 h.Tree h.Tree.n) (⟨X.n,fun _=>[]⟩:Sl (List (Str×E6))):=by rw[hX.n];exact Bi7 N h (-1) _
 have hat:F2 N (Sl.of [e]:Sl Entry)=some ((DT (Hx e)).map (Bk8 (Hx e))):=Bx0 (by omega) (by show 1<_;omega) fun i hi=>by
  have hi:i<1:=hi;obtain rfl:i=0:=by omega
  show e.Forms.n<_;omega
 have hlen:(DT (Hx e)).length<=63:=by rw[Bb7];have:=Fy (Hx e) 0 e.Forms.n;omega
 refine loop4 (fun i (M:Sl (List (Str×E6))) b m x=>x=(i:Int)/\Df N h (-1) (F7 h.Tree h.Tree.n) M/\b=(EY N h e c i).1/\m=(EY N h e c i).2) c.n _ (by omega) ⟨rfl,hm0,rfl,rfl⟩ ?_;rintro self i M b m x hle ⟨rfl,hM,rfl,rfl⟩ hs;by_cases w:i<c.n
 case neg=>
  obtain rfl:i=c.n:=by omega
  exact Ci ⟨_,rfl,rfl⟩
 refine Ax (Ab (B4 rfl (B4 hat ?_)));rw[Cl2];refine AE2 (fun L a=>∃done todo,DT (Hx e)=done++todo/\L=todo.map (Bk8 (Hx e))/\Df N h (-1) (F7 h.Tree h.Tree.n) a.1/\a.2=((AF (XV N h e (c.g i)) done:Nat):Int)) ?_ ?_ _ _ ⟨[],DT (Hx e),rfl,rfl,hM,rfl⟩
 .rintro a ⟨done,todo,h1,h2,h3,h4⟩
  have:todo=[]:=by simpa using h2.symm
  subst this;rw[Cn0]at h1;have e4:a.2=(QF N h e (c.g i):Int):=by rw[h4,<- h1];rfl
  rw[e4];by_cases g:(EY N h e c i).2<(QF N h e (c.g i):Int)
  .exact ifT (by simpa using g) (hs w _ _ _ _ ⟨Cl,h3,by rw[Iw g],by rw[Iw g]⟩)
  exact ifF (by simpa using g) (hs w _ _ _ _ ⟨Cl,h3,by rw[QG g],by rw[QG g]⟩)
 rintro t L ⟨M1,z⟩ d ⟨done,todo,h1,h2,h3,h4⟩ hs6;cases todo with
 |nil=>cases h2
 |cons q todo=>
  obtain⟨rfl,rfl⟩:=CF9 h2;have hmem:q∈DT (Hx e):=by rw[h1];simp
  obtain⟨q1,q2,q3⟩:=Jp hmem;have hq0:q.1=0:=by have q1:q.1<1:=q1;omega
  have hge:(Hx e).g q.1=e:=by rw[hq0];rfl
  rw[hge]at q2;have hk:q.2<(F7 h.Tree h.Tree.n).n:=by omega
  have hd:done.length<=63:=by
   have:=congrArg List.length h1
   rw[Cm0]at this;omega
  have hcl:=Tf (XV N h e (c.g i)) done;replace h4:z=((AF (XV N h e (c.g i)) done:Nat):Int):=h4;have u:DT (Hx e)=(done++[q])++todo:=by rw[h1,Cn9];rfl
  obtain⟨r,r1,r2,r3⟩:=MJ hN hi hb.hist hX (p:=⟨true,c.g i⟩) (fun _=>hb.cw i w) hk h3;have hW:(Bk8 (Hx e) q).2=(e.Forms.g q.2).W:=by show (((Hx e).g q.1).Forms.g q.2).W=_;rw[hge]
  have hyes:XV N h e (c.g i) q->∃y,d (r.2.2,wrap .i64 (z+1))=some y/\y=((EY N h e c c.n).1,(EY N h e c c.n).2,0):=fun hq=>
   hs6 _ ⟨done++[q],todo,u,rfl,r2,by show wrap .i64 (z+1)=_;rw[h4,Cl,QE hq]⟩
  have hno:¬XV N h e (c.g i) q->∃y,d (r.2.2,z)=some y/\y=((EY N h e c c.n).1,(EY N h e c c.n).2,0):=fun hq=>
   hs6 _ ⟨done++[q],todo,u,rfl,r2,by show z=_;rw[h4,Te hq]⟩
  show ∃y,(E7 N (⟨true,c.g i⟩:E6) (q.2:Int) M1 X).bind _=some y/\_;refine B4 r1 (ltX ?_);rw[hW];cases hb2:r.2.1 with
  |false=>
   rw[hb2]at r3;refine Ck (Ck (hno ?_));rintro⟨y,z1,_⟩
   have:DF N h (Y5 h q.2) (-1) ⟨true,c.g i⟩=none:=r3.no
   rw[this]at z1;cases z1
  |true=>
   obtain⟨f,f1,f2⟩:=Cl0 hN r3 (e.Forms.g q.2).W hb2;refine ifT rfl (B4 f1 ?_);cases f with
   |true=>exact ifT rfl (hyes (f2.1 rfl))
   |false=>exact Ck (hno fun g=>by have:=f2.2 g;cases this)
def BJ9 (hN:3000000<=N){h:A5}(hi:I6 h){e:Entry}{c:Sl (Sl To)}(hb:Bx9 N h e c) :∃r,Zb N (fun o (w:Int) (s:Int) (j:Int)=>
  if (decide (j<(c.n:Int))) then
   P9 N (fun d (q:Int) (a:Int)=>
    if (decide (a<(e.Forms.n:Int))) then
     if ((0:Int)<=a/\a<(e.Forms.n:Int))then
      if (e.Forms.g a.toNat).Has then
       if (((0:Int)<=j/\j<(c.n:Int))/\((0:Int)<=a/\a<(e.Forms.n:Int)))then
        (I8 N h (⟨true,c.g j.toNat⟩:E6) a (e.Forms.g a.toNat) (-1)).bind fun a0=>
        if a0 then
         d (wrap .i64 (q+1)) (wrap .i64 (a+1))
        else
         d q (wrap .i64 (a+1))
       else none
      else
       d q (wrap .i64 (a+1))
     else none
    else
     if (decide (s<q)) then
      o j q (wrap .i64 (j+1))
     else
      o w s (wrap .i64 (j+1))
    ) 0 0
  else
   if (decide (s<0)) then
    some (0,0,5)
   else
    some (w,s,(0:Int))
  ) 0 (-1) 0=some r/\r=if c.n=0 then (0,0,5)else ((EY N h e c c.n).1,(EY N h e c c.n).2,0):=by
 have h63:=Cq hb.hist.tree;have hcn:=hb.n;have hfn:=hb.fn;refine KU (fun i b m x=>x=(i:Int)/\b=(EY N h e c i).1/\m=(EY N h e c i).2) c.n _ (by omega) ⟨rfl,rfl,rfl⟩ ?_;rintro self i b m x hle ⟨rfl,rfl,rfl⟩ hs;by_cases t:i<c.n
 case neg=>
  obtain rfl:i=c.n:=by omega
  refine Ci ?_;by_cases h0:c.n=0
  .rw[Il h0,h0];exact ifT (by show decide ((-1:Int)<0)=true;rfl) ⟨_,rfl,rfl⟩
  rw[Ix h0];have hp:=AH9 (N:=N) (h:=h) (e:=e) (c:=c) (c.n-1);rw[show c.n-1+1=c.n by omega]at hp;exact Bm ⟨_,rfl,rfl⟩
 refine Ax ?_;refine N4 (fun k z x=>x=(k:Int)/\z=((AF (XV N h e (c.g i)) (attR (Hx e) 0 k):Nat):Int)) e.Forms.n _ (by omega) ⟨rfl,rfl⟩ ?_;rintro d k z x hk ⟨rfl,rfl⟩ u;have hR:=Fy (Hx e) 0 k;have hcl:=Tf (XV N h e (c.g i)) (attR (Hx e) 0 k);by_cases v:k<e.Forms.n
 case neg=>
  obtain rfl:k=e.Forms.n:=by omega
  have e4:AF (XV N h e (c.g i)) (attR (Hx e) 0 e.Forms.n)=QF N h e (c.g i):=by unfold QF;rw[Bb7]
  rw[e4];refine Ci ?_;by_cases g:(EY N h e c i).2<(QF N h e (c.g i):Int)
  .exact ifT (by simpa using g) (hs t _ _ _ ⟨Cl,by rw[Iw g],by rw[Iw g]⟩)
  exact ifF (by simpa using g) (hs t _ _ _ ⟨Cl,by rw[QG g],by rw[QG g]⟩)
 refine Ax (Ab ?_);rw[Cl2,Cl2];have l:=Qk (Hx e) 0 k;have hg0:(Hx e).g 0=e:=rfl;rw[hg0]at l;by_cases y:(e.Forms.g k).Has=true
 case neg=>rw[Ix y,Cn0]at l;exact ifF y (u v _ _ ⟨Cl,by rw[l]⟩)
 rw[Il y]at l;obtain⟨f,f1,f2⟩:=EW hN hi hb.hist (x:=-1) (p:=⟨true,c.g i⟩) (f:=e.Forms.g k) (fun _=>hb.cw i t) (k:=k) (by omega);refine ifT y (Ab (B4 f1 ?_));cases f with
 |true=>have hq:XV N h e (c.g i) (0,k):=f2.1 rfl;exact ifT rfl (u v _ _ ⟨Cl,by rw[l,QE hq,Cl]⟩)
 |false=>
  have hq:¬XV N h e (c.g i) (0,k):=fun g=>by have:=f2.2 g;cases this
  exact Ck (u v _ _ ⟨Cl,by rw[l,Te hq]⟩)
noncomputable def csE (N:Nat) (c:Sl (Sl To)):Int:=GV (fun i=>wE N (c.g i)) c.n
noncomputable def Ab6 (N:Nat) (h:A5) (e:Entry) (c:Sl (Sl To)):Int:= if hres N h≠0 then hres N h else if 256<c.n then 12 else orE (e2 (Hx e) (F7 h.Tree h.Tree.n).n 0) (orE (e15 (Hx e) 0) (orE (wsE N e.Forms) (orE (csE N c) (if c.n=0 then 5 else 0))))
noncomputable def Bj9 (N:Nat) (h:A5) (e:Entry) (c:Sl (Sl To)):Int×Int×Int:=if Ab6 N h e c=0 then ((EY N h e c c.n).1,(EY N h e c c.n).2,0)else (0,0,Ab6 N h e c)
def Bb8 {f:Nat->Int}:GV f 1=f 0:=Ht (k:=0) rfl
def Bb9 (b:1000<=N){h:A5}{e:Entry}{c:Sl (Sl To)}(hc:∀i,i<c.n->okA (c.g i))(g1:hres N h=0)(g2:¬ 256<c.n)(g3:e2 (Hx e) (F7 h.Tree h.Tree.n).n 0=0)(g4:csE N c=0):Bx9 N h e c:=
 ⟨hres_zero.1 g1,by omega,(WG g3).1,fun i a=>(WI b (hc i a)).1 (AD g4 i a)⟩
def Z7 {h:A5}{e:Entry}{c:Sl (Sl To)}{x:Int}(hx:Ab6 N h e c=x)(a:x≠0):Bj9 N h e c=(0,0,x):=by unfold Bj9;rw[hx,Ix a]
def By0 (j:3000000<=N){h:A5}(m:I6 h){e:Entry}(q:S3 (Hx e)){c:Sl (Sl To)}(hc:∀i,i<c.n->okA (c.g i)):Ap N h e c=some (Bj9 N h e c):=by
 refine eqR ?_;unfold Ap;rw[RB j m];by_cases g1:hres N h=0
 case neg=>exact B4 rfl (ifT (by simpa using g1) ⟨_,rfl,(Z7 (Il g1) g1).symm⟩)
 have b:=hres_zero.1 g1;have u:=Cq b.tree;refine B4 rfl (ifF (by simp[g1]) ?_);by_cases g2:256<c.n
 .exact Ax ⟨_,rfl,(Z7 (by unfold Ab6;rw[Ix (fun f=>f g1),Il g2]) (by decide)).symm⟩
 refine Bm (B4 (Gk j m.tree b.tree).1 ?_);have eX:Ab6 N h e c=orE (e2 (Hx e) (F7 h.Tree h.Tree.n).n 0) (orE (e15 (Hx e) 0) (orE (wsE N e.Forms) (orE (csE N c) (if c.n=0 then 5 else 0)))):=by unfold Ab6;rw[Ix (fun f=>f g1),Ix g2]
 have a:=WH j (l:=Hx e) (k:=(F7 h.Tree h.Tree.n).n) (by omega) (by show 1<900;omega) q;rw[show (Hx e).n=1 from rfl,Bb8,Bb8]at a;refine B4 a ?_;by_cases g3:e2 (Hx e) (F7 h.Tree h.Tree.n).n 0=0
 case neg=>rw[HY g3]at eX⊢;exact ifT (by simpa using g3) ⟨_,rfl,(Z7 eX g3).symm⟩
 by_cases g4:e15 (Hx e) 0=0
 case neg=>rw[DC g3,HY g4]at eX⊢;exact ifT (by simpa using g4) ⟨_,rfl,(Z7 eX g4).symm⟩
 rw[DC g3,DC g4];rw[DC g3,DC g4]at eX;have v:e.Forms.n=(F7 h.Tree h.Tree.n).n:=(WG g3).1;have o:K0 e.Forms:=(q 0 (by show 0<1;omega)).1;refine Ck (B4 (BA (by omega) (by omega) o).1 ?_);by_cases g5:wsE N e.Forms=0
 case neg=>rw[HY g5]at eX;exact ifT (by simpa using g5) ⟨_,rfl,(Z7 eX g5).symm⟩
 rw[DC g5]at eX;refine ifF (by simp[g5]) ?_;refine Aq (fun i x=>x=(i:Int)/\GV (fun i=>wE N (c.g i)) i=0) c.n _ (by omega) ⟨rfl,rfl⟩ ?_;rintro s i x hle ⟨rfl,t⟩ hs;by_cases d:i<c.n
 .refine Ax (Ab ?_);rw[Cl2];refine B4 (Ak7 (by omega) (hc i d)).1 ?_;have eS:GV (fun i=>wE N (c.g i)) (i+1)=wE N (c.g i):=Ht t;by_cases g6:wE N (c.g i)=0
  .exact ifF (by simp[g6]) (hs d _ ⟨Cl,by rw[eS];exact g6⟩)
  have e7:csE N c=wE N (c.g i):=by unfold csE;rw[EX (i:=i+1) (by rw[eS];exact g6) c.n d,eS]
  rw[HY (by rw[e7];exact g6),e7]at eX;exact ifT (by simpa using g6) ⟨_,rfl,(Z7 eX g6).symm⟩
 obtain rfl:i=c.n:=by omega
 refine Ci ?_;have g7:csE N c=0:=t;rw[DC g7]at eX;by_cases g8:c.n=0
 .rw[Il g8]at eX;exact ifT (by simp[g8]) ⟨_,rfl,(Z7 eX (by decide)).symm⟩
 rw[Ix g8]at eX;obtain⟨X,x1,x2⟩:=Ak9 j m b (-1);refine Bm (B4 x1 ?_);obtain⟨r,r1,r2⟩:=BJ8 j m (Bb9 (by omega) hc g1 g2 g3 g7) x2;exact⟨r,r1,by rw[r2];unfold Bj9;rw[Il eX]⟩
def By1 (j:3000000<=N){h:A5}(l:I6 h){e:Entry}(u:S3 (Hx e)){c:Sl (Sl To)}(hc:∀i,i<c.n->okA (c.g i)):FI N h e c=some (Bj9 N h e c):=by
 refine eqR ?_;unfold FI;rw[Qj j l];by_cases g1:hres N h=0
 case neg=>exact B4 rfl (ifT (by simpa using g1) ⟨_,rfl,(Z7 (Il g1) g1).symm⟩)
 have b:=hres_zero.1 g1;have y:=Cq b.tree;refine B4 rfl (ifF (by simp[g1]) ?_);by_cases g2:256<c.n
 .exact Ax ⟨_,rfl,(Z7 (by unfold Ab6;rw[Ix (fun f=>f g1),Il g2]) (by decide)).symm⟩
 refine Bm (B4 (Gk j l.tree b.tree).2 ?_);have eX:Ab6 N h e c=orE (e2 (Hx e) (F7 h.Tree h.Tree.n).n 0) (orE (e15 (Hx e) 0) (orE (wsE N e.Forms) (orE (csE N c) (if c.n=0 then 5 else 0)))):=by unfold Ab6;rw[Ix (fun f=>f g1),Ix g2]
 dsimp only;by_cases g3:e2 (Hx e) (F7 h.Tree h.Tree.n).n 0=0
 case neg=>
  have g3' : e2 (Hx e) (F7 h.Tree h.Tree.n).n 0=2:=by
   by_cases f:((Hx e).g 0).Forms.n≠(F7 h.Tree h.Tree.n).n \/ emp ((Hx e).g 0).Forms
   .exact Bw9 f
   exact Kh (Bb1 f) g3
  rw[HY g3,g3']at eX;refine Bb6 true (ifT rfl ⟨_,rfl,(Z7 eX (by decide)).symm⟩) fun K d=>?_;by_cases f:e.Forms.n=(F7 h.Tree h.Tree.n).n
  .refine ifF (by simp[f]) (B4 (Dg (by omega) (by omega)) ?_)
   have:emp e.Forms:=Cn1 fun g=>g3 (Bb1 (i:=0) fun q=>q.elim (fun w=>w f) g)
   rw[Tc this];exact d
  exact Ax d
 rw[DC g3]at eX;have m:e.Forms.n=(F7 h.Tree h.Tree.n).n:=(WG g3).1;have o:¬emp e.Forms:=(WG g3).2;have s:K0 e.Forms:=(u 0 (by show 0<1;omega)).1;have z:e.Gloss.length<1100000:=(u 0 (by show 0<1;omega)).2;refine Bb6 false ?_ fun K d=>ifF (by simp[m]) (B4 (Dg (by omega) (by omega)) (by rw[Tb o];exact d));refine Ck (B4 (GU (by omega) (by omega)) ?_);by_cases g4:Fd e.Gloss=true
 case neg=>have e4:e15 (Hx e) 0=15:=Ix g4;rw[e4,HY (by decide)]at eX;exact ifT (by simpa using g4) ⟨_,rfl,(Z7 eX (by decide)).symm⟩
 have e4:e15 (Hx e) 0=0:=Il g4;rw[e4,DC rfl]at eX;refine ifF (by simp[g4]) (B4 (BA (by omega) (by omega) s).2 ?_);refine N4 (fun i x2 x3=>x3=(i:Int)/\((x2=0/\wsE N e.Forms=0/\GV (fun i=>wE N (c.g i)) i=0) \/ (x2≠0/\Ab6 N h e c=x2))) c.n _ (by omega) ⟨rfl,?_⟩ ?_
 .by_cases g5:wsE N e.Forms=0
  .exact .inl ⟨g5,g5,rfl⟩
  exact .inr ⟨g5,by rw[eX,HY g5]⟩
 rintro v i x2 x3 hle ⟨rfl,hx⟩ hs;rcases hx with⟨rfl,g5,x⟩ | ⟨hx,t⟩
 case inr=>exact ifF (by simp[hx]) (ifT (by simpa using hx) ⟨_,rfl,(Z7 t hx).symm⟩)
 rw[DC g5]at eX;by_cases a:i<c.n
 .refine Ax (Ab ?_);rw[Cl2];refine B4 (Ak7 (by omega) (hc i a)).2 (hs a _ _ ⟨Cl,?_⟩);have eS:GV (fun i=>wE N (c.g i)) (i+1)=wE N (c.g i):=Ht x;by_cases g6:wE N (c.g i)=0
  .exact .inl ⟨g6,g5,by rw[eS];exact g6⟩
  have e7:csE N c=wE N (c.g i):=by unfold csE;rw[EX (i:=i+1) (by rw[eS];exact g6) c.n a,eS]
  exact .inr ⟨g6,by rw[eX,HY (by rw[e7];exact g6),e7]⟩
 obtain rfl:i=c.n:=by omega
 have g7:csE N c=0:=x;rw[DC g7]at eX;refine Ci (Ck ?_);obtain⟨r,r1,r2⟩:=BJ9 j l (Bb9 (by omega) hc g1 g2 g3 g7);refine⟨r,r1,?_⟩;rw[r2];by_cases g8:c.n=0
 .rw[Il g8]at eX⊢;exact (Z7 eX (by decide)).symm
 rw[Ix g8]at eX⊢;unfold Bj9;rw[Il eX]
def XW (l:3000000<=N)(hw:E1 N=some true){h:A5}(q:I6 h){e:Entry}(s:S3 (Hx e)){c:Sl (Sl To)}(hc:∀i,i<c.n->okA (c.g i)):Cc N h e c=some true:=by
 refine eqR ?_;unfold Cc;obtain⟨b,b1,_⟩:=HZ l h;obtain⟨d,d1,_⟩:=Ia l (Sl.nil:Sl E6) (Sl.of [e]:Sl Entry);refine B4 b1 (ltX ?_);have j:∀z:Bool,(z=false->c.n<=400)->∃r,(if z then (E1 N ).bind fun y4=>some y4 else
  T9 N (fun a (x2:Int)=>
   if (decide (x2<(c.n:Int))) then
    if ((0:Int)<=x2/\x2<(c.n:Int))then
     if (decide (100<((c.g x2.toNat).n:Int))) then
      (E1 N ).bind fun y7=>
      some y7
     else
      a (wrap .i64 (x2+1))
    else none
   else
    (Ap N h e c).bind fun y8=>
    (FI N h e c).bind fun y9=>
    lt (fun (z2:Bool)=>
     some z2
     ) fun k2=>
     if (y8.1==y9.1) then
      if (y8.2.1==y9.2.1) then
       if (y8.2.2==y9.2.2) then
        (E1 N ).bind fun m=>
        k2 m
       else
        k2 false
      else
       k2 false
     else
      k2 false
   ) 0)=some r/\r=true:=fun z hn=>by
  cases z
  case true=>exact ifT rfl (B4 hw ⟨_,rfl,rfl⟩)
  have hn:=hn rfl;refine Ck ?_;refine Aq (fun i x=>x=(i:Int)) c.n _ (by omega) rfl ?_;rintro t i x hle rfl hs;by_cases o:i<c.n
  .refine Ax (Ab ?_);by_cases u:(decide (100<((c.g (i:Int).toNat).n:Int)))=true
   .exact ifT u (B4 hw ⟨_,rfl,rfl⟩)
   exact ifF u (hs o _ (Cl))
  exact Bm (B4 (By0 l q s hc) (B4 (By1 l q s hc) (ltX (Ay (Ay (Ay (B4 hw ⟨_,rfl,rfl⟩)))))))
 by_cases g1:(!b)=true
 .exact ifT g1 (j _ fun f=>by cases f)
 refine ifF g1 (B4 d1 ?_);by_cases g2:(!d)=true
 .exact ifT g2 (j _ fun f=>by cases f)
 refine ifF g2 ?_;by_cases g3:(decide (6<(c.n:Int)))=true
 .refine ifT g3 ?_;by_cases g4:(decide ((c.n:Int)<=256))=true
  .exact ifT g4 (j _ fun f=>by cases f)
  exact ifF g4 (j _ fun f=>by simp at f;omega)
 exact ifF g3 (j _ fun f=>by simp at f;omega)
end Go.AM
namespace Go.AM
def By2 {x:Entry}(h:At8 x)(hs:Ar x<=1048576):S3 (Hx x):=fun i a=>by have e:Ar x=(x.Gloss.length+1)+(EK (fun i'=>Gp (x.Forms.g i')) x.Forms.n+1)+1:=rfl;obtain rfl:i=0:=Nat.lt_one_iff.1 a;exact⟨Ep h.2,show x.Gloss.length<1100000 by omega⟩
end Go.AM
namespace Go.AM
open Go.RowKit Go.ChangeShapes Go.WideShapes Go.ChangeAt Go.Deep Go.Proofs Go.Proofs.YtlbooedblpdmaaaGreatDoor
namespace AtBests
set_option maxRecDepth 100000
def contract (H:Type)(enc:TypeId×Value->H)(W:World)(base:Nat)(args:Array Value)(ds gs:List (DataW H))(before:List MemPlace)
 (a:∀(j:Nat) t v,Tryz.f5.params[j]? = some t->args[j]? = some v->Value.okWide Tryz.prog W .any base t v)
 (w:DataW.Whole enc Tryz.prog Tryz.f5.params.toList Rows.attestBestsSpec.vars false W args.toList ds gs before) (hk:Rows.uptoSmall H (ds++gs)=true) (hL:laidMetH Tryz.prog Rows.attestBestsUptoRow.laid W) :
 Calls Tryz.prog 5 args W fun e W'=>∃v,e=.returned v/\Rows.attestBestsSpec.post enc Tryz.prog Tryz.f5 false true false false W args v W':=by
 have f:=w;obtain⟨p,q,l,y,rfl,z,a0⟩:=w;have x:DataW.TrodAll enc Tryz.prog W 0 (fun _=>true) true Tryz.f5.params.toList args.toList ds p:=l;rw[CY0]at x a;obtain⟨v0,vs0,d0,ds0,p0,q0,m,rfl,rfl,h0,r0⟩:=trodAll_cons x;obtain⟨v1,vs1,d1,ds1,p1,q1,rfl,rfl,rfl,h1,r1⟩:=trodAll_cons r0;obtain⟨v2,vs2,d2,ds2,p2,q2,rfl,rfl,rfl,h2,r2⟩:=trodAll_cons r1;obtain⟨rfl,rfl,rfl⟩:=trodAll_nil r2;obtain rfl:args = #[v0,v1,v2]:=by cases args;simp_all
 obtain⟨rfl,rfl⟩:=trodVars_none y;have hb:=of_decide_eq_true hk;simp only[Cn0,Rows.uptoBulkAll]at hb;obtain⟨cs0,c,_⟩:=okWide_struct Cy7 (a 0 26 v0 rfl rfl);obtain⟨cs1,d,_⟩:=okWide_struct Tryz.underlying49 (a 1 49 v1 rfl rfl);obtain⟨a2,len2,cap2,o⟩:=okWide_slice Tryz.underlying50 (a 2 50 v2 rfl rfl);obtain⟨fu0,g0⟩:=h0;obtain⟨fu1,g1⟩:=h1;obtain⟨fu2,g2⟩:=h2;have r:SJ Tryz.prog [26,22,112,3,9,23,90,87,72,70,4,85,51,88,142,24,43,49,27,68,50]=true:=by kernel_rfl
 have b:∀t∈([26,22,112,3,9,23,90,87,72,70,4,85,51,88,142,24,43,49,27,68,50]:List Nat),t<Tryz.prog.types.size:=by decide +kernel
 obtain⟨pv0,c0,sh0⟩:=I1 GG GH r b fu0 26 _ _ (by simp) g0;obtain⟨x0,l0,w0,s0⟩:=Ca _ _ sh0;have s0:AT x0<=Rows.uptoBulk d0:=s0;have e0:=c0.leD l0;rw[c]at e0;have e0:=OL e0;rw[<- c]at e0;obtain⟨pv1,c1,sh1⟩:=I1 GG GH r b fu1 49 _ _ (by simp) g1;obtain⟨x1,l1,w1,s1⟩:=Eo _ _ sh1;have s1:Ar x1<=Rows.uptoBulk d1:=s1;have e1:=c1.leD l1;rw[d]at e1;have e1:=OL e1;rw[<- d]at e1;obtain⟨pv2,c2,sh2⟩:=I1 GG GH r b fu2 50 _ _ (by simp) g2;obtain⟨x2,l2,w2,s2⟩:=H1 Tryz.underlying50 (by kernel_rfl) (H1 CE8 (by kernel_rfl) Gn) _ _ sh2;have s2:(EK (fun i=>EK (fun i=>CO ((x2.g i).g i)) (x2.g i).n+1) x2.n+1)<=Rows.uptoBulk d2:=s2;have e2:=CU (by rw[o];rfl) (c2.leD l2);have hP:FunO (Jw Tryz.prog) Es [.p (.agg (A4 x0)),.p (.agg (B7 x1)),.p (vSl 1 (cL 2 A0) x2)] [] (.p (.bb true)) [] []:=
  Se (BB9 _) Ca4 (XW (N:=4194304) (by omega) Em (Ib w0 (by omega)) (By2 w1 (by omega)) (fun i s=>BP4 (w2 i s)))
 have hc:=Ah (args:=[.agg (A4 x0),.agg (B7 x1),vSl 1 (cL 2 A0) x2]) (enters_of Tryz.func5 (by decide +kernel) rfl) hP (W:=W) (vs:=#[v0,v1,v2]) (OM hL) rfl (fun i s=>by
  match i,s with
  |0,_=>exact e0
  |1,_=>exact e1
  |2,_=>exact e2
  )
 refine hc.mono fun e W' ⟨he,u⟩=>?_;subst he;exact⟨_,rfl,IP rfl (by kernel_rfl) Cs7 (by kernel_rfl) (by rw[CY0];decide +kernel) f rfl u⟩
def own:ownKnob Tryz.prog.godebug=none:=by kernel_rfl
def reads (os:Os){H:Type}(enc:TypeId×Value->H):∃places,DataW.whole enc Tryz.prog ((World.laidAll Tryz.prog os Rows.attestBestsUptoRow.laid).forCall (fun _ _=>0) ⟨#[],#[.agg #[.slice none 0 0,.slice none 0 0,.slice none 0 0],.agg #[.string ⟨#[]⟩,.slice none 0 0],.slice none 0 0],[]⟩).memory Tryz.f5.params.toList Rows.attestBestsSpec.vars false (#[.agg #[.slice none 0 0,.slice none 0 0,.slice none 0 0],.agg #[.string ⟨#[]⟩,.slice none 0 0],.slice none 0 0]:Array Value).toList 16=some ([.agg [.nil,.nil,.nil],.agg [.lit (.string []),.nil],.nil],[],places):=
 ⟨[],by kernel_rfl⟩
def laid_met (os:Os):laidMet Tryz.prog Rows.attestBestsUptoRow.laid ((World.laidAll Tryz.prog os Rows.attestBestsUptoRow.laid).forCall (fun _ _=>0) ⟨#[],#[.agg #[.slice none 0 0,.slice none 0 0,.slice none 0 0],.agg #[.string ⟨#[]⟩,.slice none 0 0],.slice none 0 0],[]⟩).memory:=
 laidMet_laidAll _ (by kernel_rfl) (by kernel_rfl)
def liftedUpto (os:Os)(started:os.Started)(H:Type)(enc:TypeId×Value->H)(F:Stop.Interp) :ReturnsInHanded {} Tryz.checked os 5 .any ((Rows.OpenSpec.upto Rows.attestBestsSpec).preRow enc Tryz.prog Tryz.f5 Rows.attestBestsUptoRow.domain false Rows.attestBestsUptoRow.laid) (((Rows.OpenSpec.upto Rows.attestBestsSpec).at F).post enc Tryz.prog Tryz.f5 false true false false):=by
 obtain⟨places,hx⟩:=reads os enc;refine returnsInHanded_of_row (C:=Tryz.checked) (s:=Rows.OpenSpec.upto Rows.attestBestsSpec) own started (by kernel_rfl) Tryz.func5
  (witness_row_at (enc:=enc) (C:=Tryz.checked) false (World.laidAll Tryz.prog os Rows.attestBestsUptoRow.laid) #[.agg #[.slice none 0 0,.slice none 0 0,.slice none 0 0],.agg #[.string ⟨#[]⟩,.slice none 0 0],.slice none 0 0] (World.laidAll_os _ _ _) (by kernel_rfl) (by kernel_rfl) (by kernel_rfl)
   (Cu2 16 hx (by kernel_rfl) (fun k hk=>by cases hk;kernel_rfl) (by kernel_rfl) (laid_met os))) ?_
 intro W base args ds gs before b c _ a _ hL _ _;exact contract H enc W base args ds gs before b c (a _ rfl) hL
def gA:jA_ Tryz.pinned.checked.prog 5 Tryz.f5 (Rows.OpenSpec.upto Rows.attestBestsSpec).bare Rows.attestBestsUptoRow=true:=by kernel_rfl
def gB:jB_ Tryz.pinned.checked.prog 5 Tryz.f5 (Rows.OpenSpec.upto Rows.attestBestsSpec).bare Rows.attestBestsUptoRow=true:=by kernel_rfl
def gC:jC_ Tryz.pinned.checked.prog 5 Tryz.f5 (Rows.OpenSpec.upto Rows.attestBestsSpec).bare Rows.attestBestsUptoRow=true:=by kernel_rfl
def gD:jD_ Tryz.pinned.checked.prog 5 Tryz.f5 (Rows.OpenSpec.upto Rows.attestBestsSpec).bare Rows.attestBestsUptoRow=true:=by kernel_rfl
def gE:jE_ Tryz.pinned.checked.prog 5 Tryz.f5 (Rows.OpenSpec.upto Rows.attestBestsSpec).bare Rows.attestBestsUptoRow=true:=by kernel_rfl
def gF:jF_ Tryz.pinned.checked.prog 5 Tryz.f5 (Rows.OpenSpec.upto Rows.attestBestsSpec).bare Rows.attestBestsUptoRow=true:=by kernel_rfl
def saidUpto:Rows.AttestBestsUptoSaid:=
 Cu9 5 Tryz.f5 rfl rfl rfl rfl rfl rfl rfl ⟨rfl,rfl,rfl,rfl,rfl⟩ rfl rfl rfl rfl rfl (by kernel_rfl) Tryz.func5 (Gm gA gB gC gD gE gF)
  (of_decide_eq_true (by kernel_rfl)) (by unfold Func.isWrapper;first|(rw[Il (by decide +kernel)];kernel_rfl)|(rw[Ix (by decide +kernel)];exact⟨rfl,rfl⟩))
  (fun os started H enc _ F=>by rw[Cv6];exact liftedUpto os started H enc F)
def plain (f:FuncId)(fn:Func)(b:Tryz.pinned.checked.prog.funcNamed "ablaut/ablautlaw26.AttestBests" = some f)(a:Tryz.pinned.checked.prog.funcs[f]? = some fn) :true=Tryz.pinned.checked.prog.looks []/\∀(j:Nat) t,fn.params[j]? = some t->Tryz.pinned.checked.prog.wantsStandIn t=false:=by
 obtain rfl:f=5:=Cm3 ((show Tryz.prog.funcNamed "ablaut/ablautlaw26.AttestBests" = some 5 by kernel_rfl).symm.trans b) |>.symm;obtain rfl:fn=Tryz.f5:=(Cm3 (Tryz.func5.symm.trans a)).symm;refine⟨by kernel_rfl,fun j t ht=>?_⟩;rw[CY0]at ht;have hm:=Ct1 ht;simp only[Cz7,Co1,CA4,or_false]at hm;rcases hm with rfl|rfl|rfl
 .exact (show Tryz.prog.wantsStandIn 26=false by kernel_rfl)
 .exact (show Tryz.prog.wantsStandIn 49=false by kernel_rfl)
 exact (show Tryz.prog.wantsStandIn 50=false by kernel_rfl)
def cardUpto:Rows.AttestBestsUptoCardSaid:=
 Cr7 .later [] _ _ _ _ saidUpto (fun _ h=>by cases h) (by kernel_rfl) (fun _ h=>by cases h) attestBestsUpto_row_tie rfl ⟨rfl,rfl⟩ (by kernel_rfl) rfl plain (by kernel_rfl)
end AtBests
end Go.AM
