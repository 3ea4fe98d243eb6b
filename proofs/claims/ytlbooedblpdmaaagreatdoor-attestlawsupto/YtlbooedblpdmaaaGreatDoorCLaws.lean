/- What a law's walk and its plain proof need, part 13: no condition of its own. -/
import Derived.Test.YtlbooedblpdmaaaGreatDoorAJ
import Derived.Test.YtlbooedblpdmaaaGreatDoorAH
import Derived.Test.YtlbooedblpdmaaaGreatDoorAI
import Derived.Test.YtlbooedblpdmaaaGreatDoorAK
import Derived.Lay
set_option linter.defProp false
set_option linter.unusedSimpArgs false
set_option linter.unusedVariables false
set_option linter.unusedSectionVars false
namespace Go.AM
def Cr9:=@Go.Claim7.holds_tied_plain_at
def Ct7:=@Go.Proofs.Tryz.underlying28
def Cu4:=@Go.OpenSpec.preRow_of_cond
def Cv1:=@Go.OpenClaim.holds_of_cond
def Cv8:=@Go.OpenClaim.pre_eq_preRow
def Cz9:=@List.mem_toArray
def CA6:=@List.not_mem_nil
def CN4:=@Go.Proofs.Tryz.func114
def CN7:=@Go.Proofs.Tryz.func115
def CO0:=@Go.Proofs.Tryz.func117
def CO3:=@Go.Proofs.Tryz.func118
def CO6:=@Go.Proofs.Tryz.func119
def CO9:=@Go.Proofs.Tryz.func120
def CP2:=@Go.Proofs.Tryz.func136
def CP5:=@Go.Proofs.Tryz.func137
def CP8:=@Go.Proofs.Tryz.func138
def CQ1:=@Go.Proofs.Tryz.func139
def CQ4:=@Go.Proofs.Tryz.func141
def CQ7:=@Go.Proofs.Tryz.func154
def CR0:=@Go.Proofs.Tryz.func155
def CR3:=@Go.Proofs.Tryz.func163
def CR6:=@Go.Proofs.Tryz.func164
def CR9:=@Go.Proofs.Tryz.func165
def CS2:=@Go.Proofs.Tryz.func166
def CS5:=@Go.Proofs.Tryz.func171
def CS8:=@Go.Proofs.Tryz.func172
def CT1:=@Go.Proofs.Tryz.func173
def CT4:=@Go.Proofs.Tryz.func180
def CT7:=@Go.Proofs.Tryz.func181
def CU0:=@Go.Proofs.Tryz.func182
def CU3:=@Go.Proofs.Tryz.func183
def CU6:=@Go.Proofs.Tryz.func184
def CU9:=@Go.Proofs.Tryz.func192
def CV2:=@Go.Proofs.Tryz.func193
def CV5:=@Go.Proofs.Tryz.func194
def CV8:=@Go.Proofs.Tryz.func195
def CW1:=@Go.Proofs.Tryz.func203
def CW4:=@Go.Proofs.Tryz.func204
def CW7:=@Go.Proofs.Tryz.func205
def CX0:=@Go.Proofs.Tryz.func206
def CX3:=@Go.Proofs.Tryz.func207
def CX6:=@Go.Proofs.Tryz.func208
def CY2:=@Go.Proofs.Tryz.params4
def CY9:=@Go.Proofs.Tryz.func51
def CZ2:=@Go.Proofs.Tryz.func52
def CZ5:=@Go.Proofs.Tryz.func57
def CZ8:=@Go.Proofs.Tryz.func58
def Da1:=@Go.Proofs.Tryz.func59
def Da4:=@Go.Proofs.Tryz.func60
def Da7:=@Go.Proofs.Tryz.func61
def Db0:=@Go.Proofs.Tryz.func62
def Db3:=@Go.Proofs.Tryz.func84
def Db6:=@Go.Proofs.Tryz.func85
def Db9:=@Go.Proofs.Tryz.func89
def Dc2:=@Go.Proofs.Tryz.func90
def Dc5:=@Go.Proofs.Tryz.func91
def Dc8:=@Go.Proofs.Tryz.func92
def Dd1:=@Go.Proofs.Tryz.func93
def Dd4:=@Go.Proofs.Tryz.func94
open Go.Proofs
abbrev Fl:Nat:=4
abbrev Mb:Nat:=22
abbrev Yb:Nat:=25
abbrev Iz:Nat:=51
def Sg:Cl1[Iz]? = some Tryz.f51:=CY9
abbrev IA:Nat:=52
def Sh:Cl1[IA]? = some Tryz.f52:=CZ2
abbrev Mc:Nat:=57
def Yc:Cl1[Mc]? = some Tryz.f57:=CZ5
abbrev Ki:Nat:=58
def Ut:Cl1[Ki]? = some Tryz.f58:=CZ8
abbrev Md:Nat:=59
def Yd:Cl1[Md]? = some Tryz.f59:=Da1
abbrev NS:Nat:=60
def Ab7:Cl1[NS]? = some Tryz.f60:=Da4
abbrev Me:Nat:=61
def Ye:Cl1[Me]? = some Tryz.f61:=Da7
abbrev Mf:Nat:=62
def Yf:Cl1[Mf]? = some Tryz.f62:=Db0
abbrev Kj:Nat:=84
def Uu:Cl1[Kj]? = some Tryz.f84:=Db3
abbrev NT:Nat:=85
def Ab8:Cl1[NT]? = some Tryz.f85:=Db6
abbrev Mg:Nat:=89
def Yg:Cl1[Mg]? = some Tryz.f89:=Db9
abbrev Mh:Nat:=90
def Yh:Cl1[Mh]? = some Tryz.f90:=Dc2
abbrev EF:Nat:=91
def Ab9:Cl1[EF]? = some Tryz.f91:=Dc5
abbrev Hf:Nat:=92
def QI:Cl1[Hf]? = some Tryz.f92:=Dc8
abbrev Kk:Nat:=93
def Uv:Cl1[Kk]? = some Tryz.f93:=Dd1
abbrev Mi:Nat:=94
def Yi:Cl1[Mi]? = some Tryz.f94:=Dd4
abbrev Mj:Nat:=114
def Yj:Cl1[Mj]? = some Tryz.f114:=CN4
abbrev NU:Nat:=115
def Ac0:Cl1[NU]? = some Tryz.f115:=CN7
abbrev NV:Nat:=117
def Ac1:Cl1[NV]? = some Tryz.f117:=CO0
abbrev Mk:Nat:=118
def Yk:Cl1[Mk]? = some Tryz.f118:=CO3
abbrev Ml:Nat:=119
def Yl:Cl1[Ml]? = some Tryz.f119:=CO6
abbrev NW:Nat:=120
def Ac2:Cl1[NW]? = some Tryz.f120:=CO9
abbrev Mm:Nat:=136
def Ym:Cl1[Mm]? = some Tryz.f136:=CP2
abbrev NX:Nat:=137
def Ac3:Cl1[NX]? = some Tryz.f137:=CP5
abbrev Mn:Nat:=138
def Yn:Cl1[Mn]? = some Tryz.f138:=CP8
abbrev NY:Nat:=139
def Ac4:Cl1[NY]? = some Tryz.f139:=CQ1
abbrev EG:Nat:=141
def Ac5:Cl1[EG]? = some Tryz.f141:=CQ4
abbrev Mo:Nat:=154
def Yo:Cl1[Mo]? = some Tryz.f154:=CQ7
abbrev NZ:Nat:=155
def Ac6:Cl1[NZ]? = some Tryz.f155:=CR0
abbrev Mp:Nat:=163
def Yp:Cl1[Mp]? = some Tryz.f163:=CR3
abbrev QJ:Nat:=164
def Au8:Cl1[QJ]? = some Tryz.f164:=CR6
abbrev Mq:Nat:=165
def Yq:Cl1[Mq]? = some Tryz.f165:=CR9
abbrev Oa:Nat:=166
def Ac7:Cl1[Oa]? = some Tryz.f166:=CS2
abbrev QK:Nat:=171
def Au9:Cl1[QK]? = some Tryz.f171:=CS5
abbrev QL:Nat:=172
def Av0:Cl1[QL]? = some Tryz.f172:=CS8
abbrev IB:Nat:=173
def Si:Cl1[IB]? = some Tryz.f173:=CT1
abbrev Gx:Nat:=180
def OV:Cl1[Gx]? = some Tryz.f180:=CT4
abbrev Kl:Nat:=181
def Uw:Cl1[Kl]? = some Tryz.f181:=CT7
abbrev Ob:Nat:=182
def Ac8:Cl1[Ob]? = some Tryz.f182:=CU0
abbrev Km:Nat:=183
def Ux:Cl1[Km]? = some Tryz.f183:=CU3
abbrev Oc:Nat:=184
def Ac9:Cl1[Oc]? = some Tryz.f184:=CU6
abbrev QM:Nat:=192
def Av1:Cl1[QM]? = some Tryz.f192:=CU9
abbrev Od:Nat:=193
def Ad0:Cl1[Od]? = some Tryz.f193:=CV2
abbrev DM:Nat:=194
def Yr:Cl1[DM]? = some Tryz.f194:=CV5
abbrev QN:Nat:=195
def Av2:Cl1[QN]? = some Tryz.f195:=CV8
abbrev IC:Nat:=203
def Sj:Cl1[IC]? = some Tryz.f203:=CW1
abbrev Gy:Nat:=204
def OW:Cl1[Gy]? = some Tryz.f204:=CW4
abbrev Oe:Nat:=205
def Ad1:Cl1[Oe]? = some Tryz.f205:=CW7
abbrev Kn:Nat:=206
def Uy:Cl1[Kn]? = some Tryz.f206:=CX0
abbrev Og:Nat:=207
def Ad2:Cl1[Og]? = some Tryz.f207:=CX3
abbrev Mr:Nat:=208
def Ys:Cl1[Mr]? = some Tryz.f208:=CX6
abbrev D5:Nat:=225
end Go.AM
namespace Go.AM
variable {N:Nat}
open IntKind (wrap)
open Go.Proofs
set_option maxRecDepth 10000
set_option maxHeartbeats 2000000
variable {S:W1}(hS:H9 S Tryz.prog) (hL:GD S)
include hS hL
theorem O5 {b:To}{y:Bool}(h:I3 N b=some y) :FunO S Ml [.p (.agg (A0 b))] [] (pB y) ([]) []:=by
 unfold I3 at h;refine A1 hS Yl ?_;refine E2 hS T3 h (fun x1=>⟨[(3,pN x1),(1,.reg 2000 0)],[(2000,.cells [pU b.Plus,pU b.Minus])]⟩) (ids:=[(2000,2000)]) (fun _ _ _ _ _ c x1 d h=>?_);apply kI hS h<;>intro h
 .obtain⟨c7,h⟩:=C7 h;refine kB hS (A2 hS) c7 T3 12 (.o (.n (.a ((E9 .and .u32 (shI .shr .u32 b.Plus x1) 1)==1)) (.a ((E9 .and .u32 (shI .shr .u32 b.Minus x1) 1)==1))) (.n (.o (.a ((E9 .and .u32 (shI .shr .u32 b.Plus x1) 1)==1)) (.a ((E9 .and .u32 (shI .shr .u32 b.Minus x1) 1)==1))) (.a (decide (24<=x1))))) ?_;apply kI hS h<;>intro h
  .cases h;exact kR hS
  exact d _ [(2000,2000)] _ (wrap .i64 (x1+1)) T3 h
 cases h;exact kR hS
theorem Sk {b:Int}{y:Bool}(h:X0 N b=some y) :FunO S IC [pN b] [] (pB y) ([]) []:=by unfold X0 at h;refine A1 hS Sj ?_;refine kB hS (A2 hS) T3 T3 3 (.n (.a (decide (0<=b))) (.a (decide (b<24)))) ?_;cases h;exact kR hS
theorem Au {a:To}{c:Int}{y:Int}(h:V5 N a c=some y) :FunO S QM [.p (.agg (A0 a)),pN c] [] (pN y) ([]) []:=by
 unfold V5 at h;refine A1 hS Av1 ?_;refine kC hS h (O5 hS hL) (fun y1 h=>?_);refine Ai hS T3 (A2 hS) h 0 (fun z1=>⟨[(12,pB z1),(2,.reg 3000 0),(1,pN c)],[(3000,.cells [pU a.Plus,pU a.Minus])]⟩) (fun M1 k1 d h=>?_) (fun z1 h=>?_)
 .refine kG hS h (fun h=>?_) (fun h=>?_)
  .exact d _ [(3000,3000)] _ true T3 h
  refine kC hS h (Sk hS hL) (fun y3 h=>?_);exact d _ [(3000,3000)] _ (!y3) T3 h
 apply kI hS h<;>intro h
 .cases h;exact kR hS
 obtain⟨c5,h⟩:=C7 h;refine D1 hS c5 (b:=(E9 .and .u32 (shI .shr .u32 a.Plus c) 1)==1) (fun c6=>?_) (fun c6=>?_)
 .replace h:=itT c6 h;cases h;exact kR hS
 replace h:=itF c6 h;obtain⟨c7,h⟩:=C7 h;refine D1 hS c7 (b:=(E9 .and .u32 (shI .shr .u32 a.Minus c) 1)==1) (fun c8=>?_) (fun c8=>?_)
 .replace h:=itT c8 h;cases h;exact kR hS
 replace h:=itF c8 h;cases h;exact kR hS
theorem FB {c:To}{d:Int}{a:Int}{y:To}(h:Az N c d a=some y) :FunO S QN [.p (.agg (A0 c)),pN d,pN a] [] (.p (.agg (A0 y))) ([]) []:=by
 unfold Az at h;refine A1 hS Av2 ?_;obtain⟨c1,h⟩:=C7 h;refine D1 hS c1 (b:=a==1) (fun c2=>?_) (fun c2=>?_)
 .replace h:=itT c2 h;apply kI hS h<;>intro h
  .cases h;exact kR hS
  cases h;exact kR hS
 replace h:=itF c2 h;apply kI hS h<;>intro h
 .cases h;exact kR hS
 cases h;exact kR hS
theorem OX {b:To}{a:To}{y:Bool}(h:J3 N b a=some y) :FunO S Gx [.p (.agg (A0 b)),.p (.agg (A0 a))] [] (pB y) ([]) []:=by
 unfold J3 at h;refine A1 hS OV ?_;refine kC hS h (O5 hS hL) (fun y1 h=>?_);refine Ai hS T3 (A2 hS) h 0 (fun z1=>⟨[(14,pB z1),(3,.reg 4000 0),(2,.reg 3000 0)],[(4000,.cells [pU a.Plus,pU a.Minus]),(3000,.cells [pU b.Plus,pU b.Minus])]⟩) (fun M1 k1 c h=>?_) (fun z1 h=>?_)
 .refine kG hS h (fun h=>?_) (fun h=>?_)
  .exact c _ [(3000,3000),(4000,4000)] _ true T3 h
  refine kC hS h (O5 hS hL) (fun y3 h=>?_);exact c _ [(3000,3000),(4000,4000)] _ (!y3) T3 h
 apply kI hS h<;>intro h
 .cases h;exact kR hS
 refine E2 hS T3 h (fun x3=>⟨[(5,pN x3),(3,.reg 4000 0),(2,.reg 3000 0)],[(4000,.cells [pU a.Plus,pU a.Minus]),(3000,.cells [pU b.Plus,pU b.Minus])]⟩) (ids:=[(3000,3000),(4000,4000)]) (fun _ _ _ _ _ f x3 g h=>?_);apply kI hS h<;>intro h
 .refine kC hS h (Au hS hL) (fun i h=>?_);refine Ai hS T3 (A2 hS) h 0 (fun z4=>⟨[(30,pB z4),(5,pN x3),(3,.reg 4000 0),(2,.reg 3000 0)],[(4000,.cells [pU a.Plus,pU a.Minus]),(3000,.cells [pU b.Plus,pU b.Minus])]⟩) (fun M4 k4 d h=>?_) (fun z4 h=>?_)
  .refine kG hS h (fun h=>?_) (fun h=>?_)
   .refine kC hS h (Au hS hL) (fun j h=>?_);exact d _ [(3000,3000),(4000,4000)] _ (j != i) T3 h
   exact d _ [(3000,3000),(4000,4000)] _ false T3 h
  apply kI hS h<;>intro h
  .cases h;exact kR hS
  exact g _ [(3000,3000),(4000,4000)] _ (wrap .i64 (x3+1)) T3 h
 cases h;exact kR hS
theorem Uz {f:To}{c:Int}{d:To}{y:To×Int}(h:N1 N f c d=some y) :FunO S Km [.p (.agg (A0 f)),pU c,.p (.agg (A0 d))] [] (.tup [.p (.agg (A0 y.1)),pN y.2]) ([]) []:=by
 unfold N1 at h;refine A1 hS Ux ?_;refine D8 hS T3 5 4000 [pI .u32 f.Plus,pI .u32 f.Minus] ?_;refine D8 hS T3 6 6000 [pI .u32 d.Plus,pI .u32 d.Minus] ?_;obtain⟨y1,e1,h⟩:=B1 h;refine B6 hS [] (by decide:(2:Nat)<=2) (O5 hS hL e1) ?_;refine Ai hS T3 (A2 hS) h 0 (fun z1=>⟨[(17,pB z1),(6,.reg 7000 0),(5,.p (.ptr [pI .u32 d.Plus,pI .u32 d.Minus])),(3,.p (.ptr [pI .u32 f.Plus,pI .u32 f.Minus])),(1,pU c)],[(7000,.cells [pU 0,pU 0])]⟩) (fun M1 k1 i h=>?_) (fun z1 h=>?_)
 .refine kG hS h (fun h=>?_) (fun h=>?_)
  .exact i _ [(7000,7000)] _ true T3 h
  obtain⟨y3,e3,h⟩:=B1 h;refine B6 hS [] (by decide:(2:Nat)<=2) (O5 hS hL e3) ?_;exact i _ [(7000,7000)] _ (!y3) T3 h
 apply kI hS h<;>intro h
 .cases h;exact kR hS
 refine kB hS (A2 hS) T3 T3 9 (.o (.a (decide (16777215<c))) (.a ((E9 .and .u32 c (E9 .or .u32 d.Plus d.Minus)) != 0))) ?_;apply kI hS h<;>intro h
 .cases h;exact kR hS
 refine Cv hS (by decide:(2:Nat)<=2) h (fun x2 x3 x4=>⟨[(9,pN x4),(8,.reg 9000 0),(6,.reg 7000 0),(5,.p (.ptr [pI .u32 d.Plus,pI .u32 d.Minus])),(1,pU c)],[(9000,.cells [pU x2,pU x3]),(7000,.cells [pU 0,pU 0])]⟩) (ids:=[(7000,7000),(9000,9000)]) (fun _ _ _ _ _ n x2 x3 x4 g h=>?_);apply kI hS h<;>intro h
 .obtain⟨c16,h⟩:=C7 h;refine D1 hS c16 (b:=(E9 .and .u32 (shI .shr .u32 c x4) 1)==1) (fun c17=>?_) (fun c17=>?_)
  .replace h:=itT c17 h;refine kC hS h (FB hS hL) (fun j h=>?_);obtain⟨q,e19,h⟩:=B1 h;refine B6 hS [] (by decide:(2:Nat)<=2) (Au hS hL e19) ?_;apply kI hS h<;>intro h
   .refine C5 hS T3 [2,4,5] ?_;obtain⟨r,e20,h⟩:=B1 h;refine F8 (by decide:(2:Nat)<=2) (Au hS hL e20) ?_;obtain⟨l,e21,h⟩:=B1 h;refine F8 T3 (FB hS hL e21) ?_;refine D9 T3 ?_;exact g _ [(7000,7000),(9000,9000)] _ l.Plus l.Minus (wrap .i64 (x4+1)) T3 h
   exact g _ [(7000,7000),(9000,9000)] _ j.Plus j.Minus (wrap .i64 (x4+1)) T3 h
  replace h:=itF c17 h;obtain⟨s,e22,h⟩:=B1 h;refine B6 hS [] (by decide:(2:Nat)<=2) (Au hS hL e22) ?_;apply kI hS h<;>intro h
  .refine C5 hS T3 [2,4,5] ?_;obtain⟨t,e23,h⟩:=B1 h;refine F8 (by decide:(2:Nat)<=2) (Au hS hL e23) ?_;obtain⟨m,e24,h⟩:=B1 h;refine F8 T3 (FB hS hL e24) ?_;refine D9 T3 ?_;exact g _ [(7000,7000),(9000,9000)] _ m.Plus m.Minus (wrap .i64 (x4+1)) T3 h
  exact g _ [(7000,7000),(9000,9000)] _ x2 x3 (wrap .i64 (x4+1)) T3 h
 cases h;exact kR hS
theorem Ad3 {d:To}{a:To}{c:Int}{y:To×Int}(h:U8 N d a c=some y) :FunO S Oc [.p (.agg (A0 d)),.p (.agg (A0 a)),pU c] [] (.tup [.p (.agg (A0 y.1)),pN y.2]) ([]) []:=by
 unfold U8 at h;refine A1 hS Ac9 ?_;refine D8 hS T3 4 4000 [pI .u32 d.Plus,pI .u32 d.Minus] ?_;refine D8 hS T3 6 5000 [pI .u32 a.Plus,pI .u32 a.Minus] ?_;obtain⟨y1,e1,h⟩:=B1 h;refine B6 hS [] (by decide:(2:Nat)<=2) (O5 hS hL e1) ?_;refine Ai hS T3 (A2 hS) h 0 (fun z1=>⟨[(17,pB z1),(6,.reg 7000 0),(4,.p (.ptr [pI .u32 a.Plus,pI .u32 a.Minus])),(3,.p (.ptr [pI .u32 d.Plus,pI .u32 d.Minus])),(2,pU c)],[(7000,.cells [pU 0,pU 0])]⟩) (fun M1 k1 f h=>?_) (fun z1 h=>?_)
 .refine kG hS h (fun h=>?_) (fun h=>?_)
  .exact f _ [(7000,7000)] _ true T3 h
  obtain⟨y3,e3,h⟩:=B1 h;refine B6 hS [] (by decide:(2:Nat)<=2) (O5 hS hL e3) ?_;exact f _ [(7000,7000)] _ (!y3) T3 h
 apply kI hS h<;>intro h
 .cases h;exact kR hS
 apply kI hS h<;>intro h
 .cases h;exact kR hS
 refine Cv hS (by decide:(2:Nat)<=2) h (fun x2 x3 x4=>⟨[(9,pN x4),(8,.reg 9000 0),(6,.reg 7000 0),(4,.p (.ptr [pI .u32 a.Plus,pI .u32 a.Minus])),(2,pU c)],[(9000,.cells [pU x2,pU x3]),(7000,.cells [pU 0,pU 0])]⟩) (ids:=[(7000,7000),(9000,9000)]) (fun _ _ _ _ _ i x2 x3 x4 g h=>?_);apply kI hS h<;>intro h
 .obtain⟨c12,h⟩:=C7 h;refine D1 hS c12 (b:=(E9 .and .u32 (shI .shr .u32 c x4) 1)==1) (fun c13=>?_) (fun c13=>?_)
  .replace h:=itT c13 h;refine C5 hS T3 [2,4,5] ?_;obtain⟨y8,e8,h⟩:=B1 h;refine F8 (by decide:(2:Nat)<=2) (Au hS hL e8) ?_;obtain⟨y9,e9,h⟩:=B1 h;refine F8 T3 (FB hS hL e9) ?_;refine D9 T3 ?_;exact g _ [(7000,7000),(9000,9000)] _ y9.Plus y9.Minus (wrap .i64 (x4+1)) T3 h
  replace h:=itF c13 h;exact g _ [(7000,7000),(9000,9000)] _ x2 x3 (wrap .i64 (x4+1)) T3 h
 cases h;exact kR hS
theorem Ms {b:To}{y:Bool}(h:O1 N b=some y) :FunO S Mi [.p (.agg (A0 b))] [] (pB y) ([]) []:=by unfold O1 at h;refine A1 hS Yi ?_;refine kB hS (A2 hS) T3 T3 9 (.n (.n (.a ((E9 .and .u32 b.Plus b.Minus)==0)) (.a (decide (b.Plus<16777216)))) (.a (decide (b.Minus<16777216)))) ?_;cases h;exact kR hS
theorem DN {a:Sl To}{y:Int}(h:P5 N a=some y) :FunO S Mf [.p (vSl 2 A0 a)] [] (pN y) ([]) []:=by
 unfold P5 at h;refine A1 hS Yf ?_;apply kI hS h<;>intro h
 .cases h;exact kR hS
 refine E2 hS T3 h (fun x1=>⟨[(3,pN x1),(0,.p (vSl 2 A0 a))],[]⟩) (ids:=[]) (fun _ _ _ _ _ b x1 c h=>?_);apply kI hS h<;>intro h
 .obtain⟨c9,h⟩:=C7 h;obtain⟨y3,e3,h⟩:=B1 h;refine B6 hS [] (And.intro c9 (by decide:(2:Nat)<=2)) (Ms hS hL e3) ?_;apply kI hS h<;>intro h
  .cases h;exact kR hS
  exact c _ [] _ (wrap .i64 (x1+1)) T3 h
 cases h;exact kR hS
theorem Ad4 {a:Sl To}{y:Sl To}(h:AI N a=some y) :FunO S NX [.p (vSl 2 A0 a)] [] (.vec 0) ([.vec B0 2 y.n (fun i=>A0 (y.g i)) true]) []:=by
 unfold AI at h;refine A1 hS Ac3 ?_;refine D7 hS T3 h (fun x1 x2=>⟨[(4,pN x2),(3,.vec 4500),(0,.p (vSl 2 A0 a))],[(4500,.vec B0 2 x1.n (fun i=>A0 (x1.g i)) false)]⟩) (ids:=[]) (fun _ _ _ _ _ b x1 x2 d h=>?_);apply kI hS h<;>intro h
 .obtain⟨c4,h⟩:=C7 h;exact d _ [(4500,18000)] _ (x1.push (a.g x2.toNat)) (wrap .i64 (x2+1)) (And.intro (And.intro (And.intro c4.1 (by decide:(2:Nat)<=2)) (rfl:true=true)) c4.2) h (hle:=klR [(2,.fn (x1.n+1) (x1.push (a.g x2.toNat)).n (I4 x1.n (fun i=>A0 (x1.g i)) (D0 [pI .u32 0,pI .u32 0] [(0,A0 (a.g x2.toNat))])) (fun i=>A0 ((x1.push (a.g x2.toNat)).g i)))] (al1 ⟨rfl,W3 (c:=A0) (v:=x1) (x:=a.g x2.toNat) (z:=[(pI .u32 0),pI .u32 0]) same rfl rfl⟩ al0))
 obtain rfl:=C0 h;exact A8 hS T3 ⟨[(2,.vec 4500)],[(4500,.vec B0 2 x1.n (fun i=>A0 (x1.g i)) true)]⟩ [4500] (ids:=[(4500,4500)]) ⟨rfl,rfl,rfl⟩
theorem Ad5 {c:Pat}{y:Int}(h:BM N c=some y) :FunO S NZ [.p (.agg (C4 c))] [] (pN y) ([]) []:=by
 unfold BM at h;refine A1 hS Ac6 ?_;refine kB hS (A2 hS) T3 T3 4 (.o (.a (decide (c.Kind<0))) (.a (decide (6<c.Kind)))) ?_;apply kI hS h<;>intro h
 .cases h;exact kR hS
 obtain⟨t1,f⟩:∃x:Bool,x=((c.Kind != 1)&&((((c.Is.Plus==0)&&(c.Is.Minus==0)) != true)||c.Not)):=⟨_,rfl⟩;refine Tm hS T3 (A2 hS) 0 ⟨[(23,pB t1),(1,.reg 2000 0)],[(2000,.cells ((C4 c).map .p))]⟩ (fun M1 l=>?_) ?_
 .refine X9 hS T3 (b:=c.Kind != 1) (fun c4=>?_) (fun c4=>?_)
  .refine X9 hS (by decide +kernel:AJ4 Tryz.prog B0=true) (b:=((c.Is.Plus==0)&&(c.Is.Minus==0)) != true) (fun c5=>?_) (fun c5=>?_)
   .exact l _ [(2000,2000)] _ T3 (hle:=klR [(0,.eq (.bb true) (.bb t1))] (al1 (by simp only[f,c4,c5,Leaf.ok,pm,Rm,Rn]) al0))
   exact l _ [(2000,2000)] _ T3 (hle:=klR [(0,.eq (.bb c.Not) (.bb t1))] (al1 (by simp only[f,c4,c5,Leaf.ok,pm,Rm,Rn]) al0))
  exact l _ [(2000,2000)] _ T3 (hle:=klR [(0,.eq (.bb false) (.bb t1))] (al1 (by simp only[f,c4,Leaf.ok,pm,Rm,Rn]) al0))
 subst f;apply kI hS h<;>intro h
 .cases h;exact kR hS
 refine Ai hS T3 (A2 hS) h 0 (fun z1=>⟨[(42,pB z1),(1,.reg 2000 0)],[(2000,.cells ((C4 c).map .p))]⟩) (fun M2 k1 j h=>?_) (fun z1 h=>?_)
 .refine kG hS h (fun h=>?_) (fun h=>?_)
  .refine kG hS h (fun h=>?_) (fun h=>?_)
   .refine kG hS h (fun h=>?_) (fun h=>?_)
    .refine G9 hS T3 40 ⟨[(39,.p (vSl 7 C4 c.L)),(37,.p (.v (.bool true))),(1,.reg 2000 0)],[(2000,.cells ((C4 c).map .p))]⟩ (ids:=[(2000,2000)]) ?_ (hle:=klR [(0,.fn c.L.n c.L.n (T1 c) (fun i=>C4 (c.L.g i)))] (al1 ⟨rfl,G8 c⟩ al0));exact j _ [(2000,2000)] _ (decide (0<(c.L.n:Int))) T3 h
    exact j _ [(2000,2000)] _ false T3 h
   exact j _ [(2000,2000)] _ false T3 h
  exact j _ [(2000,2000)] _ false T3 h
 apply kI hS h<;>intro h
 .cases h;exact kR hS
 refine kB hS (A2 hS) T3 T3 9 (.n (.a (c.Kind != 5)) (.o (.a (c.Min != 0)) (.a (c.Max != 0)))) ?_;apply kI hS h<;>intro h
 .cases h;exact kR hS
 refine Ai hS T3 (A2 hS) h 0 (fun z2=>⟨[(91,pB z2),(1,.reg 2000 0)],[(2000,.cells ((C4 c).map .p))]⟩) (fun M3 k2 d h=>?_) (fun z2 h=>?_)
 .refine kG hS h (fun h=>?_) (fun h=>?_)
  .refine G9 hS T3 62 ⟨[(61,.p (vSl 7 C4 c.L)),(59,.p (.v (.bool true))),(1,.reg 2000 0)],[(2000,.cells ((C4 c).map .p))]⟩ (ids:=[(2000,2000)]) ?_ (hle:=klR [(0,.fn c.L.n c.L.n (T1 c) (fun i=>C4 (c.L.g i)))] (al1 ⟨rfl,G8 c⟩ al0));refine kG hS h (fun h=>?_) (fun h=>?_)
   .exact d _ [(2000,2000)] _ true T3 h
   refine kG hS h (fun h=>?_) (fun h=>?_)
   .exact d _ [(2000,2000)] _ true T3 h
   refine kG hS h (fun h=>?_) (fun h=>?_)
   .exact d _ [(2000,2000)] _ true T3 h
   refine kG hS h (fun h=>?_) (fun h=>?_)
   .refine kG hS h (fun h=>?_) (fun h=>?_)
    .exact d _ [(2000,2000)] _ true T3 h
    exact d _ [(2000,2000)] _ (decide (32<c.Max)) T3 h
   exact d _ [(2000,2000)] _ false T3 h
  exact d _ [(2000,2000)] _ false T3 h
 apply kI hS h<;>intro h
 .cases h;exact kR hS
 refine kC hS h (Ms hS hL) (fun y1 h=>?_);apply kI hS h<;>intro h
 .cases h;exact kR hS
 cases h;exact kR hS
theorem OY {c:To}{b:To}{y:Bool}(h:V7 N c b=some y) :FunO S Gy [.p (.agg (A0 c)),.p (.agg (A0 b))] [] (pB y) ([]) []:=by unfold V7 at h;refine A1 hS OW ?_;refine kB hS (A2 hS) T3 T3 9 (.n (.a ((E9 .and .u32 c.Plus b.Plus)==b.Plus)) (.a ((E9 .and .u32 c.Minus b.Minus)==b.Minus))) ?_;cases h;exact kR hS
theorem Oh {a:Int}{y:Sl Int}(h:AJ N a=some y) :FunO S Oe [pN a] [] (.vec 0) ([.vec D5 1 y.n (fun i=>cI .u64 (y.g i)) true]) []:=by
 unfold AJ at h;refine A1 hS Ad1 ?_;obtain⟨c1,h⟩:=C7 h;refine D7 hS c1 h (fun x1 x2=>⟨[(4,pN x2),(3,.vec 8000),(0,pN a)],[(8000,.vec D5 1 x1.n (fun i=>cI .u64 (x1.g i)) false)]⟩) (ids:=[(8000,8000)]) (fun _ _ _ _ _ b x1 x2 d h=>?_);apply kI hS h<;>intro h
 .obtain⟨c5,h⟩:=C7 h;exact d _ [(8000,8000)] _ (x1.upd x2.toNat (shI .shl .u64 1 x2)) (wrap .i64 (x2+1)) (And.intro (And.intro c5.1.1 c5.1.2) (And.intro (rfl:(1:Nat)=1) (And.intro c5.2 (by decide:(1:Nat)<=1)))) h (hle:=klR [(2,.fn x1.n (x1.upd x2.toNat (shI .shl .u64 1 x2)).n (fun l=>if l=x2.toNat then splice ((fun i=>cI .u64 (x1.g i)) l) 0 [pI .u64 (shI .shl .u64 1 x2)]else (fun i=>cI .u64 (x1.g i)) l) (fun i=>cI .u64 ((x1.upd x2.toNat (shI .shl .u64 1 x2)).g i)))] (al1 ⟨rfl,QW (c:=cI .u64) (v:=x1) (x:=shI .shl .u64 1 x2) same (fun _=>by first|rfl|(dsimp only;split<;>rfl))⟩ al0))
 obtain rfl:=C0 h;exact A8 hS T3 ⟨[(2,.vec 8000)],[(8000,.vec D5 1 x1.n (fun i=>cI .u64 (x1.g i)) true)]⟩ [8000] (ids:=[(8000,8000)]) ⟨rfl,rfl,rfl⟩
theorem Fm {p_x:Sl Int}{a:Sl Int}{y:Sl Int}(h:Q8 N p_x a=some y) :FunO S Kn [.p (vSl 1 (cI .u64) p_x),.p (vSl 1 (cI .u64) a)] [] (.vec 0) ([.vec D5 1 y.n (fun i=>cI .u64 (y.g i)) true]) []:=by
 unfold Q8 at h;refine A1 hS Uy ?_;obtain⟨c1,h⟩:=C7 h;refine D7 hS c1 h (fun x3 x4=>⟨[(6,pN x4),(5,.vec 11000),(1,.p (vSl 1 (cI .u64) a)),(0,.p (vSl 1 (cI .u64) p_x))],[(11000,.vec D5 1 x3.n (fun i=>cI .u64 (x3.g i)) false)]⟩) (ids:=[(11000,11000)]) (fun _ _ _ _ _ f x3 x4 j h=>?_);apply kI hS h<;>intro h
 .refine D7 hS T3 h (fun x7 x8=>⟨[(7,pN x8),(6,pN x4),(5,.vec 11000),(1,.p (vSl 1 (cI .u64) a)),(0,.p (vSl 1 (cI .u64) p_x))],[(11000,.vec D5 1 x7.n (fun i=>cI .u64 (x7.g i)) false)]⟩) (ids:=[(11000,11000)]) (fun _ _ _ _ _ m x7 x8 d h=>?_);apply kI hS h<;>intro h
  .obtain⟨c38,h⟩:=C7 h;refine D1 hS c38 (b:=(E9 .and .u64 (shI .shr .u64 (p_x.g x4.toNat) x8) 1)==1) (fun c39=>?_) (fun c39=>?_)
   .replace h:=itT c39 h;refine C5 hS T3 [8,9] ?_;obtain⟨c40,h⟩:=C7 h;refine D9 (And.intro (And.intro (And.intro (And.intro c40.1.1.1.1 c40.1.1.1.2) c40.1.1.2) c40.1.2) (And.intro (rfl:(1:Nat)=1) (And.intro c40.2 (by decide:(1:Nat)<=1)))) ?_;exact d _ [(11000,11000)] _ (x7.upd x4.toNat (E9 .or .u64 (x7.g x4.toNat) (a.g x8.toNat))) (wrap .i64 (x8+1)) T3 h (hle:=klR [(4,.fn x7.n (x7.upd x4.toNat (E9 .or .u64 (x7.g x4.toNat) (a.g x8.toNat))).n (fun l=>if l=x4.toNat then splice ((fun i=>cI .u64 (x7.g i)) l) 0 [pI .u64 (E9 .or .u64 (x7.g x4.toNat) (a.g x8.toNat))]else (fun i=>cI .u64 (x7.g i)) l) (fun i=>cI .u64 ((x7.upd x4.toNat (E9 .or .u64 (x7.g x4.toNat) (a.g x8.toNat))).g i)))] (al1 ⟨rfl,QW (c:=cI .u64) (v:=x7) (x:=E9 .or .u64 (x7.g x4.toNat) (a.g x8.toNat)) same (fun _=>by first|rfl|(dsimp only;split<;>rfl))⟩ al0))
   replace h:=itF c39 h;exact d _ [(11000,11000)] _ x7 (wrap .i64 (x8+1)) T3 h
  exact j _ [(11000,11000)] _ x7 (wrap .i64 (x4+1)) T3 h
 obtain rfl:=C0 h;exact A8 hS T3 ⟨[(4,.vec 11000)],[(11000,.vec D5 1 x3.n (fun i=>cI .u64 (x3.g i)) true)]⟩ [11000] (ids:=[(11000,11000)]) ⟨rfl,rfl,rfl⟩
theorem Oi {p_x:Sl Int}{a:Sl Int}{y:Sl Int}(h:AK N p_x a=some y) :FunO S Og [.p (vSl 1 (cI .u64) p_x),.p (vSl 1 (cI .u64) a)] [] (.vec 0) ([.vec D5 1 y.n (fun i=>cI .u64 (y.g i)) true]) []:=by
 unfold AK at h;refine A1 hS Ad2 ?_;obtain⟨c1,h⟩:=C7 h;refine D7 hS c1 h (fun x1 x2=>⟨[(6,pN x2),(5,.vec 10000),(1,.p (vSl 1 (cI .u64) a)),(0,.p (vSl 1 (cI .u64) p_x))],[(10000,.vec D5 1 x1.n (fun i=>cI .u64 (x1.g i)) false)]⟩) (ids:=[(10000,10000)]) (fun _ _ _ _ _ b x1 x2 d h=>?_);apply kI hS h<;>intro h
 .refine C5 hS T3 [4,5,8,9] ?_;obtain⟨c7,h⟩:=C7 h;refine D9 (And.intro (And.intro (And.intro c7.1.1.1 c7.1.1.2) c7.1.2) (And.intro (rfl:(1:Nat)=1) (And.intro c7.2 (by decide:(1:Nat)<=1)))) ?_;exact d _ [(10000,10000)] _ (x1.upd x2.toNat (E9 .or .u64 (p_x.g x2.toNat) (a.g x2.toNat))) (wrap .i64 (x2+1)) T3 h (hle:=klR [(3,.fn x1.n (x1.upd x2.toNat (E9 .or .u64 (p_x.g x2.toNat) (a.g x2.toNat))).n (fun l=>if l=x2.toNat then splice ((fun i=>cI .u64 (x1.g i)) l) 0 [pI .u64 (E9 .or .u64 (p_x.g x2.toNat) (a.g x2.toNat))]else (fun i=>cI .u64 (x1.g i)) l) (fun i=>cI .u64 ((x1.upd x2.toNat (E9 .or .u64 (p_x.g x2.toNat) (a.g x2.toNat))).g i)))] (al1 ⟨rfl,QW (c:=cI .u64) (v:=x1) (x:=E9 .or .u64 (p_x.g x2.toNat) (a.g x2.toNat)) same (fun _=>by first|rfl|(dsimp only;split<;>rfl))⟩ al0))
 obtain rfl:=C0 h;exact A8 hS T3 ⟨[(4,.vec 10000)],[(10000,.vec D5 1 x1.n (fun i=>cI .u64 (x1.g i)) true)]⟩ [10000] (ids:=[(10000,10000)]) ⟨rfl,rfl,rfl⟩
theorem Yt {p_x:Sl Int}{a:Sl Int}{y:Bool}(h:Al N p_x a=some y) :FunO S Mr [.p (vSl 1 (cI .u64) p_x),.p (vSl 1 (cI .u64) a)] [] (pB y) ([]) []:=by
 unfold Al at h;refine A1 hS Ys ?_;refine E2 hS T3 h (fun x1=>⟨[(5,pN x1),(1,.p (vSl 1 (cI .u64) a)),(0,.p (vSl 1 (cI .u64) p_x))],[]⟩) (ids:=[]) (fun _ _ _ _ _ b x1 c h=>?_);apply kI hS h<;>intro h
 .refine C5 hS T3 [2,3,6,7] ?_;obtain⟨c8,h⟩:=C7 h;refine D9 c8 ?_;apply kI hS h<;>intro h
  .cases h;exact kR hS
  exact c _ [] _ (wrap .i64 (x1+1)) T3 h
 cases h;exact kR hS
end Go.AM
namespace Go.AM
variable {N:Nat}
open IntKind (wrap)
open Go.Proofs
set_option maxRecDepth 10000
set_option maxHeartbeats 2000000
variable {S:W1}(hS:H9 S Tryz.prog) (hL:GD S)
include hS hL
theorem Yu {rec:Pat->Int->Option (Int×Int)}(c:∀{a:Pat}{b:Int}{y:Int×Int},rec a b=some y->FunO S EG [.p (.agg (C4 a)),pN b] [] (.tup [pN y.1,pN y.2]) ([]) []){a:Pat}{b:Int}{y:Int×Int}(h:Q9 rec N a b=some y) :FunO S EG [.p (.agg (C4 a)),pN b] [] (.tup [pN y.1,pN y.2]) ([]) []:=by
 unfold Q9 at h;refine A1 hS Ac5 ?_;apply kI hS h<;>intro h
 .cases h;exact kR hS
 refine kC hS h (Ad5 hS hL) (fun y1 h=>?_);apply kI hS h<;>intro h
 .cases h;exact kR hS
 refine D7 hS T3 h (fun x1 x2=>⟨[(8,pN x2),(7,pN x1),(2,.reg 3000 0)],[(3000,.cells ((C4 a).map .p))]⟩) (ids:=[(3000,3000)]) (fun _ _ _ _ _ d x1 x2 f h=>?_);refine G9 hS T3 23 ⟨[(22,.p (vSl 7 C4 a.L)),(20,pN x2),(8,pN x2),(7,pN x1),(2,.reg 3000 0)],[(3000,.cells ((C4 a).map .p))]⟩ (ids:=[(3000,3000)]) ?_ (hle:=klR [(0,.fn a.L.n a.L.n (T1 a) (fun i=>C4 (a.L.g i)))] (al1 ⟨rfl,G8 a⟩ al0));apply kI hS h<;>intro h
 .refine G9 hS T3 31 ⟨[(30,pN x2),(29,.p (vSl 7 C4 a.L)),(8,pN x2),(7,pN x1),(2,.reg 3000 0)],[(3000,.cells ((C4 a).map .p))]⟩ (ids:=[(3000,3000)]) ?_ (hle:=klR [(1,.fn a.L.n a.L.n (T1 a) (fun i=>C4 (a.L.g i)))] (al1 ⟨rfl,G8 a⟩ al0));obtain⟨c10,h⟩:=C7 h;obtain⟨y4,e4,h⟩:=B1 h;refine B6 hS [] (And.intro c10 (by decide:(7:Nat)<=7)) (c e4) ?_;apply kI hS h<;>intro h
  .cases h;exact kR hS
  exact f _ [(3000,3000)] _ y4.1 (wrap .i64 (x2+1)) T3 h
 cases h;exact kR hS
theorem Ad6 {b:Pat}{a:Int}{y:Int×Int}(h:Dc N b a=some y) :FunO S EG [.p (.agg (C4 b)),pN a] [] (.tup [pN y.1,pN y.2]) ([]) []:=by
 induction N generalizing b a y with
 |zero=>cases (show (none:Option (Int×Int))=some y from h)
 |succ N ih=>exact Yu hS hL (fun e=>ih e) h
theorem Gz {a:Pat}{y:Int}(h:V8 N a=some y) :FunO S Mk [.p (.agg (C4 a))] [] (pN y) ([]) []:=by unfold V8 at h;refine A1 hS Yk ?_;refine kC hS h (Ad6 hS hL) (fun y1 h=>?_);cases h;exact kR hS
theorem Ad7 {b:Str}{y:Bool}(h:Z2 N b=some y) :FunO S NV [.p (.str b)] [] (pB y) ([]) []:=by
 unfold Z2 at h;refine A1 hS Ac1 ?_;refine E2 hS T3 h (fun x1=>⟨[(3,pN x1),(0,.p (.str b))],[]⟩) (ids:=[]) (fun _ _ _ _ _ c x1 d h=>?_);apply kI hS h<;>intro h
 .obtain⟨c8,h⟩:=C7 h;refine kB hS (A2 hS) c8 T3 23 (.o (.o (.o (.n (.a (decide (97<=(P8 b x1)))) (.a (decide ((P8 b x1)<=122)))) (.n (.a (decide (65<=(P8 b x1)))) (.a (decide ((P8 b x1)<=90))))) (.n (.a (decide (48<=(P8 b x1)))) (.a (decide ((P8 b x1)<=57))))) (.a ((P8 b x1)==45))) ?_;apply kI hS h<;>intro h
  .cases h;exact kR hS
  exact d _ [] _ (wrap .i64 (x1+1)) T3 h
 refine kB hS (A2 hS) T3 T3 4 (.n (.a (decide (1<=(b.length:Int)))) (.a (decide ((b.length:Int)<=24)))) ?_;cases h;exact kR hS
theorem Ad8 {p_x:Hk}{c:Int}{y:Bool}(h:BN N p_x c=some y) :FunO S NW [.p (.agg (P1 p_x)),pN c] [] (pB y) ([]) []:=by
 unfold BN at h;refine A1 hS Ac2 ?_;refine Ai hS T3 (A2 hS) h 0 (fun z1=>⟨[(32,pB z1),(2,.reg 3000 0),(1,pN c)],[(3000,.cells ((P1 p_x).map .p))]⟩) (fun M1 k1 b h=>?_) (fun z1 h=>?_)
 .refine kG hS h (fun h=>?_) (fun h=>?_)
  .exact b _ [(3000,3000)] _ true T3 h
  refine kG hS h (fun h=>?_) (fun h=>?_)
  .exact b _ [(3000,3000)] _ true T3 h
  refine kC hS h (O5 hS hL) (fun y2 h=>?_);refine kG hS h (fun h=>?_) (fun h=>?_)
  .exact b _ [(3000,3000)] _ true T3 h
  refine kG hS h (fun h=>?_) (fun h=>?_)
  .exact b _ [(3000,3000)] _ true T3 h
  exact b _ [(3000,3000)] _ ((E9 .andNot .u32 p_x.Take 16777215) != 0) T3 h
 apply kI hS h<;>intro h
 .cases h;exact kR hS
 refine kB hS (A2 hS) T3 T3 14 (.o (.o (.a ((E9 .and .u32 p_x.Clear (E9 .or .u32 p_x.Set.Plus p_x.Set.Minus)) != 0)) (.a ((E9 .and .u32 p_x.Take (E9 .or .u32 p_x.Set.Plus p_x.Set.Minus)) != 0))) (.a ((E9 .and .u32 p_x.Take p_x.Clear) != 0))) ?_;apply kI hS h<;>intro h
 .cases h;exact kR hS
 apply kI hS h<;>intro h
 .cases h;exact kR hS
 refine kB hS (A2 hS) T3 T3 5 (.n (.a (decide (0<=p_x.Of))) (.a (decide (p_x.Of<c)))) ?_;cases h;exact kR hS
theorem GA {b:Law}{y:Int}(h:S6 N b=some y) :FunO S Mh [.p (.agg (B2 b))] [] (pN y) ([]) []:=by
 unfold S6 at h;refine A1 hS Yh ?_;refine D8 hS T3 2 2000 (B2 b) ?_;refine kC hS h (Ad7 hS hL) (fun y1 h=>?_);refine Ai hS T3 (A2 hS) h 0 (fun z1=>⟨[(20,pB z1),(1,.p (.ptr (B2 b)))],[]⟩) (fun M1 k1 c h=>?_) (fun z1 h=>?_)
 .refine kG hS h (fun h=>?_) (fun h=>?_)
  .exact c _ [] _ true T3 h
  obtain⟨y4,e4,h⟩:=B1 h;refine B6 hS [] (by decide:(7:Nat)<=17) (Gz hS hL e4) ?_;refine kG hS h (fun h=>?_) (fun h=>?_)
  .exact c _ [] _ true T3 h
  obtain⟨y5,e5,h⟩:=B1 h;refine B6 hS [] (by decide:(7:Nat)<=10) (Gz hS hL e5) ?_;exact c _ [] _ (y5 != 0) T3 h
 apply kI hS h<;>intro h
 .cases h;exact kR hS
 refine kB hS (A2 hS) T3 T3 25 (.o (.o (.o (.o (.a (decide (4<(b.If.n:Int)))) (.a (decide (6<(b.Out.n:Int))))) (.a ((wrap .i64 ((b.If.n:Int)+(b.Out.n:Int)))==0))) (.a (decide (b.Mode<1)))) (.a (decide (3<b.Mode)))) ?_;apply kI hS h<;>intro h
 .cases h;exact kR hS
 refine E2 hS T3 h (fun x2=>⟨[(3,pN x2),(1,.p (.ptr (B2 b)))],[]⟩) (ids:=[]) (fun _ _ _ _ _ d x2 f h=>?_);apply kI hS h<;>intro h
 .obtain⟨c15,h⟩:=C7 h;obtain⟨y8,e8,h⟩:=B1 h;refine B6 hS [] (And.intro c15 (by decide:(2:Nat)<=2)) (O5 hS hL e8) ?_;apply kI hS h<;>intro h
  .cases h;exact kR hS
  exact f _ [] _ (wrap .i64 (x2+1)) T3 h
 refine E2 hS T3 h (fun x3=>⟨[(4,pN x3),(1,.p (.ptr (B2 b)))],[]⟩) (ids:=[]) (fun _ _ _ _ _ g x3 i h=>?_);apply kI hS h<;>intro h
 .refine C5 hS T3 [1,3,4,6,8] ?_;obtain⟨c24,h⟩:=C7 h;obtain⟨j,e11,h⟩:=B1 h;refine F8 (And.intro c24 (by decide:(6:Nat)<=6)) (Ad8 hS hL e11) ?_;refine D9 T3 ?_;apply kI hS h<;>intro h
  .cases h;exact kR hS
  exact i _ [] _ (wrap .i64 (x3+1)) T3 h
 cases h;exact kR hS
theorem Yv {a:Sl Law}{y:Int}(h:Y0 N a=some y) :FunO S Mm [.p (vSl 18 B2 a)] [] (pN y) ([]) []:=by
 unfold Y0 at h;refine A1 hS Ym ?_;apply kI hS h<;>intro h
 .cases h;exact kR hS
 refine E2 hS T3 h (fun x1=>⟨[(3,pN x1),(0,.p (vSl 18 B2 a))],[]⟩) (ids:=[]) (fun _ _ _ _ _ b x1 c h=>?_);apply kI hS h<;>intro h
 .obtain⟨c9,h⟩:=C7 h;obtain⟨y3,e3,h⟩:=B1 h;refine B6 hS [] (And.intro c9 (by decide:(18:Nat)<=18)) (GA hS hL e3) ?_;apply kI hS h<;>intro h
  .cases h;exact kR hS
  exact c _ [] _ (wrap .i64 (x1+1)) T3 h
 cases h;exact kR hS
theorem Yw {a:Law}{b:Sl To}{y:Int}(h:Bn N a b=some y) :FunO S Mp [.p (.agg (B2 a)),.p (vSl 2 A0 b)] [] (pN y) ([]) []:=by
 unfold Bn at h;refine A1 hS Yp ?_;refine kC hS h (GA hS hL) (fun y1 h=>?_);apply kI hS h<;>intro h
 .cases h;exact kR hS
 refine kC hS h (DN hS hL) (fun y2 h=>?_);cases h;exact kR hS
theorem Oj {a:Pat}{b:Sl To}{y:Int}(h:AL N a b=some y) :FunO S Od [.p (.agg (C4 a)),.p (vSl 2 A0 b)] [] (pN y) ([]) []:=by
 unfold AL at h;refine A1 hS Ad0 ?_;refine kC hS h (Gz hS hL) (fun y1 h=>?_);apply kI hS h<;>intro h
 .refine kC hS h (DN hS hL) (fun y2 h=>?_);cases h;exact kR hS
 cases h;exact kR hS
theorem UA {rec:Pat->(Sl To)->Option (Sl Int)}(j:∀{a:Pat}{d:Sl To}{y:Sl Int},rec a d=some y->FunO S DM [.p (.agg (C4 a)),.p (vSl 2 A0 d)] [] (.vec 0) ([.vec D5 1 y.n (fun i=>cI .u64 (y.g i)) true]) []){a:Pat}{d:Sl To}{y:Sl Int}(h:U0 rec N a d=some y) :FunO S DM [.p (.agg (C4 a)),.p (vSl 2 A0 d)] [] (.vec 0) ([.vec D5 1 y.n (fun i=>cI .u64 (y.g i)) true]) []:=by
 unfold U0 at h;refine A1 hS Yr ?_;refine D8 hS T3 4 3000 (C4 a) ?_;obtain⟨c1,h⟩:=C7 h;refine D7 hS c1 h (fun x1 x2=>⟨[(7,pN x2),(6,.vec 19000),(5,pN (d.n:Int)),(2,.p (.ptr (C4 a))),(1,.p (vSl 2 A0 d))],[(19000,.vec D5 1 x1.n (fun i=>cI .u64 (x1.g i)) false)]⟩) (ids:=[(19000,19000)]) (fun _ _ _ _ _ t x1 x2 f h=>?_);apply kI hS h<;>intro h
 .apply kI hS h<;>intro h
  .obtain⟨c24,h⟩:=C7 h;exact f _ [(19000,19000)] _ (x1.upd x2.toNat (shI .shl .u64 1 x2)) (wrap .i64 (x2+1)) (And.intro (And.intro c24.1.1 c24.1.2) (And.intro (rfl:(1:Nat)=1) (And.intro c24.2 (by decide:(1:Nat)<=1)))) h (hle:=klR [(4,.fn x1.n (x1.upd x2.toNat (shI .shl .u64 1 x2)).n (fun l=>if l=x2.toNat then splice ((fun i=>cI .u64 (x1.g i)) l) 0 [pI .u64 (shI .shl .u64 1 x2)]else (fun i=>cI .u64 (x1.g i)) l) (fun i=>cI .u64 ((x1.upd x2.toNat (shI .shl .u64 1 x2)).g i)))] (al1 ⟨rfl,QW (c:=cI .u64) (v:=x1) (x:=shI .shl .u64 1 x2) same (fun _=>by first|rfl|(dsimp only;split<;>rfl))⟩ al0))
  apply kI hS h<;>intro h
  .refine C5 hS T3 [6,7,9,10,12] ?_;refine AY T3 (b:=decide (x2<(d.n:Int))) (fun c26=>?_) (fun c26=>?_)
   .replace h:=itT c26 h;obtain⟨c27,h⟩:=C7 h;obtain⟨y3,e3,h⟩:=B1 h;refine F8 (And.intro (And.intro c27 (by decide:(2:Nat)<=2)) (by decide:(2:Nat)<=6)) (OY hS hL e3) ?_;refine D9 T3 ?_;apply kI hS h<;>intro h
    .obtain⟨c29,h⟩:=C7 h;exact f _ [(19000,19000)] _ (x1.upd x2.toNat (shI .shl .u64 1 (wrap .i64 (x2+1)))) (wrap .i64 (x2+1)) (And.intro (And.intro c29.1.1 c29.1.2) (And.intro (rfl:(1:Nat)=1) (And.intro c29.2 (by decide:(1:Nat)<=1)))) h (hle:=klR [(4,.fn x1.n (x1.upd x2.toNat (shI .shl .u64 1 (wrap .i64 (x2+1)))).n (fun l=>if l=x2.toNat then splice ((fun i=>cI .u64 (x1.g i)) l) 0 [pI .u64 (shI .shl .u64 1 (wrap .i64 (x2+1)))]else (fun i=>cI .u64 (x1.g i)) l) (fun i=>cI .u64 ((x1.upd x2.toNat (shI .shl .u64 1 (wrap .i64 (x2+1)))).g i)))] (al1 ⟨rfl,QW (c:=cI .u64) (v:=x1) (x:=shI .shl .u64 1 (wrap .i64 (x2+1))) same (fun _=>by first|rfl|(dsimp only;split<;>rfl))⟩ al0))
    exact f _ [(19000,19000)] _ x1 (wrap .i64 (x2+1)) T3 h
   replace h:=itF c26 h;refine D9 T3 ?_;exact f _ [(19000,19000)] _ x1 (wrap .i64 (x2+1)) T3 h
  apply kI hS h<;>intro h
  .apply kI hS h<;>intro h
   .obtain⟨c32,h⟩:=C7 h;exact f _ [(19000,19000)] _ (x1.upd x2.toNat 1) (wrap .i64 (x2+1)) (And.intro c32.1 (And.intro (rfl:(1:Nat)=1) (And.intro c32.2 (by decide:(1:Nat)<=1)))) h (hle:=klR [(4,.fn x1.n (x1.upd x2.toNat 1).n (fun l=>if l=x2.toNat then splice ((fun i=>cI .u64 (x1.g i)) l) 0 [pI .u64 1]else (fun i=>cI .u64 (x1.g i)) l) (fun i=>cI .u64 ((x1.upd x2.toNat 1).g i)))] (al1 ⟨rfl,QW (c:=cI .u64) (v:=x1) (x:=1) same (fun _=>by first|rfl|(dsimp only;split<;>rfl))⟩ al0))
   exact f _ [(19000,19000)] _ x1 (wrap .i64 (x2+1)) T3 h
  apply kI hS h<;>intro h
  .apply kI hS h<;>intro h
   .obtain⟨c35,h⟩:=C7 h;exact f _ [(19000,19000)] _ (x1.upd x2.toNat (shI .shl .u64 1 x2)) (wrap .i64 (x2+1)) (And.intro (And.intro c35.1.1 c35.1.2) (And.intro (rfl:(1:Nat)=1) (And.intro c35.2 (by decide:(1:Nat)<=1)))) h (hle:=klR [(4,.fn x1.n (x1.upd x2.toNat (shI .shl .u64 1 x2)).n (fun l=>if l=x2.toNat then splice ((fun i=>cI .u64 (x1.g i)) l) 0 [pI .u64 (shI .shl .u64 1 x2)]else (fun i=>cI .u64 (x1.g i)) l) (fun i=>cI .u64 ((x1.upd x2.toNat (shI .shl .u64 1 x2)).g i)))] (al1 ⟨rfl,QW (c:=cI .u64) (v:=x1) (x:=shI .shl .u64 1 x2) same (fun _=>by first|rfl|(dsimp only;split<;>rfl))⟩ al0))
   exact f _ [(19000,19000)] _ x1 (wrap .i64 (x2+1)) T3 h
  exact f _ [(19000,19000)] _ x1 (wrap .i64 (x2+1)) T3 h
 apply kI hS h<;>intro h
 .refine kC hS h (Oh hS hL) (fun y4 h=>?_);refine D7 hS T3 h (fun x3 x4=>⟨[(8,pN x4),(6,.vec 7500),(2,.p (.ptr (C4 a))),(1,.p (vSl 2 A0 d))],[(7500,.vec D5 1 x3.n (fun i=>cI .u64 (x3.g i)) true)]⟩) (ids:=[(7500,79000)]) (fun _ _ _ _ _ u x3 x4 w h=>?_);refine G9 hS T3 82 ⟨[(81,.p (vSl 7 C4 a.L)),(79,pN x4),(8,pN x4),(6,.vec 7500),(2,.p (.ptr (C4 a))),(1,.p (vSl 2 A0 d))],[(7500,.vec D5 1 x3.n (fun i=>cI .u64 (x3.g i)) true)]⟩ (ids:=[(7500,7500)]) ?_ (hle:=klR [(0,.fn a.L.n a.L.n (T1 a) (fun i=>C4 (a.L.g i)))] (al1 ⟨rfl,G8 a⟩ al0));apply kI hS h<;>intro h
  .refine G9 hS T3 90 ⟨[(89,pN x4),(88,.p (vSl 7 C4 a.L)),(86,.vec 7500),(8,pN x4),(2,.p (.ptr (C4 a))),(1,.p (vSl 2 A0 d))],[(7500,.vec D5 1 x3.n (fun i=>cI .u64 (x3.g i)) true)]⟩ (ids:=[(7500,7500)]) ?_ (hle:=klR [(1,.fn a.L.n a.L.n (T1 a) (fun i=>C4 (a.L.g i)))] (al1 ⟨rfl,G8 a⟩ al0));obtain⟨c42,h⟩:=C7 h;obtain⟨y9,e9,h⟩:=B1 h;refine B6 hS [] (And.intro c42 (by decide:(7:Nat)<=7)) (j e9) ?_;refine kC hS h (Fm hS hL) (fun z h=>?_);exact w _ [(7500,95000)] _ z (wrap .i64 (x4+1)) T3 h
  obtain rfl:=C0 h;exact A8 hS T3 ⟨[(4,.vec 7500)],[(7500,.vec D5 1 x3.n (fun i=>cI .u64 (x3.g i)) true)]⟩ [7500] (ids:=[(7500,7500)]) ⟨rfl,rfl,rfl⟩
 apply kI hS h<;>intro h
 .refine D7 hS T3 h (fun x5 x6=>⟨[(9,pN x6),(6,.vec 7500),(2,.p (.ptr (C4 a))),(1,.p (vSl 2 A0 d))],[(7500,.vec D5 1 x5.n (fun i=>cI .u64 (x5.g i)) true)]⟩) (ids:=[(7500,19000)]) (fun _ _ _ _ _ a0 x5 x6 a1 h=>?_);refine G9 hS T3 100 ⟨[(99,.p (vSl 7 C4 a.L)),(97,pN x6),(9,pN x6),(6,.vec 7500),(2,.p (.ptr (C4 a))),(1,.p (vSl 2 A0 d))],[(7500,.vec D5 1 x5.n (fun i=>cI .u64 (x5.g i)) true)]⟩ (ids:=[(7500,7500)]) ?_ (hle:=klR [(0,.fn a.L.n a.L.n (T1 a) (fun i=>C4 (a.L.g i)))] (al1 ⟨rfl,G8 a⟩ al0));apply kI hS h<;>intro h
  .refine G9 hS T3 108 ⟨[(107,pN x6),(106,.p (vSl 7 C4 a.L)),(104,.vec 7500),(9,pN x6),(2,.p (.ptr (C4 a))),(1,.p (vSl 2 A0 d))],[(7500,.vec D5 1 x5.n (fun i=>cI .u64 (x5.g i)) true)]⟩ (ids:=[(7500,7500)]) ?_ (hle:=klR [(1,.fn a.L.n a.L.n (T1 a) (fun i=>C4 (a.L.g i)))] (al1 ⟨rfl,G8 a⟩ al0));obtain⟨c49,h⟩:=C7 h;obtain⟨a7,e15,h⟩:=B1 h;refine B6 hS [] (And.intro c49 (by decide:(7:Nat)<=7)) (j e15) ?_;refine kC hS h (Oi hS hL) (fun a2 h=>?_);exact a1 _ [(7500,113000)] _ a2 (wrap .i64 (x6+1)) T3 h
  obtain rfl:=C0 h;exact A8 hS T3 ⟨[(4,.vec 7500)],[(7500,.vec D5 1 x5.n (fun i=>cI .u64 (x5.g i)) true)]⟩ [7500] (ids:=[(7500,7500)]) ⟨rfl,rfl,rfl⟩
 apply kI hS h<;>intro h
 .refine G9 hS T3 117 ⟨[(116,.p (vSl 7 C4 a.L)),(6,.vec 19000),(5,pN (d.n:Int)),(2,.p (.ptr (C4 a))),(1,.p (vSl 2 A0 d))],[(19000,.vec D5 1 x1.n (fun i=>cI .u64 (x1.g i)) false)]⟩ (ids:=[(19000,19000)]) ?_ (hle:=klR [(0,.fn a.L.n a.L.n (T1 a) (fun i=>C4 (a.L.g i)))] (al1 ⟨rfl,G8 a⟩ al0));obtain⟨c51,h⟩:=C7 h;obtain⟨q,e17,h⟩:=B1 h;refine B6 hS [] (And.intro c51 (by decide:(7:Nat)<=7)) (j e17) ?_;refine kC hS h (Oh hS hL) (fun a8 h=>?_);refine Cv hS T3 h (fun x8 x9 m=>⟨[(12,pN m),(11,.vec 12500),(10,.vec 121000),(6,.vec 7500),(2,.p (.ptr (C4 a)))],[(121000,.vec D5 1 q.n (fun i=>cI .u64 (q.g i)) true),(12500,.vec D5 1 x9.n (fun i=>cI .u64 (x9.g i)) true),(7500,.vec D5 1 x8.n (fun i=>cI .u64 (x8.g i)) true)]⟩) (ids:=[(7500,19000),(12500,123000),(121000,121000)]) (fun _ _ _ _ _ a3 x8 x9 m s h=>?_);apply kI hS h<;>intro h
  .refine kC hS h (Oi hS hL) (fun o h=>?_);refine Ai hS T3 (A2 hS) h 0 (fun z3=>⟨[(147,pB z3),(12,pN m),(11,.vec 12500),(10,.vec 121000),(6,.vec 133000),(2,.p (.ptr (C4 a)))],[(133000,.vec D5 1 o.n (fun i=>cI .u64 (o.g i)) true),(121000,.vec D5 1 q.n (fun i=>cI .u64 (q.g i)) true),(12500,.vec D5 1 x9.n (fun i=>cI .u64 (x9.g i)) true)]⟩) (fun M3 k3 r h=>?_) (fun z3 h=>?_)
   .refine kG hS h (fun h=>?_) (fun h=>?_)
    .exact r _ [(12500,12500),(121000,121000),(133000,133000)] _ true T3 h
    refine kG hS h (fun h=>?_) (fun h=>?_)
    .refine kC hS h (Yt hS hL) (fun a4 h=>?_);exact r _ [(12500,12500),(121000,121000),(133000,133000)] _ a4 T3 h
    exact r _ [(12500,12500),(121000,121000),(133000,133000)] _ false T3 h
   apply kI hS h<;>intro h
   .obtain rfl:=C0 h;exact A8 hS T3 ⟨[(4,.vec 133000)],[(133000,.vec D5 1 o.n (fun i=>cI .u64 (o.g i)) true)]⟩ [133000] (ids:=[(133000,133000)]) ⟨rfl,rfl,rfl⟩
   refine kC hS h (Fm hS hL) (fun a5 h=>?_);exact s _ [(7500,133000),(12500,152000),(121000,121000)] _ o a5 (wrap .i64 (m+1)) T3 h
  refine kC hS h (Fm hS hL) (fun a6 h=>?_);exact s _ [(7500,7500),(12500,152000),(121000,121000)] _ x8 a6 (wrap .i64 (m+1)) T3 h
 obtain rfl:=C0 h;exact A8 hS T3 ⟨[(4,.vec 19000)],[(19000,.vec D5 1 x1.n (fun i=>cI .u64 (x1.g i)) true)]⟩ [19000] (ids:=[(19000,19000)]) ⟨rfl,rfl,rfl⟩
theorem Mt {a:Pat}{b:Sl To}{y:Sl Int}(h:Bo N a b=some y) :FunO S DM [.p (.agg (C4 a)),.p (vSl 2 A0 b)] [] (.vec 0) ([.vec D5 1 y.n (fun i=>cI .u64 (y.g i)) true]) []:=by
 induction N generalizing a b y with
 |zero=>cases (show (none:Option (Sl Int))=some y from h)
 |succ N ih=>exact UA hS hL (fun e=>ih e) h
theorem UB {j:Pat}{f:Sl To}{d:Int}{y:(Sl Int)×Int}(h:X1 N j f d=some y) :FunO S Kl [.p (.agg (C4 j)),.p (vSl 2 A0 f),pN d] [] (.tup [.vec 0,pN y.2]) ([.vec B8 1 y.1.n (fun i=>cI .i64 (y.1.g i)) true]) []:=by
 unfold X1 at h;refine A1 hS Uw ?_;refine kC hS h (Oj hS hL) (fun y1 h=>?_);apply kI hS h<;>intro h
 .obtain rfl:=C0 h;exact A8 hS T3 ⟨[(7,pN y1),(6,.vec 7700)],[(7700,.vec B8 1 (Sl.nil:Sl Int).n (fun i=>cI .i64 ((Sl.nil:Sl Int).g i)) true)]⟩ [7700] (ids:=[]) ⟨rfl,rfl,rfl⟩
 refine kB hS (A2 hS) T3 T3 5 (.o (.a (decide (d<0))) (.a (decide ((f.n:Int)<d)))) ?_;apply kI hS h<;>intro h
 .obtain rfl:=C0 h;exact A8 hS T3 ⟨[(7,pN 3),(6,.vec 7700)],[(7700,.vec B8 1 (Sl.nil:Sl Int).n (fun i=>cI .i64 ((Sl.nil:Sl Int).g i)) true)]⟩ [7700] (ids:=[]) ⟨rfl,rfl,rfl⟩
 refine kC hS h (Mt hS hL) (fun y2 h=>?_);refine D7 hS T3 h (fun x1 x2=>⟨[(11,pN x2),(10,.vec 11500),(9,.vec 29000),(2,pN d),(1,.p (vSl 2 A0 f))],[(29000,.vec D5 1 y2.n (fun i=>cI .u64 (y2.g i)) true),(11500,.vec B8 1 x1.n (fun i=>cI .i64 (x1.g i)) false)]⟩) (ids:=[(29000,29000)]) (fun _ _ _ _ _ m x1 x2 l h=>?_);apply kI hS h<;>intro h
 .obtain⟨c10,h⟩:=C7 h;refine D1 hS c10 (b:=(E9 .and .u64 (shI .shr .u64 (y2.g x2.toNat) d) 1)==1) (fun c11=>?_) (fun c11=>?_)
  .replace h:=itT c11 h;obtain⟨c12,h⟩:=C7 h;exact l _ [(11500,47000),(29000,29000)] _ (x1.push x2) (wrap .i64 (x2+1)) (And.intro (rfl:true=true) c12) h (hle:=klR [(4,.fn (x1.n+1) (x1.push x2).n (I4 x1.n (fun i=>cI .i64 (x1.g i)) (D0 [pI .i64 0] [(0,cI .i64 x2)])) (fun i=>cI .i64 ((x1.push x2).g i)))] (al1 ⟨rfl,W3 (c:=cI .i64) (v:=x1) (x:=x2) (z:=[(pI .i64 0)]) same rfl rfl⟩ al0))
  replace h:=itF c11 h;exact l _ [(11500,11500),(29000,29000)] _ x1 (wrap .i64 (x2+1)) T3 h
 obtain rfl:=C0 h;exact A8 hS T3 ⟨[(7,pN 0),(6,.vec 11500)],[(11500,.vec B8 1 x1.n (fun i=>cI .i64 (x1.g i)) true)]⟩ [11500] (ids:=[(11500,11500)]) ⟨rfl,rfl,rfl⟩
theorem Ad9 {j:Pat}{f:Sl To}{d:Int}{y:(Sl Int)×Int}(h:BO N j f d=some y) :FunO S Ob [.p (.agg (C4 j)),.p (vSl 2 A0 f),pN d] [] (.tup [.vec 0,pN y.2]) ([.vec B8 1 y.1.n (fun i=>cI .i64 (y.1.g i)) true]) []:=by
 unfold BO at h;refine A1 hS Ac8 ?_;refine kC hS h (Oj hS hL) (fun y1 h=>?_);apply kI hS h<;>intro h
 .obtain rfl:=C0 h;exact A8 hS T3 ⟨[(7,pN y1),(6,.vec 7700)],[(7700,.vec B8 1 (Sl.nil:Sl Int).n (fun i=>cI .i64 ((Sl.nil:Sl Int).g i)) true)]⟩ [7700] (ids:=[]) ⟨rfl,rfl,rfl⟩
 refine kB hS (A2 hS) T3 T3 5 (.o (.a (decide (d<0))) (.a (decide ((f.n:Int)<d)))) ?_;apply kI hS h<;>intro h
 .obtain rfl:=C0 h;exact A8 hS T3 ⟨[(7,pN 3),(6,.vec 7700)],[(7700,.vec B8 1 (Sl.nil:Sl Int).n (fun i=>cI .i64 ((Sl.nil:Sl Int).g i)) true)]⟩ [7700] (ids:=[]) ⟨rfl,rfl,rfl⟩
 refine kC hS h (Mt hS hL) (fun y2 h=>?_);refine D7 hS T3 h (fun x1 x2=>⟨[(11,pN x2),(10,.vec 11500),(9,.vec 29000),(2,pN d),(1,.p (vSl 2 A0 f))],[(29000,.vec D5 1 y2.n (fun i=>cI .u64 (y2.g i)) true),(11500,.vec B8 1 x1.n (fun i=>cI .i64 (x1.g i)) false)]⟩) (ids:=[(29000,29000)]) (fun _ _ _ _ _ m x1 x2 l h=>?_);apply kI hS h<;>intro h
 .obtain⟨c10,h⟩:=C7 h;refine D1 hS c10 (b:=(E9 .and .u64 (shI .shr .u64 (y2.g d.toNat) x2) 1)==1) (fun c11=>?_) (fun c11=>?_)
  .replace h:=itT c11 h;obtain⟨c12,h⟩:=C7 h;exact l _ [(11500,47000),(29000,29000)] _ (x1.push x2) (wrap .i64 (x2+1)) (And.intro (rfl:true=true) c12) h (hle:=klR [(4,.fn (x1.n+1) (x1.push x2).n (I4 x1.n (fun i=>cI .i64 (x1.g i)) (D0 [pI .i64 0] [(0,cI .i64 x2)])) (fun i=>cI .i64 ((x1.push x2).g i)))] (al1 ⟨rfl,W3 (c:=cI .i64) (v:=x1) (x:=x2) (z:=[(pI .i64 0)]) same rfl rfl⟩ al0))
  replace h:=itF c11 h;exact l _ [(11500,11500),(29000,29000)] _ x1 (wrap .i64 (x2+1)) T3 h
 obtain rfl:=C0 h;exact A8 hS T3 ⟨[(7,pN 0),(6,.vec 11500)],[(11500,.vec B8 1 x1.n (fun i=>cI .i64 (x1.g i)) true)]⟩ [11500] (ids:=[(11500,11500)]) ⟨rfl,rfl,rfl⟩
theorem Jr {b:Law}{d:Sl To}{c:Int}{y:Bool}(h:X2 N b d c=some y) :FunO S QK [.p (.agg (B2 b)),.p (vSl 2 A0 d),pN c] [] (pB y) ([]) []:=by
 unfold X2 at h;refine A1 hS Au9 ?_;refine D8 hS T3 6 4000 (B2 b) ?_;refine kB hS (A2 hS) T3 T3 7 (.o (.a (decide (c<0))) (.a (decide ((d.n:Int)<(wrap .i64 (c+(b.If.n:Int))))))) ?_;apply kI hS h<;>intro h
 .cases h;exact kR hS
 refine E2 hS T3 h (fun x1=>⟨[(8,pN x1),(7,pN (b.If.n:Int)),(3,.p (.ptr (B2 b))),(2,pN c),(1,.p (vSl 2 A0 d))],[]⟩) (ids:=[]) (fun _ _ _ _ _ f x1 g h=>?_);apply kI hS h<;>intro h
 .refine C5 hS T3 [4,5,7,9,10,11] ?_;obtain⟨c9,h⟩:=C7 h;obtain⟨y3,e3,h⟩:=B1 h;refine F8 (And.intro (And.intro (And.intro c9.1 (by decide:(2:Nat)<=2)) c9.2) (by decide:(2:Nat)<=2)) (OX hS hL e3) ?_;refine D9 T3 ?_;apply kI hS h<;>intro h
  .cases h;exact kR hS
  exact g _ [] _ (wrap .i64 (x1+1)) T3 h
 obtain⟨y4,e4,h⟩:=B1 h;refine B6 hS [] (by decide:(7:Nat)<=17) (UB hS hL e4) ?_;obtain⟨y5,e5,h⟩:=B1 h;refine B6 hS [] (by decide:(7:Nat)<=10) (Ad9 hS hL e5) ?_;refine kB hS (A2 hS) T3 T3 4 (.n (.a (decide (0<(y4.1.n:Int)))) (.a (decide (0<(y5.1.n:Int))))) ?_;cases h;exact kR hS
theorem QO {d:Law}{a:Sl To}{y:Sl To}(h:Z3 N d a=some y) :FunO S QL [.p (.agg (B2 d)),.p (vSl 2 A0 a)] [] (.vec 0) ([.vec B0 2 y.n (fun i=>A0 (y.g i)) true]) []:=by
 unfold Z3 at h;refine A1 hS Av0 ?_;refine D8 hS T3 4 3000 (B2 d) ?_;refine D7 hS T3 h (fun x1 x2=>⟨[(6,pN x2),(5,.vec 6500),(2,.p (.ptr (B2 d))),(1,.p (vSl 2 A0 a))],[(6500,.vec B0 2 x1.n (fun i=>A0 (x1.g i)) false)]⟩) (ids:=[]) (fun _ _ _ _ _ o x1 x2 l h=>?_);apply kI hS h<;>intro h
 .obtain⟨c16,h⟩:=C7 h;refine D8 hS (And.intro c16 (by decide:(6:Nat)<=6)) 21 8000 (P1 (d.Out.g x2.toNat)) ?_;obtain⟨c18,h⟩:=C7 h;obtain⟨t5,f⟩:∃x:Int,x=(if (decide (0<=(d.Out.g x2.toNat).From)) then (a.g (d.Out.g x2.toNat).From.toNat).Plus else 0):=⟨_,rfl⟩;obtain⟨t6,j⟩:∃x:Int,x=(if (decide (0<=(d.Out.g x2.toNat).From)) then (a.g (d.Out.g x2.toNat).From.toNat).Minus else 0):=⟨_,rfl⟩;refine Tm hS T3 (A2 hS) 0 ⟨[(8,.reg 9000 0),(7,.p (.ptr (P1 (d.Out.g x2.toNat)))),(6,pN x2),(5,.vec 6500),(2,.p (.ptr (B2 d))),(1,.p (vSl 2 A0 a))],[(9000,.cells [pU t5,pU t6]),(6500,.vec B0 2 x1.n (fun i=>A0 (x1.g i)) false)]⟩ (fun M3 m=>?_) ?_
  .refine D1 hS T3 (b:=decide (0<=(d.Out.g x2.toNat).From)) (fun c19=>?_) (fun c19=>?_)
   .exact m _ [(6500,6500),(9000,9000)] _ (And.intro (c18 c19) (by decide:(2:Nat)<=2)) (hle:=klR [(4,.eq (pI .u32 (a.g (d.Out.g x2.toNat).From.toNat).Plus) (pI .u32 t5)),(5,.eq (pI .u32 (a.g (d.Out.g x2.toNat).From.toNat).Minus) (pI .u32 t6))] (al1 (by simp only[f,j,c19,Leaf.ok,pm,Rm,Rn]) (al1 (by simp only[f,j,c19,Leaf.ok,pm,Rm,Rn]) al0)))
   exact m _ [(6500,6500),(9000,9000)] _ T3 (hle:=klR [(4,.eq (pI .u32 0) (pI .u32 t5)),(5,.eq (pI .u32 0) (pI .u32 t6))] (al1 (by simp only[f,j,c19,Leaf.ok,pm,Rm,Rn]) (al1 (by simp only[f,j,c19,Leaf.ok,pm,Rm,Rn]) al0)))
  subst j;subst f;obtain⟨y5,e5,h⟩:=B1 h;refine B6 hS [] (by decide:(2:Nat)<=4) (Uz hS hL e5) ?_;apply kI hS h<;>intro h
  .refine C5 hS T3 [3,4,5,7,8] ?_;obtain⟨c21,h⟩:=C7 h;obtain⟨y6,e6,h⟩:=B1 h;refine F8 (And.intro c21 (by decide:(2:Nat)<=2)) (Ad3 hS hL e6) ?_;refine D9 T3 ?_;obtain⟨c22,h⟩:=C7 h;exact l _ [(6500,58000)] _ (x1.push y6.1) (wrap .i64 (x2+1)) (And.intro (rfl:true=true) c22) h (hle:=klR [(3,.fn (x1.n+1) (x1.push y6.1).n (I4 x1.n (fun i=>A0 (x1.g i)) (D0 [pI .u32 0,pI .u32 0] [(0,A0 y6.1)])) (fun i=>A0 ((x1.push y6.1).g i)))] (al1 ⟨rfl,W3 (c:=A0) (v:=x1) (x:=y6.1) (z:=[(pI .u32 0),pI .u32 0]) same rfl rfl⟩ al0))
  obtain⟨c23,h⟩:=C7 h;exact l _ [(6500,58000)] _ (x1.push y5.1) (wrap .i64 (x2+1)) (And.intro (rfl:true=true) c23) h (hle:=klR [(3,.fn (x1.n+1) (x1.push y5.1).n (I4 x1.n (fun i=>A0 (x1.g i)) (D0 [pI .u32 0,pI .u32 0] [(0,A0 y5.1)])) (fun i=>A0 ((x1.push y5.1).g i)))] (al1 ⟨rfl,W3 (c:=A0) (v:=x1) (x:=y5.1) (z:=[(pI .u32 0),pI .u32 0]) same rfl rfl⟩ al0))
 obtain rfl:=C0 h;exact A8 hS T3 ⟨[(4,.vec 6500)],[(6500,.vec B0 2 x1.n (fun i=>A0 (x1.g i)) true)]⟩ [6500] (ids:=[(6500,6500)]) ⟨rfl,rfl,rfl⟩
theorem ID {d:Law}{a:Sl To}{b:Int}{y:Sl To}(h:M0 N d a b=some y) :FunO S IB [.p (.agg (B2 d)),.p (vSl 2 A0 a),pN b] [] (.vec 0) ([.vec B0 2 y.n (fun i=>A0 (y.g i)) true]) []:=by unfold M0 at h;refine A1 hS Si ?_;refine D8 hS T3 6 4000 (B2 d) ?_;obtain⟨c1,h⟩:=C7 h;refine C5 hS (And.intro (And.intro (rfl:true=true) c1.1) c1.2) [1] ?_;obtain⟨c2,h⟩:=C7 h;obtain⟨y1,e1,h⟩:=B1 h;refine Ac [] (And.intro (by decide:(18:Nat)<=18) c2) (QO hS hL e1) ?_;obtain⟨c3,h⟩:=C7 h;refine D9 c3 ?_;obtain⟨c4,h⟩:=C7 h;obtain rfl:=C0 h;exact A8 hS c4 ⟨[(6,.vec 34000)],[(34000,.vec B0 2 ((((Sl.of []:Sl To).app (a.take b.toNat)).app y1).app (a.drop (wrap .i64 (b+(d.If.n:Int))).toNat)).n (fun i=>A0 (((((Sl.of []:Sl To).app (a.take b.toNat)).app y1).app (a.drop (wrap .i64 (b+(d.If.n:Int))).toNat)).g i)) true)]⟩ [34000] (ids:=[(34000,34000)]) ⟨rfl,rfl,rfl⟩ (hle:=klR [(0,.fn (((0+(a.take b.toNat).n)+y1.n)+(a.drop (wrap .i64 (b+(d.If.n:Int))).toNat).n) ((((Sl.of []:Sl To).app (a.take b.toNat)).app y1).app (a.drop (wrap .i64 (b+(d.If.n:Int))).toNat)).n (I4 ((0+(a.take b.toNat).n)+y1.n) (I4 (0+(a.take b.toNat).n) (I4 0 (D0 [pI .u32 0,pI .u32 0] []) (fun i=>A0 ((a.take b.toNat).g i))) (fun i=>A0 (y1.g i))) (fun i=>A0 ((a.drop (wrap .i64 (b+(d.If.n:Int))).toNat).g i))) (fun i=>A0 (((((Sl.of []:Sl To).app (a.take b.toNat)).app y1).app (a.drop (wrap .i64 (b+(d.If.n:Int))).toNat)).g i)))] (al1 ⟨rfl,KB (c:=A0) (v:=((Sl.of []:Sl To).app (a.take b.toNat)).app y1) (w:=a.drop (wrap .i64 (b+(d.If.n:Int))).toNat) (KB (c:=A0) (v:=(Sl.of []:Sl To).app (a.take b.toNat)) (w:=y1) (KB (c:=A0) (v:=(Sl.of []:Sl To)) (w:=a.take b.toNat) (fun i f=>Kh f (by omega)) rfl same rfl) rfl same rfl) rfl same rfl⟩ al0))
theorem Av3 {a:Law}{d:Sl To}{y:(Sl Int)×(Sl (Sl To))×Int}(h:Du N a d=some y) :FunO S QJ [.p (.agg (B2 a)),.p (vSl 2 A0 d)] [] (.tup [.vec 0,.vec 1,pN y.2.2]) ([.vec B8 1 y.1.n (fun i=>cI .i64 (y.1.g i)) true,.vec A6 1 y.2.1.n (fun i=>cL 2 A0 (y.2.1.g i)) true]) []:=by
 unfold Du at h;refine A1 hS Au8 ?_;refine D8 hS T3 4 3000 (B2 a) ?_;refine Nb hS T3 h (fun x2 x3 x4 x5=>⟨[(10,pN x5),(9,.vec 10501),(8,.vec 9500),(7,.vec 8500),(2,.p (.ptr (B2 a))),(1,.p (vSl 2 A0 d))],[(10501,.vec B0 2 x4.n (fun i=>A0 (x4.g i)) false),(9500,.vec A6 1 x3.n (fun i=>cL 2 A0 (x3.g i)) false),(8500,.vec B8 1 x2.n (fun i=>cI .i64 (x2.g i)) false)]⟩) (ids:=[]) (fun _ _ _ _ _ l x2 x3 x4 x5 f h=>?_);apply kI hS h<;>intro h
 .obtain⟨y5,e5,h⟩:=B1 h;refine B6 hS [] (by decide:(18:Nat)<=18) (Jr hS hL e5) ?_;apply kI hS h<;>intro h
  .refine Ai hS T3 (A2 hS) h 0 (fun z3=>⟨[(10,pN x5),(9,.vec 10500),(8,.vec 9500),(7,.vec 8500),(2,.p (.ptr (B2 a))),(1,.p (vSl 2 A0 d))],[(10500,.vec B0 2 z3.n (fun i=>A0 (z3.g i)) false),(9500,.vec A6 1 x3.n (fun i=>cL 2 A0 (x3.g i)) false),(8500,.vec B8 1 x2.n (fun i=>cI .i64 (x2.g i)) false)]⟩) (fun M6 k3 j h=>?_) (fun z3 h=>?_)
   .apply kI hS h<;>intro h
    .obtain⟨c40,h⟩:=C7 h;exact j _ [(8500,8500),(9500,9500),(10500,33000)] _ (x4.push (d.g x5.toNat)) (And.intro (And.intro (And.intro c40.1 (by decide:(2:Nat)<=2)) (rfl:true=true)) c40.2) h (hle:=klR [(3,.fn (x4.n+1) (x4.push (d.g x5.toNat)).n (I4 x4.n (fun i=>A0 (x4.g i)) (D0 [pI .u32 0,pI .u32 0] [(0,A0 (d.g x5.toNat))])) (fun i=>A0 ((x4.push (d.g x5.toNat)).g i)))] (al1 ⟨rfl,W3 (c:=A0) (v:=x4) (x:=d.g x5.toNat) (z:=[(pI .u32 0),pI .u32 0]) same rfl rfl⟩ al0))
    exact j _ [(8500,8500),(9500,9500),(10500,10501)] _ x4 T3 h
   exact f _ [(8500,8500),(9500,9500),(10501,10500)] _ x2 x3 z3 (wrap .i64 (x5+1)) T3 h
  refine C5 hS T3 [1] ?_;obtain⟨c41,h⟩:=C7 h;obtain⟨y6,e6,h⟩:=B1 h;refine Ac [] (And.intro (by decide:(18:Nat)<=18) c41) (QO hS hL e6) ?_;obtain⟨c42,h⟩:=C7 h;refine D9 c42 ?_;obtain⟨c43,h⟩:=C7 h;refine C5 hS (And.intro (rfl:true=true) c43) [1000] ?_;obtain⟨c44,h⟩:=C7 h;refine D9 (And.intro (And.intro (And.intro (rfl:true=true) c44.1.1) c44.1.2) c44.2) ?_;apply kI hS h<;>intro h
  .obtain rfl:=C0 h;exact A8 hS T3 ⟨[(6,pN 11),(5,.vec 6701),(4,.vec 5700)],[(6701,.vec A6 1 (Sl.nil:Sl (Sl To)).n (fun i=>cL 2 A0 ((Sl.nil:Sl (Sl To)).g i)) true),(5700,.vec B8 1 (Sl.nil:Sl Int).n (fun i=>cI .i64 ((Sl.nil:Sl Int).g i)) true)]⟩ [5700,6701] (ids:=[]) ⟨rfl,rfl,rfl⟩
  refine G9 hS T3 66 ⟨[(65,.vec 61000),(64,.vec 9500),(11,pN (a.If.n:Int)),(10,pN x5),(9,.vec 48000),(7,.vec 52000),(2,.p (.ptr (B2 a))),(1,.p (vSl 2 A0 d))],[(61000,.vec B0 2 (((Sl.of []:Sl To).app (x4.app y6)).app (d.drop (wrap .i64 (x5+(a.If.n:Int))).toNat)).n (fun i=>A0 ((((Sl.of []:Sl To).app (x4.app y6)).app (d.drop (wrap .i64 (x5+(a.If.n:Int))).toNat)).g i)) true),(52000,.vec B8 1 (x2.push x5).n (fun i=>cI .i64 ((x2.push x5).g i)) false),(48000,.vec B0 2 (x4.app y6).n (fun i=>A0 ((x4.app y6).g i)) false),(9500,.vec A6 1 x3.n (fun i=>cL 2 A0 (x3.g i)) false)]⟩ (ids:=[(9500,9500),(48000,48000),(52000,52000),(61000,61000)]) ?_ (hle:=klR [(4,.fn ((0+(x4.n+y6.n))+(d.drop (wrap .i64 (x5+(a.If.n:Int))).toNat).n) (((Sl.of []:Sl To).app (x4.app y6)).app (d.drop (wrap .i64 (x5+(a.If.n:Int))).toNat)).n (I4 (0+(x4.n+y6.n)) (I4 0 (D0 [pI .u32 0,pI .u32 0] []) (I4 x4.n (fun i=>A0 (x4.g i)) (fun i=>A0 (y6.g i)))) (fun i=>A0 ((d.drop (wrap .i64 (x5+(a.If.n:Int))).toNat).g i))) (fun i=>A0 ((((Sl.of []:Sl To).app (x4.app y6)).app (d.drop (wrap .i64 (x5+(a.If.n:Int))).toNat)).g i))),(5,.fn (x2.n+1) (x2.push x5).n (I4 x2.n (fun i=>cI .i64 (x2.g i)) (D0 [pI .i64 0] [(0,cI .i64 x5)])) (fun i=>cI .i64 ((x2.push x5).g i))),(6,.fn (x4.n+y6.n) (x4.app y6).n (I4 x4.n (fun i=>A0 (x4.g i)) (fun i=>A0 (y6.g i))) (fun i=>A0 ((x4.app y6).g i)))] (al1 ⟨rfl,KB (c:=A0) (v:=(Sl.of []:Sl To).app (x4.app y6)) (w:=d.drop (wrap .i64 (x5+(a.If.n:Int))).toNat) (KB (c:=A0) (v:=(Sl.of []:Sl To)) (w:=x4.app y6) (fun i m=>Kh m (by omega)) rfl (KB (c:=A0) (v:=x4) (w:=y6) same rfl same rfl) rfl) rfl same rfl⟩ (al1 ⟨rfl,W3 (c:=cI .i64) (v:=x2) (x:=x5) (z:=[(pI .i64 0)]) same rfl rfl⟩ (al1 ⟨rfl,KB (c:=A0) (v:=x4) (w:=y6) same rfl same rfl⟩ al0))));obtain⟨c46,h⟩:=C7 h;refine D1 hS (And.intro (rfl:true=true) c46) (b:=(a.If.n:Int)==0) (fun c47=>?_) (fun c47=>?_)
  .replace h:=itT c47 h;apply kI hS h<;>intro h
   .obtain⟨c49,h⟩:=C7 h;exact f _ [(8500,52000),(9500,68000),(10501,84000)] _ (x2.push x5) (x3.push (((Sl.of []:Sl To).app (x4.app y6)).app (d.drop (wrap .i64 (x5+(a.If.n:Int))).toNat))) ((x4.app y6).push (d.g (wrap .i64 (x5+(a.If.n:Int))).toNat)) (wrap .i64 ((wrap .i64 (x5+(a.If.n:Int)))+1)) (And.intro (And.intro (And.intro c49.1 (by decide:(2:Nat)<=2)) (rfl:true=true)) c49.2) h (hle:=klR [(3,.fn ((x4.app y6).n+1) ((x4.app y6).push (d.g (wrap .i64 (x5+(a.If.n:Int))).toNat)).n (I4 (x4.app y6).n (fun i=>A0 ((x4.app y6).g i)) (D0 [pI .u32 0,pI .u32 0] [(0,A0 (d.g (wrap .i64 (x5+(a.If.n:Int))).toNat))])) (fun i=>A0 (((x4.app y6).push (d.g (wrap .i64 (x5+(a.If.n:Int))).toNat)).g i))),(4,.fn (x3.n+1) (x3.push (((Sl.of []:Sl To).app (x4.app y6)).app (d.drop (wrap .i64 (x5+(a.If.n:Int))).toNat))).n (I4 x3.n (fun i=>cL 2 A0 (x3.g i)) (D0 [G6] [(0,cL 2 A0 (((Sl.of []:Sl To).app (x4.app y6)).app (d.drop (wrap .i64 (x5+(a.If.n:Int))).toNat)))])) (fun i=>cL 2 A0 ((x3.push (((Sl.of []:Sl To).app (x4.app y6)).app (d.drop (wrap .i64 (x5+(a.If.n:Int))).toNat))).g i)))] (al1 ⟨rfl,W3 (c:=A0) (v:=x4.app y6) (x:=d.g (wrap .i64 (x5+(a.If.n:Int))).toNat) (z:=[(pI .u32 0),pI .u32 0]) same rfl rfl⟩ (al1 ⟨rfl,W3 (c:=cL 2 A0) (v:=x3) (x:=((Sl.of []:Sl To).app (x4.app y6)).app (d.drop (wrap .i64 (x5+(a.If.n:Int))).toNat)) (z:=[G6]) same rfl rfl⟩ al0)))
   exact f _ [(8500,52000),(9500,68000),(10501,48000)] _ (x2.push x5) (x3.push (((Sl.of []:Sl To).app (x4.app y6)).app (d.drop (wrap .i64 (x5+(a.If.n:Int))).toNat))) (x4.app y6) (wrap .i64 ((wrap .i64 (x5+(a.If.n:Int)))+1)) T3 h (hle:=klR [(4,.fn (x3.n+1) (x3.push (((Sl.of []:Sl To).app (x4.app y6)).app (d.drop (wrap .i64 (x5+(a.If.n:Int))).toNat))).n (I4 x3.n (fun i=>cL 2 A0 (x3.g i)) (D0 [G6] [(0,cL 2 A0 (((Sl.of []:Sl To).app (x4.app y6)).app (d.drop (wrap .i64 (x5+(a.If.n:Int))).toNat)))])) (fun i=>cL 2 A0 ((x3.push (((Sl.of []:Sl To).app (x4.app y6)).app (d.drop (wrap .i64 (x5+(a.If.n:Int))).toNat))).g i)))] (al1 ⟨rfl,W3 (c:=cL 2 A0) (v:=x3) (x:=((Sl.of []:Sl To).app (x4.app y6)).app (d.drop (wrap .i64 (x5+(a.If.n:Int))).toNat)) (z:=[G6]) same rfl rfl⟩ al0))
  replace h:=itF c47 h;exact f _ [(8500,52000),(9500,68000),(10501,48000)] _ (x2.push x5) (x3.push (((Sl.of []:Sl To).app (x4.app y6)).app (d.drop (wrap .i64 (x5+(a.If.n:Int))).toNat))) (x4.app y6) (wrap .i64 (x5+(a.If.n:Int))) T3 h (hle:=klR [(4,.fn (x3.n+1) (x3.push (((Sl.of []:Sl To).app (x4.app y6)).app (d.drop (wrap .i64 (x5+(a.If.n:Int))).toNat))).n (I4 x3.n (fun i=>cL 2 A0 (x3.g i)) (D0 [G6] [(0,cL 2 A0 (((Sl.of []:Sl To).app (x4.app y6)).app (d.drop (wrap .i64 (x5+(a.If.n:Int))).toNat)))])) (fun i=>cL 2 A0 ((x3.push (((Sl.of []:Sl To).app (x4.app y6)).app (d.drop (wrap .i64 (x5+(a.If.n:Int))).toNat))).g i)))] (al1 ⟨rfl,W3 (c:=cL 2 A0) (v:=x3) (x:=((Sl.of []:Sl To).app (x4.app y6)).app (d.drop (wrap .i64 (x5+(a.If.n:Int))).toNat)) (z:=[G6]) same rfl rfl⟩ al0))
 obtain rfl:=C0 h;exact A8 hS T3 ⟨[(6,pN 0),(5,.vec 9500),(4,.vec 8500)],[(9500,.vec A6 1 x3.n (fun i=>cL 2 A0 (x3.g i)) true),(8500,.vec B8 1 x2.n (fun i=>cI .i64 (x2.g i)) true)]⟩ [8500,9500] (ids:=[(8500,8500),(9500,9500)]) ⟨rfl,rfl,rfl⟩
theorem Yx {a:Law}{f:Sl To}{y:(Sl Int)×(Sl (Sl To))×Int}(h:Am N a f=some y) :FunO S Mq [.p (.agg (B2 a)),.p (vSl 2 A0 f)] [] (.tup [.vec 0,.vec 1,pN y.2.2]) ([.vec B8 1 y.1.n (fun i=>cI .i64 (y.1.g i)) true,.vec A6 1 y.2.1.n (fun i=>cL 2 A0 (y.2.1.g i)) true]) []:=by
 unfold Am at h;refine A1 hS Yq ?_;refine Nb hS T3 h (fun x1 x2 x3 x4=>⟨[(10,pN x4),(9,pN (a.If.n:Int)),(8,.vec 9500),(7,.vec 8500),(2,.reg 3000 0),(1,.p (vSl 2 A0 x1))],[(9500,.vec A6 1 x3.n (fun i=>cL 2 A0 (x3.g i)) false),(8500,.vec B8 1 x2.n (fun i=>cI .i64 (x2.g i)) false),(3000,.cells ((B2 a).map .p))]⟩) (ids:=[(3000,3000)]) (fun _ _ _ _ _ j x1 x2 x3 x4 d h=>?_);apply kI hS h<;>intro h
 .refine kC hS h (Jr hS hL) (fun y5 h=>?_);apply kI hS h<;>intro h
  .exact d _ [(3000,3000),(8500,8500),(9500,9500)] _ x1 x2 x3 (wrap .i64 (x4+1)) T3 h
  refine kC hS h (ID hS hL) (fun y6 h=>?_);apply kI hS h<;>intro h
  .obtain rfl:=C0 h;exact A8 hS T3 ⟨[(6,pN 11),(5,.vec 6701),(4,.vec 5700)],[(6701,.vec A6 1 (Sl.nil:Sl (Sl To)).n (fun i=>cL 2 A0 ((Sl.nil:Sl (Sl To)).g i)) true),(5700,.vec B8 1 (Sl.nil:Sl Int).n (fun i=>cI .i64 ((Sl.nil:Sl Int).g i)) true)]⟩ [5700,6701] (ids:=[]) ⟨rfl,rfl,rfl⟩
  obtain⟨c14,h⟩:=C7 h;refine D1 hS (And.intro (And.intro (And.intro (rfl:true=true) c14.1) (rfl:true=true)) c14.2) (b:=(a.If.n:Int)==0) (fun c15=>?_) (fun c15=>?_)
  .replace h:=itT c15 h;exact d _ [(3000,3000),(8500,38000),(9500,42000)] _ y6 (x2.push x4) (x3.push y6) (wrap .i64 ((wrap .i64 (x4+(a.Out.n:Int)))+1)) T3 h (hle:=klR [(3,.fn (x3.n+1) (x3.push y6).n (I4 x3.n (fun i=>cL 2 A0 (x3.g i)) (D0 [G6] [(0,cL 2 A0 y6)])) (fun i=>cL 2 A0 ((x3.push y6).g i))),(4,.fn (x2.n+1) (x2.push x4).n (I4 x2.n (fun i=>cI .i64 (x2.g i)) (D0 [pI .i64 0] [(0,cI .i64 x4)])) (fun i=>cI .i64 ((x2.push x4).g i)))] (al1 ⟨rfl,W3 (c:=cL 2 A0) (v:=x3) (x:=y6) (z:=[G6]) same rfl rfl⟩ (al1 ⟨rfl,W3 (c:=cI .i64) (v:=x2) (x:=x4) (z:=[(pI .i64 0)]) same rfl rfl⟩ al0)))
  replace h:=itF c15 h;exact d _ [(3000,3000),(8500,38000),(9500,42000)] _ y6 (x2.push x4) (x3.push y6) (wrap .i64 (x4+(a.Out.n:Int))) T3 h (hle:=klR [(3,.fn (x3.n+1) (x3.push y6).n (I4 x3.n (fun i=>cL 2 A0 (x3.g i)) (D0 [G6] [(0,cL 2 A0 y6)])) (fun i=>cL 2 A0 ((x3.push y6).g i))),(4,.fn (x2.n+1) (x2.push x4).n (I4 x2.n (fun i=>cI .i64 (x2.g i)) (D0 [pI .i64 0] [(0,cI .i64 x4)])) (fun i=>cI .i64 ((x2.push x4).g i)))] (al1 ⟨rfl,W3 (c:=cL 2 A0) (v:=x3) (x:=y6) (z:=[G6]) same rfl rfl⟩ (al1 ⟨rfl,W3 (c:=cI .i64) (v:=x2) (x:=x4) (z:=[(pI .i64 0)]) same rfl rfl⟩ al0)))
 obtain rfl:=C0 h;exact A8 hS T3 ⟨[(6,pN 0),(5,.vec 9500),(4,.vec 8500)],[(9500,.vec A6 1 x3.n (fun i=>cL 2 A0 (x3.g i)) true),(8500,.vec B8 1 x2.n (fun i=>cI .i64 (x2.g i)) true)]⟩ [8500,9500] (ids:=[(8500,8500),(9500,9500)]) ⟨rfl,rfl,rfl⟩
theorem Ae0 {a:Law}{f:Sl To}{y:(Sl Int)×(Sl (Sl To))×Int}(h:AN N a f=some y) :FunO S Oa [.p (.agg (B2 a)),.p (vSl 2 A0 f)] [] (.tup [.vec 0,.vec 1,pN y.2.2]) ([.vec B8 1 y.1.n (fun i=>cI .i64 (y.1.g i)) true,.vec A6 1 y.2.1.n (fun i=>cL 2 A0 (y.2.1.g i)) true]) []:=by
 unfold AN at h;refine A1 hS Ac7 ?_;refine Nb hS T3 h (fun x1 x2 x3 x4=>⟨[(10,pN x4),(9,pN (a.If.n:Int)),(8,.vec 9500),(7,.vec 8500),(2,.reg 3000 0),(1,.p (vSl 2 A0 x1))],[(9500,.vec A6 1 x3.n (fun i=>cL 2 A0 (x3.g i)) false),(8500,.vec B8 1 x2.n (fun i=>cI .i64 (x2.g i)) false),(3000,.cells ((B2 a).map .p))]⟩) (ids:=[(3000,3000)]) (fun _ _ _ _ _ j x1 x2 x3 x4 d h=>?_);apply kI hS h<;>intro h
 .refine kC hS h (Jr hS hL) (fun y5 h=>?_);apply kI hS h<;>intro h
  .exact d _ [(3000,3000),(8500,8500),(9500,9500)] _ x1 x2 x3 (wrap .i64 (x4-1)) T3 h
  refine kC hS h (ID hS hL) (fun y6 h=>?_);apply kI hS h<;>intro h
  .obtain rfl:=C0 h;exact A8 hS T3 ⟨[(6,pN 11),(5,.vec 6701),(4,.vec 5700)],[(6701,.vec A6 1 (Sl.nil:Sl (Sl To)).n (fun i=>cL 2 A0 ((Sl.nil:Sl (Sl To)).g i)) true),(5700,.vec B8 1 (Sl.nil:Sl Int).n (fun i=>cI .i64 ((Sl.nil:Sl Int).g i)) true)]⟩ [5700,6701] (ids:=[]) ⟨rfl,rfl,rfl⟩
  obtain⟨c14,h⟩:=C7 h;refine D1 hS (And.intro (And.intro (And.intro (rfl:true=true) c14.1) (rfl:true=true)) c14.2) (b:=(a.If.n:Int)==0) (fun c15=>?_) (fun c15=>?_)
  .replace h:=itT c15 h;exact d _ [(3000,3000),(8500,38000),(9500,42000)] _ y6 (x2.push x4) (x3.push y6) (wrap .i64 ((wrap .i64 (x4-(a.If.n:Int)))-1)) T3 h (hle:=klR [(3,.fn (x3.n+1) (x3.push y6).n (I4 x3.n (fun i=>cL 2 A0 (x3.g i)) (D0 [G6] [(0,cL 2 A0 y6)])) (fun i=>cL 2 A0 ((x3.push y6).g i))),(4,.fn (x2.n+1) (x2.push x4).n (I4 x2.n (fun i=>cI .i64 (x2.g i)) (D0 [pI .i64 0] [(0,cI .i64 x4)])) (fun i=>cI .i64 ((x2.push x4).g i)))] (al1 ⟨rfl,W3 (c:=cL 2 A0) (v:=x3) (x:=y6) (z:=[G6]) same rfl rfl⟩ (al1 ⟨rfl,W3 (c:=cI .i64) (v:=x2) (x:=x4) (z:=[(pI .i64 0)]) same rfl rfl⟩ al0)))
  replace h:=itF c15 h;exact d _ [(3000,3000),(8500,38000),(9500,42000)] _ y6 (x2.push x4) (x3.push y6) (wrap .i64 (x4-(a.If.n:Int))) T3 h (hle:=klR [(3,.fn (x3.n+1) (x3.push y6).n (I4 x3.n (fun i=>cL 2 A0 (x3.g i)) (D0 [G6] [(0,cL 2 A0 y6)])) (fun i=>cL 2 A0 ((x3.push y6).g i))),(4,.fn (x2.n+1) (x2.push x4).n (I4 x2.n (fun i=>cI .i64 (x2.g i)) (D0 [pI .i64 0] [(0,cI .i64 x4)])) (fun i=>cI .i64 ((x2.push x4).g i)))] (al1 ⟨rfl,W3 (c:=cL 2 A0) (v:=x3) (x:=y6) (z:=[G6]) same rfl rfl⟩ (al1 ⟨rfl,W3 (c:=cI .i64) (v:=x2) (x:=x4) (z:=[(pI .i64 0)]) same rfl rfl⟩ al0)))
 obtain rfl:=C0 h;exact A8 hS T3 ⟨[(6,pN 0),(5,.vec 9500),(4,.vec 8500)],[(9500,.vec A6 1 x3.n (fun i=>cL 2 A0 (x3.g i)) true),(8500,.vec B8 1 x2.n (fun i=>cI .i64 (x2.g i)) true)]⟩ [8500,9500] (ids:=[(8500,8500),(9500,9500)]) ⟨rfl,rfl,rfl⟩
theorem Yy {a:Law}{b:Sl To}{y:(Sl Int)×(Sl (Sl To))×Int}(h:An N a b=some y) :FunO S Mo [.p (.agg (B2 a)),.p (vSl 2 A0 b)] [] (.tup [.vec 0,.vec 1,pN y.2.2]) ([.vec B8 1 y.1.n (fun i=>cI .i64 (y.1.g i)) true,.vec A6 1 y.2.1.n (fun i=>cL 2 A0 (y.2.1.g i)) true]) []:=by
 unfold An at h;refine A1 hS Yo ?_;refine kC hS h (Yw hS hL) (fun y1 h=>?_);apply kI hS h<;>intro h
 .obtain rfl:=C0 h;exact A8 hS T3 ⟨[(6,pN y1),(5,.vec 6701),(4,.vec 5700)],[(6701,.vec A6 1 (Sl.nil:Sl (Sl To)).n (fun i=>cL 2 A0 ((Sl.nil:Sl (Sl To)).g i)) true),(5700,.vec B8 1 (Sl.nil:Sl Int).n (fun i=>cI .i64 ((Sl.nil:Sl Int).g i)) true)]⟩ [5700,6701] (ids:=[]) ⟨rfl,rfl,rfl⟩
 apply kI hS h<;>intro h
 .refine kC hS h (Av3 hS hL) (fun y2 h=>?_);obtain rfl:=C0 h;exact A8 hS T3 ⟨[(6,pN y2.2.2),(5,.vec 21001),(4,.vec 21000)],[(21001,.vec A6 1 y2.2.1.n (fun i=>cL 2 A0 (y2.2.1.g i)) true),(21000,.vec B8 1 y2.1.n (fun i=>cI .i64 (y2.1.g i)) true)]⟩ [21000,21001] (ids:=[(21000,21000),(21001,21001)]) ⟨rfl,rfl,rfl⟩
 apply kI hS h<;>intro h
 .refine kC hS h (Yx hS hL) (fun y3 h=>?_);obtain rfl:=C0 h;exact A8 hS T3 ⟨[(6,pN y3.2.2),(5,.vec 29001),(4,.vec 29000)],[(29001,.vec A6 1 y3.2.1.n (fun i=>cL 2 A0 (y3.2.1.g i)) true),(29000,.vec B8 1 y3.1.n (fun i=>cI .i64 (y3.1.g i)) true)]⟩ [29000,29001] (ids:=[(29000,29000),(29001,29001)]) ⟨rfl,rfl,rfl⟩
 refine kC hS h (Ae0 hS hL) (fun y4 h=>?_);obtain rfl:=C0 h;exact A8 hS T3 ⟨[(6,pN y4.2.2),(5,.vec 35001),(4,.vec 35000)],[(35001,.vec A6 1 y4.2.1.n (fun i=>cL 2 A0 (y4.2.1.g i)) true),(35000,.vec B8 1 y4.1.n (fun i=>cI .i64 (y4.1.g i)) true)]⟩ [35000,35001] (ids:=[(35000,35000),(35001,35001)]) ⟨rfl,rfl,rfl⟩
theorem Yz {b:Law}{a:Sl To}{y:(Sl To)×Int}(h:Y1 N b a=some y) :FunO S Mn [.p (.agg (B2 b)),.p (vSl 2 A0 a)] [] (.tup [.vec 0,pN y.2]) ([.vec B0 2 y.1.n (fun i=>A0 (y.1.g i)) true]) []:=by
 unfold Y1 at h;refine A1 hS Yn ?_;refine kC hS h (Yy hS hL) (fun y1 h=>?_);apply kI hS h<;>intro h
 .obtain rfl:=C0 h;exact A8 hS T3 ⟨[(5,pN y1.2.2),(4,.vec 5700)],[(5700,.vec B0 2 (Sl.nil:Sl To).n (fun i=>A0 ((Sl.nil:Sl To).g i)) true)]⟩ [5700] (ids:=[]) ⟨rfl,rfl,rfl⟩
 apply kI hS h<;>intro h
 .obtain⟨c3,h⟩:=C7 h;obtain rfl:=C0 h;exact A8 hS (And.intro (rfl:true=true) c3) ⟨[(5,pN 0),(4,.vec 25000)],[(25000,.vec B0 2 ((Sl.of []:Sl To).app a).n (fun i=>A0 (((Sl.of []:Sl To).app a).g i)) true)]⟩ [25000] (ids:=[(25000,25000)]) ⟨rfl,rfl,rfl⟩ (hle:=klR [(1,.fn (0+a.n) ((Sl.of []:Sl To).app a).n (I4 0 (D0 [pI .u32 0,pI .u32 0] []) (fun i=>A0 (a.g i))) (fun i=>A0 (((Sl.of []:Sl To).app a).g i)))] (al1 ⟨rfl,KB (c:=A0) (v:=(Sl.of []:Sl To)) (w:=a) (fun i d=>Kh d (by omega)) rfl same rfl⟩ al0))
 obtain⟨c4,h⟩:=C7 h;obtain rfl:=C0 h;exact A8 hS (And.intro (And.intro (And.intro (rfl:true=true) c4.1.1) c4.1.2) c4.2) ⟨[(5,pN 0),(4,.vec 33000)],[(33000,.vec B0 2 ((Sl.of []:Sl To).app (y1.2.1.g (wrap .i64 ((y1.2.1.n:Int)-1)).toNat)).n (fun i=>A0 (((Sl.of []:Sl To).app (y1.2.1.g (wrap .i64 ((y1.2.1.n:Int)-1)).toNat)).g i)) true)]⟩ [33000] (ids:=[(33000,33000)]) ⟨rfl,rfl,rfl⟩ (hle:=klR [(1,.fn (0+(y1.2.1.g (wrap .i64 ((y1.2.1.n:Int)-1)).toNat).n) ((Sl.of []:Sl To).app (y1.2.1.g (wrap .i64 ((y1.2.1.n:Int)-1)).toNat)).n (I4 0 (D0 [pI .u32 0,pI .u32 0] []) (fun i=>A0 ((y1.2.1.g (wrap .i64 ((y1.2.1.n:Int)-1)).toNat).g i))) (fun i=>A0 (((Sl.of []:Sl To).app (y1.2.1.g (wrap .i64 ((y1.2.1.n:Int)-1)).toNat)).g i)))] (al1 ⟨rfl,KB (c:=A0) (v:=(Sl.of []:Sl To)) (w:=y1.2.1.g (wrap .i64 ((y1.2.1.n:Int)-1)).toNat) (fun i d=>Kh d (by omega)) rfl same rfl⟩ al0))
theorem YA {a:Sl Law}{b:Sl To}{y:(Sl (Sl To))×Int}(h:Bp N a b=some y) :FunO S Mj [.p (vSl 18 B2 a),.p (vSl 2 A0 b)] [] (.tup [.vec 0,pN y.2]) ([.vec A6 1 y.1.n (fun i=>cL 2 A0 (y.1.g i)) true]) []:=by
 unfold Bp at h;refine A1 hS Yj ?_;refine kC hS h (Yv hS hL) (fun y1 h=>?_);refine Ai hS T3 (A2 hS) h 0 (fun z1=>⟨[(6,pN z1),(1,.p (vSl 2 A0 b)),(0,.p (vSl 18 B2 a))],[]⟩) (fun M1 k1 d h=>?_) (fun z1 h=>?_)
 .apply kI hS h<;>intro h
  .refine kC hS h (DN hS hL) (fun y3 h=>?_);exact d _ [] _ y3 T3 h
  exact d _ [] _ y1 T3 h
 apply kI hS h<;>intro h
 .obtain rfl:=C0 h;exact A8 hS T3 ⟨[(5,pN z1),(4,.vec 5700)],[(5700,.vec A6 1 (Sl.nil:Sl (Sl To)).n (fun i=>cL 2 A0 ((Sl.nil:Sl (Sl To)).g i)) true)]⟩ [5700] (ids:=[]) ⟨rfl,rfl,rfl⟩
 refine kC hS h (Ad4 hS hL) (fun y4 h=>?_);refine D7 hS (rfl:true=true) h (fun x2 x3=>⟨[(8,pN x3),(7,.vec 8500),(0,.p (vSl 18 B2 a))],[(8500,.vec A6 1 x2.n (fun i=>cL 2 A0 (x2.g i)) false)]⟩) (ids:=[(8500,23000)]) (fun _ _ _ _ _ f x2 x3 j h=>?_) (hle:=klR [(2,.fn 1 (Sl.of [y4]:Sl (Sl To)).n (D0 [G6] [(0,cL 2 A0 y4)]) (fun i=>cL 2 A0 ((Sl.of [y4]:Sl (Sl To)).g i)))] (al1 ⟨rfl,(fun i l=>match i,l with|0,_=>rfl|_+1,l=>Kh l (by omega))⟩ al0));apply kI hS h<;>intro h
 .refine C5 hS T3 [2,3] ?_;obtain⟨c12,h⟩:=C7 h;obtain⟨y7,e7,h⟩:=B1 h;refine Ac [] (And.intro (And.intro (And.intro c12.1.1 (by decide:(18:Nat)<=18)) c12.1.2) c12.2) (Yz hS hL e7) ?_;refine D9 T3 ?_;apply kI hS h<;>intro h
  .obtain rfl:=C0 h;exact A8 hS T3 ⟨[(5,pN y7.2),(4,.vec 5700)],[(5700,.vec A6 1 (Sl.nil:Sl (Sl To)).n (fun i=>cL 2 A0 ((Sl.nil:Sl (Sl To)).g i)) true)]⟩ [5700] (ids:=[]) ⟨rfl,rfl,rfl⟩
  obtain⟨c14,h⟩:=C7 h;exact j _ [(8500,48000)] _ (x2.push y7.1) (wrap .i64 (x3+1)) (And.intro (rfl:true=true) c14) h (hle:=klR [(2,.fn (x2.n+1) (x2.push y7.1).n (I4 x2.n (fun i=>cL 2 A0 (x2.g i)) (D0 [G6] [(0,cL 2 A0 y7.1)])) (fun i=>cL 2 A0 ((x2.push y7.1).g i)))] (al1 ⟨rfl,W3 (c:=cL 2 A0) (v:=x2) (x:=y7.1) (z:=[G6]) same rfl rfl⟩ al0))
 obtain rfl:=C0 h;exact A8 hS T3 ⟨[(5,pN 0),(4,.vec 8500)],[(8500,.vec A6 1 x2.n (fun i=>cL 2 A0 (x2.g i)) true)]⟩ [8500] (ids:=[(8500,8500)]) ⟨rfl,rfl,rfl⟩
theorem UC {a:Sl Law}{b:Sl To}{y:(Sl To)×Int}(h:U5 N a b=some y) :FunO S Kj [.p (vSl 18 B2 a),.p (vSl 2 A0 b)] [] (.tup [.p (vSl 2 A0 y.1),pN y.2]) ([]) []:=by
 unfold U5 at h;refine A1 hS Uu ?_;refine kC hS h (YA hS hL) (fun y1 h=>?_);apply kI hS h<;>intro h
 .obtain rfl:=C0 h;exact A8 hS T3 ⟨[(5,pN y1.2),(4,.p (vSl 2 A0 (Sl.nil:Sl To)))],[]⟩ [] (ids:=[]) ⟨rfl,rfl,rfl⟩
 obtain⟨c2,h⟩:=C7 h;obtain rfl:=C0 h;exact AN0 hS c2 [] ⟨rfl,rfl,rfl⟩
end Go.AM
namespace Go.AM
variable {N:Nat}
open IntKind (wrap)
open Go.Proofs
set_option maxRecDepth 10000
set_option maxHeartbeats 2000000
variable {S:W1}(hS:H9 S Tryz.prog) (hL:GD S)
include hS hL
theorem UD {b:Int}{y:Bool}(h:Bv N b=some y) :FunO S Kk [.p (pI .u8 b)] [] (pB y) ([]) []:=by unfold Bv at h;refine A1 hS Uv ?_;refine kB hS (A2 hS) T3 T3 23 (.o (.o (.o (.n (.a (decide (97<=b))) (.a (decide (b<=122)))) (.n (.a (decide (65<=b))) (.a (decide (b<=90))))) (.n (.a (decide (48<=b))) (.a (decide (b<=57))))) (.a (b==45))) ?_;cases h;exact kR hS
theorem Hy {b:Str}{y:Bool}(h:S2 N b=some y) :FunO S NS [.p (.str b)] [] (pB y) ([]) []:=by
 unfold S2 at h;refine A1 hS Ab7 ?_;refine E2 hS T3 h (fun x1=>⟨[(3,pN x1),(0,.p (.str b))],[]⟩) (ids:=[]) (fun _ _ _ _ _ c x1 d h=>?_);apply kI hS h<;>intro h
 .obtain⟨c8,h⟩:=C7 h;obtain⟨y3,e3,h⟩:=B1 h;refine B6 hS [] c8 (UD hS hL e3) ?_;apply kI hS h<;>intro h
  .cases h;exact kR hS
  exact d _ [] _ (wrap .i64 (x1+1)) T3 h
 refine kB hS (A2 hS) T3 T3 4 (.n (.a (decide (1<=(b.length:Int)))) (.a (decide ((b.length:Int)<=24)))) ?_;cases h;exact kR hS
theorem GB {c:Sl J6}{y:Int}(h:S7 N c=some y) :FunO S Mg [.p (vSl 2 E4 c)] [] (pN y) ([]) []:=by
 unfold S7 at h;refine A1 hS Yg ?_;obtain⟨c1,h⟩:=C7 h;refine kB hS (A2 hS) T3 c1 11 (.o (.o (.a (decide ((c.n:Int)<1))) (.a (decide (63<(c.n:Int))))) (.a ((c.g 0).Parent != (-1)))) ?_;apply kI hS h<;>intro h
 .cases h;exact kR hS
 refine E2 hS T3 h (fun x3=>⟨[(3,pN x3),(0,.p (vSl 2 E4 c))],[]⟩) (ids:=[]) (fun _ _ _ _ _ f x3 i h=>?_);apply kI hS h<;>intro h
 .refine Ai hS T3 (A2 hS) h 0 (fun z3=>⟨[(53,pB z3),(3,pN x3),(0,.p (vSl 2 E4 c))],[]⟩) (fun M3 k3 d h=>?_) (fun z3 h=>?_)
  .refine kG hS h (fun h=>?_) (fun h=>?_)
   .obtain⟨c71,h⟩:=C7 h;refine X9 hS c71 (b:=decide ((c.g x3.toNat).Parent<0)) (fun c72=>?_) (fun c72=>?_)
    .replace h:=itT c72 h;exact d _ [] _ true T3 h
    replace h:=itF c72 h;obtain⟨c73,h⟩:=C7 h;refine X9 hS c73 (b:=decide (x3<=(c.g x3.toNat).Parent)) (fun c74=>?_) (fun c74=>?_)
    .replace h:=itT c74 h;exact d _ [] _ true T3 h
    replace h:=itF c74 h;obtain⟨c75,h⟩:=C7 h;obtain⟨j,e11,h⟩:=B1 h;refine B6 hS [] c75 (Hy hS hL e11) ?_;exact d _ [] _ (!j) T3 h
   obtain⟨c76,h⟩:=C7 h;obtain⟨l,e12,h⟩:=B1 h;refine B6 hS [] c76 (Hy hS hL e12) ?_;exact d _ [] _ (!l) T3 h
  apply kI hS h<;>intro h
  .cases h;exact kR hS
  refine E2 hS T3 h (fun x7=>⟨[(4,pN x7),(3,pN x3),(0,.p (vSl 2 E4 c))],[]⟩) (ids:=[]) (fun _ _ _ _ _ m x7 q h=>?_);apply kI hS h<;>intro h
  .refine C5 hS T3 [2,4,7,9] ?_;obtain⟨c85,h⟩:=C7 h;refine D9 c85 ?_;apply kI hS h<;>intro h
   .cases h;exact kR hS
   exact q _ [] _ (wrap .i64 (x7+1)) T3 h
  exact i _ [] _ (wrap .i64 (x3+1)) T3 h
 cases h;exact kR hS
theorem YB {rec:A5->Int->Option (Sl Int)}(d:∀{a:A5}{b:Int}{y:Sl Int},rec a b=some y->FunO S EF [.p (.agg (A4 a)),pN b] [] (.vec 0) ([.vec B8 1 y.n (fun i=>cI .i64 (y.g i)) true]) []){a:A5}{b:Int}{y:Sl Int}(h:R5 rec N a b=some y) :FunO S EF [.p (.agg (A4 a)),pN b] [] (.vec 0) ([.vec B8 1 y.n (fun i=>cI .i64 (y.g i)) true]) []:=by
 unfold R5 at h;refine A1 hS Ab9 ?_;refine D8 hS T3 4 3000 (A4 a) ?_;apply kI hS h<;>intro h
 .obtain rfl:=C0 h;exact A8 hS T3 ⟨[(4,.vec 5700)],[(5700,.vec B8 1 (Sl.nil:Sl Int).n (fun i=>cI .i64 ((Sl.nil:Sl Int).g i)) true)]⟩ [5700] (ids:=[]) ⟨rfl,rfl,rfl⟩
 refine C5 hS T3 [0,2,4,6,9,11,12] ?_;obtain⟨c2,h⟩:=C7 h;obtain⟨y1,e1,h⟩:=B1 h;refine Ac [] (And.intro (by decide:(3:Nat)<=3) c2) (d e1) ?_;obtain⟨c3,h⟩:=C7 h;refine D9 c3 ?_;obtain rfl:=C0 h;exact A8 hS T3 ⟨[(4,.vec 21000)],[(21000,.vec B8 1 (y1.app (a.On.g b.toNat)).n (fun i=>cI .i64 ((y1.app (a.On.g b.toNat)).g i)) true)]⟩ [21000] (ids:=[(21000,21000)]) ⟨rfl,rfl,rfl⟩ (hle:=klR [(0,.fn (y1.n+(a.On.g b.toNat).n) (y1.app (a.On.g b.toNat)).n (I4 y1.n (fun i=>cI .i64 (y1.g i)) (fun i=>cI .i64 ((a.On.g b.toNat).g i))) (fun i=>cI .i64 ((y1.app (a.On.g b.toNat)).g i)))] (al1 ⟨rfl,KB (c:=cI .i64) (v:=y1) (w:=a.On.g b.toNat) same rfl same rfl⟩ al0))
theorem Ae1 {a:A5}{b:Int}{y:Sl Int}(h:BU N a b=some y) :FunO S EF [.p (.agg (A4 a)),pN b] [] (.vec 0) ([.vec B8 1 y.n (fun i=>cI .i64 (y.g i)) true]) []:=by
 induction N generalizing a b y with
 |zero=>cases (show (none:Option (Sl Int))=some y from h)
 |succ N ih=>exact YB hS hL (fun e=>ih e) h
theorem YC {a:A5}{y:Int}(h:P6 N a=some y) :FunO S Mc [.p (.agg (A4 a))] [] (pN y) ([]) []:=by
 unfold P6 at h;refine A1 hS Yc ?_;refine D8 hS T3 2 2000 (A4 a) ?_;refine kC hS h (GB hS hL) (fun y1 h=>?_);apply kI hS h<;>intro h
 .cases h;exact kR hS
 apply kI hS h<;>intro h
 .cases h;exact kR hS
 refine E2 hS T3 h (fun x1=>⟨[(3,pN x1),(1,.p (.ptr (A4 a)))],[]⟩) (ids:=[]) (fun _ _ _ _ _ i x1 j h=>?_);apply kI hS h<;>intro h
 .obtain⟨c10,h⟩:=C7 h;obtain⟨y4,e4,h⟩:=B1 h;refine B6 hS [] (And.intro c10 (by decide:(18:Nat)<=18)) (GA hS hL e4) ?_;apply kI hS h<;>intro h
  .cases h;exact kR hS
  exact j _ [] _ (wrap .i64 (x1+1)) T3 h
 refine E2 hS T3 h (fun x3=>⟨[(4,pN x3),(1,.p (.ptr (A4 a)))],[]⟩) (ids:=[]) (fun _ _ _ _ _ l x3 m h=>?_);apply kI hS h<;>intro h
 .refine E2 hS T3 h (fun x5=>⟨[(5,pN x5),(4,pN x3),(1,.p (.ptr (A4 a)))],[]⟩) (ids:=[]) (fun _ _ _ _ _ o x5 q h=>?_);apply kI hS h<;>intro h
  .refine C5 hS T3 [1,3,5,7,9,11] ?_;obtain⟨c40,h⟩:=C7 h;refine D9 c40 ?_;apply kI hS h<;>intro h
   .cases h;exact kR hS
   exact q _ [] _ (wrap .i64 (x5+1)) T3 h
  exact m _ [] _ (wrap .i64 (x3+1)) T3 h
 apply kI hS h<;>intro h
 .cases h;exact kR hS
 refine E2 hS T3 h (fun x6=>⟨[(6,pN x6),(1,.p (.ptr (A4 a)))],[]⟩) (ids:=[]) (fun _ _ _ _ _ r x6 s h=>?_);apply kI hS h<;>intro h
 .obtain⟨y7,e7,h⟩:=B1 h;refine B6 hS [] (by decide:(3:Nat)<=3) (Ae1 hS hL e7) ?_;apply kI hS h<;>intro h
  .cases h;exact kR hS
  exact s _ [] _ (wrap .i64 (x6+1)) T3 h
 refine E2 hS T3 h (fun x8=>⟨[(7,pN x8),(1,.p (.ptr (A4 a)))],[]⟩) (ids:=[]) (fun _ _ _ _ _ t x8 u h=>?_);apply kI hS h<;>intro h
 .refine E2 hS T3 h (fun c=>⟨[(8,pN c),(7,pN x8),(1,.p (.ptr (A4 a)))],[]⟩) (ids:=[]) (fun _ _ _ _ _ f c d h=>?_);obtain⟨c100,h⟩:=C7 h;refine D1 hS c100 (b:=decide (c<((a.On.g x8.toNat).n:Int))) (fun c101=>?_) (fun c101=>?_)
  .replace h:=itT c101 h;refine C5 hS T3 [1,3,4,6,7,11,13,14,16,17,19] ?_;obtain⟨c102,h⟩:=C7 h;refine AY c102 (b:=decide (((a.On.g x8.toNat).g c.toNat)<0)) (fun c103=>?_) (fun c103=>?_)
   .replace h:=itT c103 h;refine D9 T3 ?_;cases h;exact kR hS
   replace h:=itF c103 h;obtain⟨c104,h⟩:=C7 h;refine D9 c104 ?_;apply kI hS h<;>intro h
   .cases h;exact kR hS
   exact d _ [] _ (wrap .i64 (c+1)) T3 h
  replace h:=itF c101 h;exact u _ [] _ (wrap .i64 (x8+1)) T3 h
 cases h;exact kR hS
end Go.AM
namespace Go.AM
open IntKind (wrap)
open Go.Proofs
set_option maxRecDepth 10000
set_option maxHeartbeats 2000000
variable {S:W1}(hS:H9 S Tryz.prog) (hL:GD S)
include hS hL
theorem QP {N:Nat}{a:Sl J6}{d:Int}{y:Sl Int}(h:Q2 N a d=some y) :FunO S Hf [.p (vSl 2 E4 a),pN d] [] (.vec 0) ([.vec B8 1 y.n (fun i=>cI .i64 (y.g i)) true]) []:=by
 unfold Q2 at h;refine A1 hS QI ?_;refine D7 hS T3 h (fun x1 x2=>⟨[(6,pN x2),(5,.vec 6500),(1,pN d),(0,.p (vSl 2 E4 a))],[(6500,.vec B8 1 x1.n (fun i=>cI .i64 (x1.g i)) false)]⟩) (ids:=[]) (fun _ _ _ _ _ j x1 x2 f h=>?_);apply kI hS h<;>intro h
 .obtain⟨c8,h⟩:=C7 h;refine D1 hS c8 (b:=(a.g x2.toNat).Parent==d) (fun c9=>?_) (fun c9=>?_)
  .replace h:=itT c9 h;obtain⟨c10,h⟩:=C7 h;exact f _ [(6500,24000)] _ (x1.push x2) (wrap .i64 (x2+1)) (And.intro (rfl:true=true) c10) h (hle:=klR [(3,.fn (x1.n+1) (x1.push x2).n (I4 x1.n (fun i=>cI .i64 (x1.g i)) (D0 [pI .i64 0] [(0,cI .i64 x2)])) (fun i=>cI .i64 ((x1.push x2).g i)))] (al1 ⟨rfl,W3 (c:=cI .i64) (v:=x1) (x:=x2) (z:=[(pI .i64 0)]) same rfl rfl⟩ al0))
  replace h:=itF c9 h;exact f _ [(6500,6500)] _ x1 (wrap .i64 (x2+1)) T3 h
 obtain rfl:=C0 h;exact A8 hS T3 ⟨[(4,.vec 6500)],[(6500,.vec B8 1 x1.n (fun i=>cI .i64 (x1.g i)) true)]⟩ [6500] (ids:=[(6500,6500)]) ⟨rfl,rfl,rfl⟩
theorem Ko {N:Nat}{a:Sl J6}{y:(Sl Int)×Int}(h:K5 N a=some y) :FunO S Ki [.p (vSl 2 E4 a)] [] (.tup [.vec 0,pN y.2]) ([.vec B8 1 y.1.n (fun i=>cI .i64 (y.1.g i)) true]) []:=by
 unfold K5 at h;refine A1 hS Ut ?_;refine kC hS h (GB hS hL) (fun y1 h=>?_);apply kI hS h<;>intro h
 .obtain rfl:=C0 h;exact A8 hS T3 ⟨[(3,pN y1),(2,.vec 3700)],[(3700,.vec B8 1 (Sl.nil:Sl Int).n (fun i=>cI .i64 ((Sl.nil:Sl Int).g i)) true)]⟩ [3700] (ids:=[]) ⟨rfl,rfl,rfl⟩
 refine D7 hS T3 h (fun x1 x2=>⟨[(6,pN x2),(5,.vec 6500),(0,.p (vSl 2 E4 a))],[(6500,.vec B8 1 x1.n (fun i=>cI .i64 (x1.g i)) false)]⟩) (ids:=[]) (fun _ _ _ _ _ d x1 x2 b h=>?_);apply kI hS h<;>intro h
 .refine kC hS h (QP hS hL) (fun y4 h=>?_);apply kI hS h<;>intro h
  .obtain⟨c8,h⟩:=C7 h;exact b _ [(6500,27000)] _ (x1.push x2) (wrap .i64 (x2+1)) (And.intro (rfl:true=true) c8) h (hle:=klR [(2,.fn (x1.n+1) (x1.push x2).n (I4 x1.n (fun i=>cI .i64 (x1.g i)) (D0 [pI .i64 0] [(0,cI .i64 x2)])) (fun i=>cI .i64 ((x1.push x2).g i)))] (al1 ⟨rfl,W3 (c:=cI .i64) (v:=x1) (x:=x2) (z:=[(pI .i64 0)]) same rfl rfl⟩ al0))
  exact b _ [(6500,6500)] _ x1 (wrap .i64 (x2+1)) T3 h
 obtain rfl:=C0 h;exact A8 hS T3 ⟨[(3,pN 0),(2,.vec 6500)],[(6500,.vec B8 1 x1.n (fun i=>cI .i64 (x1.g i)) true)]⟩ [6500] (ids:=[(6500,6500)]) ⟨rfl,rfl,rfl⟩
end Go.AM
namespace Go.AM
variable {N:Nat}
open IntKind (wrap)
open Go.Proofs
set_option maxRecDepth 10000
set_option maxHeartbeats 2000000
variable {S:W1}(hS:H9 S Tryz.prog) (hL:GD S)
include hS hL
theorem Ae2 {c:Sl J6}{b:Int}{y:Int}(h:Dd N c b=some y) :FunO S NY [.p (vSl 2 E4 c),pN b] [] (pN y) ([]) []:=by
 unfold Dd at h;refine A1 hS Ac4 ?_;refine kC hS h (GB hS hL) (fun y1 h=>?_);refine kB hS (A2 hS) T3 T3 9 (.n (.a (y1==0)) (.o (.a (decide (b<0))) (.a (decide ((c.n:Int)<=b))))) ?_;apply kI hS h<;>intro h
 .cases h;exact kR hS
 cases h;exact kR hS
theorem Ae3 {a:Sl J6}{b:Int}{y:Sl Int}(h:Ei N a b=some y) :FunO S FE [.p (vSl 2 E4 a),pN b] [] (.vec 0) ([.vec B8 1 y.n (fun i=>cI .i64 (y.g i)) true]) []:=by
 induction N generalizing a b y with
 |zero=>cases (show (none:Option (Sl Int))=some y from h)
 |succ N ih=>exact OG hS hL (fun e=>ih e) h
theorem Ae4 {a:Sl J6}{b:Int}{y:(Sl Int)×Int}(h:BV N a b=some y) :FunO S NU [.p (vSl 2 E4 a),pN b] [] (.tup [.vec 0,pN y.2]) ([.vec B8 1 y.1.n (fun i=>cI .i64 (y.1.g i)) true]) []:=by
 unfold BV at h;refine A1 hS Ac0 ?_;refine kC hS h (Ae2 hS hL) (fun y1 h=>?_);apply kI hS h<;>intro h
 .obtain rfl:=C0 h;exact A8 hS T3 ⟨[(5,pN y1),(4,.vec 5700)],[(5700,.vec B8 1 (Sl.nil:Sl Int).n (fun i=>cI .i64 ((Sl.nil:Sl Int).g i)) true)]⟩ [5700] (ids:=[]) ⟨rfl,rfl,rfl⟩
 refine kC hS h (Ae3 hS hL) (fun y2 h=>?_);obtain rfl:=C0 h;exact A8 hS T3 ⟨[(5,pN 0),(4,.vec 16000)],[(16000,.vec B8 1 y2.n (fun i=>cI .i64 (y2.g i)) true)]⟩ [16000] (ids:=[(16000,16000)]) ⟨rfl,rfl,rfl⟩
theorem Mu {b:Sl E6}{y:Bool}(h:I7 N b=some y) :FunO S Md [.p (vSl 2 C6 b)] [] (pB y) ([]) []:=by
 unfold I7 at h;refine A1 hS Yd ?_;refine E2 hS T3 h (fun x1=>⟨[(3,pN x1),(0,.p (vSl 2 C6 b))],[]⟩) (ids:=[]) (fun _ _ _ _ _ c x1 d h=>?_);apply kI hS h<;>intro h
 .obtain⟨c10,h⟩:=C7 h;obtain⟨c11,h⟩:=C7 h;refine kB hS (A2 hS) c10 c11 8 (.n (.a (!(b.g x1.toNat).Has)) (.a (decide (0<((b.g x1.toNat).W.n:Int))))) ?_;apply kI hS h<;>intro h
  .cases h;exact kR hS
  exact d _ [] _ (wrap .i64 (x1+1)) T3 h
 cases h;exact kR hS
theorem Mv {a:Sl E6}{y:Int}(h:H2 N a=some y) :FunO S Me [.p (vSl 2 C6 a)] [] (pN y) ([]) []:=by
 unfold H2 at h;refine A1 hS Ye ?_;refine E2 hS T3 h (fun x1=>⟨[(3,pN x1),(0,.p (vSl 2 C6 a))],[]⟩) (ids:=[]) (fun _ _ _ _ _ b x1 c h=>?_);apply kI hS h<;>intro h
 .obtain⟨c8,h⟩:=C7 h;obtain⟨y3,e3,h⟩:=B1 h;refine B6 hS [] c8 (DN hS hL e3) ?_;apply kI hS h<;>intro h
  .cases h;exact kR hS
  exact c _ [] _ (wrap .i64 (x1+1)) T3 h
 cases h;exact kR hS
def BC (N:Nat)(i:A5)(a:Sl E6)(b:Sl Entry):Option Int:= (P6 N i).bind fun y1=>if (y1 != 0) then some y1 else if (decide (256<(b.n:Int))) then some 12 else (K5 N i.Tree).bind fun y2=>lt (fun (z1:Bool)=>if z1 then some 2 else T9 N (fun c (x3:Int)=>if (decide (x3<(b.n:Int))) then if ((0:Int)<=x3/\x3<(b.n:Int))then lt (fun (z4:Bool)=>if z4 then some 2 else c (wrap .i64 (x3+1))) fun k4=>if (((b.g x3.toNat).Forms.n:Int) != (y2.1.n:Int)) then k4 true else if ((0:Int)<=x3/\x3<(b.n:Int))then (I7 N (b.g x3.toNat).Forms).bind fun j=>k4 (!j) else none else none else T9 N (fun d (x6:Int)=>if (decide (x6<(b.n:Int))) then if ((0:Int)<=x6/\x6<(b.n:Int))then (S2 N (b.g x6.toNat).Gloss).bind fun l=>if (!l) then some 15 else d (wrap .i64 (x6+1)) else none else (H2 N a).bind fun m=>P9 N (fun f (x7:Int) (x8:Int)=>if ((decide (x8<(b.n:Int)))&&(x7==0)) then if ((0:Int)<=x8/\x8<(b.n:Int))then (H2 N (b.g x8.toNat).Forms).bind fun o=>f o (wrap .i64 (x8+1)) else none else some x7) m 0) 0) 0) fun k1=>if ((a.n:Int) != (b.n:Int)) then k1 true else (I7 N a).bind fun y4=>k1 (!y4)
theorem YD {d:A5}{b:Sl E6}{c:Sl Entry}{y:Int}(h:BC N d b c=some y) :FunO S Mb [.p (.agg (A4 d)),.p (vSl 2 C6 b),.p (vSl 2 B7 c)] [] (pN y) ([]) []:=by
 unfold BC at h;refine A1 hS Tryz.func22 ?_;refine kC hS h (YC hS hL) (fun y1 h=>?_);apply kI hS h<;>intro h
 .cases h;exact kR hS
 apply kI hS h<;>intro h
 .cases h;exact kR hS
 refine kC hS h (Ko hS hL) (fun y2 h=>?_);refine Ai hS T3 (A2 hS) h 0 (fun z1=>⟨[(36,pB z1),(8,.vec 25000),(2,.p (vSl 2 B7 c)),(1,.p (vSl 2 C6 b))],[(25000,.vec B8 1 y2.1.n (fun i=>cI .i64 (y2.1.g i)) true)]⟩) (fun M1 k1 f h=>?_) (fun z1 h=>?_)
 .refine kG hS h (fun h=>?_) (fun h=>?_)
  .exact f _ [(25000,25000)] _ true T3 h
  refine kC hS h (Mu hS hL) (fun y4 h=>?_);exact f _ [(25000,25000)] _ (!y4) T3 h
 apply kI hS h<;>intro h
 .cases h;exact kR hS
 refine E2 hS T3 h (fun x3=>⟨[(10,pN x3),(8,.vec 25000),(2,.p (vSl 2 B7 c)),(1,.p (vSl 2 C6 b))],[(25000,.vec B8 1 y2.1.n (fun i=>cI .i64 (y2.1.g i)) true)]⟩) (ids:=[(25000,25000)]) (fun _ _ _ _ _ l x3 m h=>?_);apply kI hS h<;>intro h
 .obtain⟨c24,h⟩:=C7 h;refine Ai hS c24 (A2 hS) h 0 (fun z4=>⟨[(60,pB z4),(10,pN x3),(8,.vec 25000),(2,.p (vSl 2 B7 c)),(1,.p (vSl 2 C6 b))],[(25000,.vec B8 1 y2.1.n (fun i=>cI .i64 (y2.1.g i)) true)]⟩) (fun M4 k4 j h=>?_) (fun z4 h=>?_)
  .refine kG hS h (fun h=>?_) (fun h=>?_)
   .exact j _ [(25000,25000)] _ true T3 h
   obtain⟨c29,h⟩:=C7 h;obtain⟨o,e10,h⟩:=B1 h;refine B6 hS [] c29 (Mu hS hL e10) ?_;exact j _ [(25000,25000)] _ (!o) T3 h
  apply kI hS h<;>intro h
  .cases h;exact kR hS
  exact m _ [(25000,25000)] _ (wrap .i64 (x3+1)) T3 h
 refine E2 hS T3 h (fun x6=>⟨[(11,pN x6),(2,.p (vSl 2 B7 c)),(1,.p (vSl 2 C6 b))],[]⟩) (ids:=[]) (fun _ _ _ _ _ q x6 r h=>?_);apply kI hS h<;>intro h
 .obtain⟨c38,h⟩:=C7 h;obtain⟨v,e13,h⟩:=B1 h;refine B6 hS [] c38 (Hy hS hL e13) ?_;apply kI hS h<;>intro h
  .cases h;exact kR hS
  exact r _ [] _ (wrap .i64 (x6+1)) T3 h
 refine kC hS h (Mv hS hL) (fun w h=>?_);refine D7 hS T3 h (fun x7 x8=>⟨[(12,pN x8),(7,pN x7),(2,.p (vSl 2 B7 c))],[]⟩) (ids:=[]) (fun _ _ _ _ _ s x7 x8 t h=>?_);refine kB hS (A2 hS) T3 T3 3 (.n (.a (decide (x8<(c.n:Int)))) (.a (x7==0))) ?_;apply kI hS h<;>intro h
 .obtain⟨c45,h⟩:=C7 h;obtain⟨u,e17,h⟩:=B1 h;refine B6 hS [] c45 (Mv hS hL e17) ?_;exact t _ [] _ u (wrap .i64 (x8+1)) T3 h
 cases h;exact kR hS
theorem Ae5 {d:A5}{f:Int}{a:Int}{y:Sl Law}(h:BX N d f a=some y) :FunO S NT [.p (.agg (A4 d)),pN f,pN a] [] (.vec 0) ([.vec H7 18 y.n (fun i=>B2 (y.g i)) true]) []:=by
 unfold BX at h;refine A1 hS Ab8 ?_;refine D8 hS T3 6 4000 (A4 d) ?_;refine kC hS h (Ae4 hS hL) (fun y1 h=>?_);refine D7 hS T3 h (fun x3 x4=>⟨[(10,pN x4),(9,.vec 10501),(7,.vec 18000),(3,.p (.ptr (A4 d))),(2,pN a)],[(18000,.vec B8 1 y1.1.n (fun i=>cI .i64 (y1.1.g i)) true),(10501,.vec H7 18 x3.n (fun i=>B2 (x3.g i)) false)]⟩) (ids:=[(18000,18000)]) (fun _ _ _ _ _ l x3 x4 m h=>?_);apply kI hS h<;>intro h
 .refine C5 hS T3 [1,6,7] ?_;obtain⟨c36,h⟩:=C7 h;refine D9 c36 ?_;refine D7 hS T3 h (fun x7 x8=>⟨[(12,pN x8),(11,.p (vSl 1 (cI .i64) (d.On.g (y1.1.g x4.toNat).toNat))),(10,pN x4),(9,.vec 10502),(7,.vec 18000),(3,.p (.ptr (A4 d))),(2,pN a)],[(18000,.vec B8 1 y1.1.n (fun i=>cI .i64 (y1.1.g i)) true),(10502,.vec H7 18 x7.n (fun i=>B2 (x7.g i)) false)]⟩) (ids:=[(10502,10501),(18000,18000)]) (fun _ _ _ _ _ o x7 x8 j h=>?_);apply kI hS h<;>intro h
  .obtain⟨c48,h⟩:=C7 h;refine D1 hS c48 (b:=((d.On.g (y1.1.g x4.toNat).toNat).g x8.toNat) != a) (fun c49=>?_) (fun c49=>?_)
   .replace h:=itT c49 h;refine C5 hS T3 [2,5,6,7,8] ?_;obtain⟨c50,h⟩:=C7 h;refine Aj (And.intro (And.intro c50.1 c50.2) (by decide:(18:Nat)<=18)) (x:=.sl true 18 1 (D0 [.str [],pI .i64 0,pI .u32 0,pI .u32 0,.v (.bool false),pI .i64 0,pI .i64 0,G6,pI .i64 0,pI .u32 0,pI .u32 0,.v (.bool false),pI .i64 0,pI .i64 0,G6,G6,G6,pI .i64 0] [(0,B2 (d.Laws.g ((d.On.g (y1.1.g x4.toNat).toNat).g x8.toNat).toNat))])) ?_;obtain⟨c51,h⟩:=C7 h;refine D9 c51 ?_;exact j _ [(10502,57000),(18000,18000)] _ (x7.push (d.Laws.g ((d.On.g (y1.1.g x4.toNat).toNat).g x8.toNat).toNat)) (wrap .i64 (x8+1)) T3 h (hle:=klR [(6,.fn (x7.n+1) (x7.push (d.Laws.g ((d.On.g (y1.1.g x4.toNat).toNat).g x8.toNat).toNat)).n (I4 x7.n (fun i=>B2 (x7.g i)) (D0 [.str [],pI .i64 0,pI .u32 0,pI .u32 0,.v (.bool false),pI .i64 0,pI .i64 0,G6,pI .i64 0,pI .u32 0,pI .u32 0,.v (.bool false),pI .i64 0,pI .i64 0,G6,G6,G6,pI .i64 0] [(0,B2 (d.Laws.g ((d.On.g (y1.1.g x4.toNat).toNat).g x8.toNat).toNat))])) (fun i=>B2 ((x7.push (d.Laws.g ((d.On.g (y1.1.g x4.toNat).toNat).g x8.toNat).toNat)).g i)))] (al1 ⟨rfl,W3 (c:=B2) (v:=x7) (x:=d.Laws.g ((d.On.g (y1.1.g x4.toNat).toNat).g x8.toNat).toNat) (z:=[(.str []),pI .i64 0,pI .u32 0,pI .u32 0,.v (.bool false),pI .i64 0,pI .i64 0,G6,pI .i64 0,pI .u32 0,pI .u32 0,.v (.bool false),pI .i64 0,pI .i64 0,G6,G6,G6,pI .i64 0]) same rfl rfl⟩ al0))
   replace h:=itF c49 h;exact j _ [(10502,10502),(18000,18000)] _ x7 (wrap .i64 (x8+1)) T3 h
  exact m _ [(10501,10502),(18000,18000)] _ x7 (wrap .i64 (x4+1)) T3 h
 obtain rfl:=C0 h;exact A8 hS T3 ⟨[(6,.vec 10501)],[(10501,.vec H7 18 x3.n (fun i=>B2 (x3.g i)) true)]⟩ [10501] (ids:=[(10501,10501)]) ⟨rfl,rfl,rfl⟩
theorem Sm {d:A5}{a:E6}{c:Int}{b:Int}{y:E6}(h:O2 N d a c b=some y) :FunO S IA [.p (.agg (A4 d)),.p (.agg (C6 a)),pN c,pN b] [] (.p (.agg (C6 y))) ([]) []:=by
 unfold O2 at h;refine A1 hS Sh ?_;refine D8 hS T3 5 5000 (A4 d) ?_;refine D8 hS T3 8 6000 [.bb a.Has,vSl 2 A0 a.W] ?_;apply kI hS h<;>intro h
 .obtain rfl:=C0 h;exact A8 hS T3 ⟨[(8,.reg 9000 0)],[(9000,.cells [pB false,.p (vSl 2 A0 (Sl.nil:Sl To))])]⟩ [] (ids:=[(9000,9000)]) ⟨rfl,rfl,rfl⟩
 refine kC hS h (Ko hS hL) (fun y1 h=>?_);refine C5 hS T3 [0,8] ?_;obtain⟨c2,h⟩:=C7 h;obtain⟨y2,e2,h⟩:=B1 h;refine Ac [] (And.intro (And.intro (by decide:(3:Nat)<=3) c2.1) c2.2) (Ae5 hS hL e2) ?_;obtain⟨y3,e3,h⟩:=B1 h;refine Ac [] T3 (UC hS hL e3) ?_;refine D9 T3 ?_;apply kI hS h<;>intro h
 .obtain rfl:=C0 h;exact A8 hS T3 ⟨[(8,.reg 9000 0)],[(9000,.cells [pB false,.p (vSl 2 A0 (Sl.nil:Sl To))])]⟩ [] (ids:=[(9000,9000)]) ⟨rfl,rfl,rfl⟩
 cases h;exact kR hS
theorem IE {d:A5}{b:E6}{c:Int}{f:E6}{a:Int}{y:Bool}(h:I8 N d b c f a=some y) :FunO S Iz [.p (.agg (A4 d)),.p (.agg (C6 b)),pN c,.p (.agg (C6 f)),pN a] [] (pB y) ([]) []:=by
 unfold I8 at h;refine A1 hS Sg ?_;refine kC hS h (Sm hS hL) (fun y1 h=>?_);refine Ai hS T3 (A2 hS) h 0 (fun z1=>⟨[(10,pB z1)],[]⟩) (fun M1 k1 g h=>?_) (fun z1 h=>?_)
 .refine kG hS h (fun h=>?_) (fun h=>?_)
  .refine kC hS h (OE hS hL) (fun y3 h=>?_);exact g _ [] _ y3 T3 h
  exact g _ [] _ false T3 h
 cases h;exact kR hS
def CV (N:Nat)(i:A5)(a:Sl E6)(l:Sl Entry):Option ((Sl Int)×Int):= (BC N i a l).bind fun y1=>if (y1 != 0) then some ((Sl.nil:Sl Int),y1) else if ((0:Int)<=(i.Laws.n:Int)/\(i.Laws.n:Int)<=(i.Laws.n:Int)/\(i.Laws.n:Int)*8<=140737488355328/\(i.Laws.n:Int)<=140737488355328)then P9 N (fun o (x9:Sl Int) (f:Int)=>if (decide (f<(i.Laws.n:Int))) then P9 N (fun m (q:Sl Int) (b:Int)=>if (decide (b<(l.n:Int))) then P9 N (fun d (j:Sl Int) (c:Int)=>if ((0:Int)<=b/\b<(l.n:Int))then if (decide (c<((l.g b.toNat).Forms.n:Int))) then if (((0:Int)<=b/\b<(l.n:Int))/\((0:Int)<=c/\c<((l.g b.toNat).Forms.n:Int)))then if ((l.g b.toNat).Forms.g c.toNat).Has then if ((0:Int)<=b/\b<(a.n:Int))then (I8 N i (a.g b.toNat) c ((l.g b.toNat).Forms.g c.toNat) (-1)).bind fun r=>if r then if ((0:Int)<=b/\b<(a.n:Int))then (I8 N i (a.g b.toNat) c ((l.g b.toNat).Forms.g c.toNat) f).bind fun s=>if (!s) then if (((((0:Int)<=f/\f<(j.n:Int))/\f.toNat<j.n)/\((0:Int)<=f/\f<(j.n:Int)))/\f.toNat<j.n)then d (j.upd f.toNat (wrap .i64 ((j.g f.toNat)+1))) (wrap .i64 (c+1)) else none else d j (wrap .i64 (c+1)) else none else d j (wrap .i64 (c+1)) else none else d j (wrap .i64 (c+1)) else none else m j (wrap .i64 (b+1)) else none) q 0 else o q (wrap .i64 (f+1))) x9 0 else some (x9,0)) (Sl.rep (i.Laws.n:Int).toNat 0:Sl Int) 0 else none
theorem AT7 {r:A5}{a:Sl E6}{m:Sl Entry}{y:(Sl Int)×Int}(h:CV N r a m=some y) :FunO S Yb [.p (.agg (A4 r)),.p (vSl 2 C6 a),.p (vSl 2 B7 m)] [] (.tup [.vec 0,pN y.2]) ([.vec B8 1 y.1.n (fun i=>cI .i64 (y.1.g i)) true]) []:=by
 unfold CV at h;refine A1 hS Tryz.func25 ?_;refine D8 hS T3 6 4000 (A4 r) ?_;obtain⟨y1,e1,h⟩:=B1 h;refine B6 hS [] (by decide:(3:Nat)<=3) (YD hS hL e1) ?_;apply kI hS h<;>intro h
 .obtain rfl:=C0 h;exact A8 hS T3 ⟨[(7,pN y1),(6,.vec 7700)],[(7700,.vec B8 1 (Sl.nil:Sl Int).n (fun i=>cI .i64 ((Sl.nil:Sl Int).g i)) true)]⟩ [7700] (ids:=[]) ⟨rfl,rfl,rfl⟩
 obtain⟨c2,h⟩:=C7 h;refine D7 hS c2 h (fun x9 f=>⟨[(10,pN f),(9,.vec 25000),(3,.p (.ptr (A4 r))),(2,.p (vSl 2 B7 m)),(1,.p (vSl 2 C6 a))],[(25000,.vec B8 1 x9.n (fun i=>cI .i64 (x9.g i)) false)]⟩) (ids:=[(25000,25000)]) (fun _ _ _ _ _ z x9 f a0 h=>?_);apply kI hS h<;>intro h
 .refine D7 hS T3 h (fun s o=>⟨[(11,pN o),(10,pN f),(9,.vec 25000),(3,.p (.ptr (A4 r))),(2,.p (vSl 2 B7 m)),(1,.p (vSl 2 C6 a))],[(25000,.vec B8 1 s.n (fun i=>cI .i64 (s.g i)) false)]⟩) (ids:=[(25000,25000)]) (fun _ _ _ _ _ u s o t h=>?_);apply kI hS h<;>intro h
  .refine D7 hS T3 h (fun d j=>⟨[(12,pN j),(11,pN o),(10,pN f),(9,.vec 25000),(3,.p (.ptr (A4 r))),(2,.p (vSl 2 B7 m)),(1,.p (vSl 2 C6 a))],[(25000,.vec B8 1 d.n (fun i=>cI .i64 (d.g i)) false)]⟩) (ids:=[(25000,25000)]) (fun _ _ _ _ _ w d j q h=>?_);obtain⟨c231,h⟩:=C7 h;refine D1 hS c231 (b:=decide (j<((m.g o.toNat).Forms.n:Int))) (fun c232=>?_) (fun c232=>?_)
   .replace h:=itT c232 h;obtain⟨c233,h⟩:=C7 h;refine Bq0 hS (And.intro (And.intro c233.1 c233.2) (by decide:(2:Nat)<=2)) 14000 [.bb ((m.g o.toNat).Forms.g j.toNat).Has,vSl 2 A0 ((m.g o.toNat).Forms.g j.toNat).W] ?_;refine C5 hS T3 [1,3,6,7,9,10,13,16,17,19,21] ?_;refine AY T3 (b:=((m.g o.toNat).Forms.g j.toNat).Has) (fun c234=>?_) (fun c234=>?_)
    .replace h:=itT c234 h;obtain⟨c235,h⟩:=C7 h;obtain⟨a1,e54,h⟩:=B1 h;refine F8 (And.intro (And.intro (And.intro (by decide:(3:Nat)<=3) c235) (by decide:(2:Nat)<=2)) (by decide:(2:Nat)<=2)) (IE hS hL e54) ?_;refine AY T3 (b:=a1) (fun c236=>?_) (fun c236=>?_)
     .replace h:=itT c236 h;obtain⟨c237,h⟩:=C7 h;obtain⟨a2,e55,h⟩:=B1 h;refine F8 (And.intro (And.intro (And.intro (by decide:(3:Nat)<=3) c237) (by decide:(2:Nat)<=2)) (by decide:(2:Nat)<=2)) (IE hS hL e55) ?_;refine D9 T3 ?_;apply kI hS h<;>intro h
      .obtain⟨c239,h⟩:=C7 h;exact q _ [(25000,25000)] _ (d.upd f.toNat (wrap .i64 ((d.g f.toNat)+1))) (wrap .i64 (j+1)) (And.intro (And.intro (And.intro c239.1.1.1 c239.1.1.2) c239.1.2) (And.intro (rfl:(1:Nat)=1) (And.intro c239.2 (by decide:(1:Nat)<=1)))) h (hle:=klR [(6,.fn d.n (d.upd f.toNat (wrap .i64 ((d.g f.toNat)+1))).n (fun l=>if l=f.toNat then splice ((fun i=>cI .i64 (d.g i)) l) 0 [pI .i64 (wrap .i64 ((d.g f.toNat)+1))]else (fun i=>cI .i64 (d.g i)) l) (fun i=>cI .i64 ((d.upd f.toNat (wrap .i64 ((d.g f.toNat)+1))).g i)))] (al1 ⟨rfl,QW (c:=cI .i64) (v:=d) (x:=wrap .i64 ((d.g f.toNat)+1)) same (fun _=>by first|rfl|(dsimp only;split<;>rfl))⟩ al0))
      exact q _ [(25000,25000)] _ d (wrap .i64 (j+1)) T3 h
     replace h:=itF c236 h;refine D9 T3 ?_;exact q _ [(25000,25000)] _ d (wrap .i64 (j+1)) T3 h
    replace h:=itF c234 h;refine D9 T3 ?_;exact q _ [(25000,25000)] _ d (wrap .i64 (j+1)) T3 h
   replace h:=itF c232 h;exact t _ [(25000,25000)] _ d (wrap .i64 (o+1)) T3 h
  exact a0 _ [(25000,25000)] _ s (wrap .i64 (f+1)) T3 h
 obtain rfl:=C0 h;exact A8 hS T3 ⟨[(7,pN 0),(6,.vec 25000)],[(25000,.vec B8 1 x9.n (fun i=>cI .i64 (x9.g i)) true)]⟩ [25000] (ids:=[(25000,25000)]) ⟨rfl,rfl,rfl⟩
end Go.AM
namespace Go.AM
open Go.Proofs
set_option maxRecDepth 10000
set_option maxHeartbeats 2000000
variable {S:W1}(hS:H9 S Tryz.prog) (hL:GD S)
include hS hL
def CR (N:Nat)(b:A5)(a:Sl E6)(c:Sl Entry):Option Bool:= (S8 N b).bind fun y1=>lt (fun (z1:Bool)=>if z1 then (E1 N ).bind fun y4=>some y4 else (L0 N b a c).bind fun y5=>(CV N b a c).bind fun y6=>lt (fun (z2:Bool)=>some z2) fun k2=>if (y5.2==y6.2) then (BY N y5.1 y6.1).bind fun y9=>if y9 then (E1 N ).bind fun d=>k2 d else k2 false else k2 false) fun k1=>if (!y1) then k1 true else (S9 N a c).bind fun y3=>k1 (!y3)
theorem UE {N:Nat}{b:A5}{a:Sl E6}{c:Sl Entry}{y:Bool}(h:CR N b a c=some y) :FunO S Fl [.p (.agg (A4 b)),.p (vSl 2 C6 a),.p (vSl 2 B7 c)] [] (pB y) ([]) []:=by
 unfold CR at h;refine A1 hS Tryz.func4 ?_;refine kC hS h (Ek hS hL) (fun y1 h=>?_);refine Ai hS T3 (A2 hS) h 0 (fun z1=>⟨[(19,pB z1),(3,.reg 4000 0),(2,.p (vSl 2 B7 c)),(1,.p (vSl 2 C6 a))],[(4000,.cells ((A4 b).map .p))]⟩) (fun M1 k1 f h=>?_) (fun z1 h=>?_)
 .refine kG hS h (fun h=>?_) (fun h=>?_)
  .exact f _ [(4000,4000)] _ true T3 h
  refine kC hS h (El hS hL) (fun y3 h=>?_);exact f _ [(4000,4000)] _ (!y3) T3 h
 apply kI hS h<;>intro h
 .refine kC hS h (N0 hS hL) (fun y4 h=>?_);cases h;exact kR hS
 refine kC hS h (Hr hS hL) (fun y5 h=>?_);refine kC hS h (AT7 hS hL) (fun y6 h=>?_);refine Ai hS T3 (A2 hS) h 0 (fun z2=>⟨[(6,pB z2)],[]⟩) (fun M2 k2 d h=>?_) (fun z2 h=>?_)
 .refine kG hS h (fun h=>?_) (fun h=>?_)
  .refine kC hS h (Qb hS hL) (fun y9 h=>?_);refine kG hS h (fun h=>?_) (fun h=>?_)
   .refine kC hS h (N0 hS hL) (fun g h=>?_);exact d _ [] _ g T3 h
   exact d _ [] _ false T3 h
  exact d _ [] _ false T3 h
 cases h;exact kR hS
end Go.AM
namespace Go.AM
open IntKind (wrap)
open Go.Proofs
def AI1 {N:Nat}(m:3000000<=N){l:Sl Entry}(hn:l.n<900)(W:Nat->Int)(j:∀i,i<l.n->H2 N (l.g i).Forms=some (W i))(w0:Int) :P9 N (fun (a:Int->Int->Option Int) (x7:Int) (x8:Int)=>
  if ((decide (x8<(l.n:Int)))&&(x7==0)) then
   if ((0:Int)<=x8/\x8<(l.n:Int))then
    (H2 N (l.g x8.toNat).Forms).bind fun d=>
    a d (wrap .i64 (x8+1))
   else none
  else
   some x7
  ) w0 0=some (orE w0 (GV W l.n)):=by
 refine eqR (N4 (fun i x7 x8=>x8=(i:Int)/\((x7=0/\w0=0/\GV W i=0) \/ (x7≠0/\x7=orE w0 (GV W l.n)))) l.n _ (by omega) ⟨rfl,?_⟩ ?_)
 .by_cases h:w0=0
  .exact .inl ⟨h,h,rfl⟩
  exact .inr ⟨h,(HY h).symm⟩
 rintro f i x7 x8 hle ⟨rfl,h⟩ hs;rcases h with⟨rfl,b,h1⟩ | ⟨b,h1⟩
 .by_cases hl:i<l.n
  .refine ifT (by simpa using hl) (Ab ?_);rw[Cl2,Cl];refine B4 (j i hl) (hs hl _ _ ⟨rfl,?_⟩);have e:=Ht h1;by_cases c:W i=0
   .exact .inl ⟨c,b,by rw[e];exact c⟩
   exact .inr ⟨c,by rw[DC b,EX (i:=i+1) (by rw[e];exact c) l.n hl,e]⟩
  obtain rfl:i=l.n:=by omega
  exact Ci ⟨_,rfl,by rw[DC b,h1]⟩
 exact ifF (by simp[b]) ⟨_,rfl,h1⟩
end Go.AM
namespace Go.AM
open IntKind (wrap)
open Go.Proofs
def Mw {N:Nat}(q:3000000<=N){h:A5}(t:I6 h){p:Sl E6}{l:Sl Entry}(hp:K0 p)(hl:S3 l):BC N h p l=some (UV N h p l):=by
 unfold BC UV;rw[Qj q t,Cl3];by_cases j:hres N h=0
 case neg=>rw[Il (show (hres N h != 0)=true by simpa using j),Il j]
 rw[Ix (show ¬(hres N h != 0)=true by simp[j]),Ix (show ¬hres N h≠0 from fun g=>g j)];have m:=hres_zero.1 j;have u:=Cq m.tree;by_cases d:256<l.n
 .rw[Il (show (decide (256<(l.n:Int)))=true by simp;omega),Il d]
 rw[Ix (show ¬(decide (256<(l.n:Int)))=true by simp;omega),Ix d,(Gk q t.tree m.tree).2,Cl3];by_cases f:p.n=l.n
 case neg=>rw[Il (.inl f)];exact Cx
 have hc:¬((p.n:Int) != (l.n:Int))=true:=by simp[f]
 rw[Dg (by omega) (by omega)];by_cases o:emp p
 .rw[Il (.inr o),Tc o];exact Ix hc
 rw[Ix (fun g=>g.elim (fun e=>e f) o),Tb o];refine (Ix hc).trans ?_;rw[Cl3];refine (Ix (by decide)).trans ?_;unfold Ca0;have step:=fun (a:Option Int) (i:Nat)=>UU (l:=l) (i:=i) (show (F7 h.Tree h.Tree.n).n<900 by omega) (fun h=>Dg (N:=N) (s:=(l.g i).Forms) (by omega) (by omega)) a;have ent:∀(i:Nat) (a:Int->Option Int),i<l.n->(lt (fun (z4:Bool)=>
  if z4 then
   some (2:Int)
  else
   a (wrap .i64 ((i:Int)+1))
  ) fun k4=>
  if (((l.g i).Forms.n:Int) != (((F7 h.Tree h.Tree.n).n:Nat):Int)) then
   k4 true
  else
   if ((0:Int)<=(i:Int)/\(i:Int)<(l.n:Int))then
    (I7 N (l.g i).Forms).bind fun r=>
    k4 (!r)
   else none)=if e2 l (F7 h.Tree h.Tree.n).n i≠0 then some (e2 l (F7 h.Tree h.Tree.n).n i)else a (wrap .i64 ((i:Int)+1)):=fun i a b=>by
  rw[<- step];unfold lt;dsimp only;rw[Il (show (0:Int)<=(i:Int)/\(i:Int)<(l.n:Int) by omega)]
 refine BJ0 (by omega) ?_ ?_ ?_
 .intro a i b c;rw[Il (by simpa using b),Cw,Cl2,ent i a b,Il c]
 .intro a i b c;rw[Il (by simpa using b),Cw,Cl2,ent i a b,Ix (fun g=>g c),Cl]
 intro a g1;rw[Ic];refine AS7 (by omega) ?_ ?_ ?_
 .intro a i b c;rw[Il (by simpa using b),Cw,Cl2,GU (by have:=(hl i b).2;omega) (by have:=(hl i b).2;omega),Cl3];unfold e15 at c⊢;by_cases h:Fd (l.g i).Gloss=true
  .exact Kh (Il h) c
  rw[Il (by simpa using h),Ix h]
 .intro a i b c;rw[Il (by simpa using b),Cw,Cl2,GU (by have:=(hl i b).2;omega) (by have:=(hl i b).2;omega),Cl3];unfold e15 at c;by_cases h:Fd (l.g i).Gloss=true
  .rw[Ix (by simp[h]),Cl]
  rw[Ix h]at c;cases c
 intro a;rw[Ic,(BA (by omega) (by omega) hp).2,Cl3];exact AI1 q (by omega) (fun i=>wsE N (l.g i).Forms) (fun i b=>(BA (by omega) (by have:=(WG (AD g1 i b)).1;omega) (hl i b).1).2) (wsE N p)
end Go.AM
namespace Go.AM
open Go.Proofs
def AI2 {N:Nat}(a:3000000<=N)(hw:E1 N=some true)(h:A5)(p:Sl E6)(l:Sl Entry){K:Option Bool}(f:K=some true) :∃r,((S8 N h).bind fun y1=>lt (fun (z1:Bool)=>if z1 then (E1 N ).bind fun y4=>some y4 else K) fun k1=>if (!y1) then k1 true else (S9 N p l).bind fun y3=>k1 (!y3))=some r/\r=true:=by
 obtain⟨b,b1,_⟩:=HZ a h;obtain⟨c,c1,_⟩:=Ia a p l;refine B4 b1 (ltX ?_);have d:∀z:Bool,∃r,(if z then (E1 N ).bind fun y4=>some y4 else K)=some r/\r=true:=fun z=>by
  cases z
  .exact Ck ⟨_,f,rfl⟩
  exact ifT rfl (B4 hw ⟨_,rfl,rfl⟩)
 by_cases g1:(!b)=true
 .exact ifT g1 (d _)
 exact ifF g1 (B4 c1 (d _))
end Go.AM
namespace Go.AM
variable {N:Nat}
open IntKind (wrap)
open Go.Proofs
def By5 {R A:Type}{Q:R->Prop}{k:A->Option R}{f:(A->Option R)->Option R}(u:A)(h1:∃r,k u=some r/\Q r)(a:∀k:A->Option R,(∃r,k u=some r/\Q r)->∃r,f k=some r/\Q r):∃r,lt k f=some r/\Q r:=a k h1
def YE (d:3000000<=N){o:Option (Sl To)}{w:Sl To}{b:Bool}(a:outF o ⟨b,w⟩)(W:Sl To):∃c,(c=true ↔ ∃y,o=some y/\SE y W)/\∀{R:Type}{Q:R->Prop}(K:Bool->Option R),(∃r,K (!c)=some r/\Q r)->∃r,(if (!b) then K true else (N2 N w W).bind fun y=>K (!y))=some r/\Q r:=by
 cases b with
 |false=>refine⟨false,⟨fun f=>(by cases f),?_⟩,fun K h=>ifT rfl h⟩;rintro⟨y,z1,_⟩;rw[a.no]at z1;cases z1
 |true=>obtain⟨e,e1,e2⟩:=Cl0 d a W rfl;exact⟨e,e2,fun K h=>Ck (B4 e1 h)⟩
open Classical in
noncomputable def Bc (P:Nat×Nat->Prop) (L:List (Nat×Nat)):Nat:=(L.filter fun q=>decide (P q)).length
open Classical in
theorem Tg {P:Nat×Nat->Prop}{L:List (Nat×Nat)}{q:Nat×Nat}(h:P q):Bc P (L++[q])=Bc P L+1:=by unfold Bc;rw[Cr0,Cm0];congr 1;simp[h]
open Classical in
theorem YF {P:Nat×Nat->Prop}{L:List (Nat×Nat)}{q:Nat×Nat}(h:¬P q):Bc P (L++[q])=Bc P L:=by unfold Bc;rw[Cr0,Cm0];simp[h]
open Classical in
theorem YG (P:Nat×Nat->Prop)(L:List (Nat×Nat)):Bc P L<=L.length:=Cr4 _ _
def Z8 (N:Nat)(h:A5)(p:Sl E6)(l:Sl Entry)(x:Int)(q:Nat×Nat):Prop:= RG N h (Y5 h q.2) (-1) (p.g q.1) ((l.g q.1).Forms.g q.2)/\¬RG N h (Y5 h q.2) x (p.g q.1) ((l.g q.1).Forms.g q.2)
def YH (N:Nat)(h:A5)(p:Sl E6)(l:Sl Entry)(s:Sl Int):Prop:=s.n=h.Laws.n/\∀x,x<h.Laws.n->s.g x=((Bc (Z8 N h p l (x:Int)) (DT l):Nat):Int)
def Ae6 (m:3000000<=N){h:A5}(hi:I6 h){p:Sl E6}{l:Sl Entry}(hp:K0 p)(hl:S3 l)(ha:attOk N h p l) :∃r,L0 N h p l=some r/\(r.2=0/\YH N h p l r.1):=by
 have hlen:=ha.len;have h64:=ha.hist.laws.1;have hpn:=ha.pn;obtain⟨X,x1,x2⟩:=Ak9 m hi ha.hist (-1);unfold L0;refine B4 (W7 m hi hp hl) ?_;rw[(Cr (by omega) hp hl).2 ha];refine Ck (B4 x1 (Ab ?_));have hm0:Df N h (-1) (F7 h.Tree h.Tree.n) (⟨X.n,fun _=>[]⟩:Sl (List (Str×E6))):=by rw[x2.n];exact Bi7 N h (-1) _
 refine KU (fun i (M:Sl (List (Str×E6))) (s:Sl Int) x=>x=(i:Int)/\Df N h (-1) (F7 h.Tree h.Tree.n) M/\s.n=h.Laws.n/\(∀j,j<i->s.g j=((Bc (Z8 N h p l (j:Int)) (DT l):Nat):Int))/\∀j,i<=j->s.g j=0) h.Laws.n _ (by omega) ⟨rfl,hm0,by show (h.Laws.n:Int).toNat=_;omega,fun j hj=>Kh hj (by omega),fun j _=>rfl⟩ ?_;rintro self i M s x hle ⟨rfl,hM,hsn,hlo,hhi⟩ hs;by_cases hil:i<h.Laws.n
 case neg=>
  obtain rfl:i=h.Laws.n:=by omega
  exact Ci ⟨_,rfl,rfl,hsn,hlo⟩
 obtain⟨Y,y1,y2⟩:=Ak9 m hi ha.hist (i:Int);refine Ax (B4 y1 (B4 rfl (B4 (AG6 m ha) ?_)));have hm1:Df N h (i:Int) (F7 h.Tree h.Tree.n) (⟨Y.n,fun _=>[]⟩:Sl (List (Str×E6))):=by rw[y2.n];exact Bi7 N h _ _
 refine AE2 (fun L a=>∃done todo,DT l=done++todo/\L=todo.map (Bk8 l)/\Df N h (-1) (F7 h.Tree h.Tree.n) a.1/\Df N h (i:Int) (F7 h.Tree h.Tree.n) a.2.2/\a.2.1.n=h.Laws.n/\(∀j,j≠i->a.2.1.g j=s.g j)/\a.2.1.g i=((Bc (Z8 N h p l (i:Int)) done:Nat):Int)) ?_ ?_ _ _ ⟨[],DT l,rfl,rfl,hM,hm1,hsn,fun _ _=>rfl,hhi i (Cl9 _)⟩
 .rintro a ⟨done,todo,h1,h2,h3,h4,w,h6,h7⟩
  have:todo=[]:=by simpa using h2.symm
  subst this;rw[Cn0]at h1;refine hs hil _ _ _ ⟨Cl,h3,w,fun j hj=>?_,fun j hj=>by rw[h6 j (by omega)];exact hhi j (by omega)⟩;by_cases e:j=i
  .subst e;rw[h7,<- h1]
  rw[h6 j e];exact hlo j (by omega)
 rintro t L ⟨M1,z,M2⟩ v ⟨done,todo,h1,h2,h3,h4,w,h6,h7⟩ hs4;cases todo with
 |nil=>cases h2
 |cons q todo=>
  obtain⟨rfl,rfl⟩:=CF9 h2;have hmem:q∈DT l:=by rw[h1];simp
  obtain⟨q1,q2,q3⟩:=Jp hmem;have hk:q.2<(F7 h.Tree h.Tree.n).n:=by rw[<- ha.fn q.1 q1];exact q2
  have hd:done.length<=16128:=by
   have:=congrArg List.length h1
   rw[Cm0]at this;omega
  have hcl:=YG (Z8 N h p l (i:Int)) done;replace w:z.n=h.Laws.n:=w;replace h7:z.g i=((Bc (Z8 N h p l (i:Int)) done:Nat):Int):=h7;have o:DT l=(done++[q])++todo:=by rw[h1,Cn9];rfl
  obtain⟨r,r1,r2,r3⟩:=MJ m hi ha.hist x2 (p:=p.g q.1) (fun _=>ha.pw q.1 (by omega)) hk h3;obtain⟨u,u1,u2,u3⟩:=MJ m hi ha.hist y2 (p:=p.g q.1) (fun _=>ha.pw q.1 (by omega)) hk h4;have d:∀M2',Df N h (i:Int) (F7 h.Tree h.Tree.n) M2' -> ¬Z8 N h p l (i:Int) q->∃y,v (r.2.2,z,M2')=some y/\(y.2=0/\YH N h p l y.1):=fun M2' m2 hno=>
   hs4 _ ⟨done++[q],todo,o,rfl,r2,m2,w,h6,by show z.g i=_;rw[YF hno];exact h7⟩
  refine ifT (by show (0:Int)<=(q.1:Int)/\(q.1:Int)<(p.n:Int);omega) ?_;show ∃y,(E7 N (p.g (q.1:Int).toNat) (q.2:Int) M1 X).bind _=some y/\_;rw[Cl2];obtain⟨b,b1,b2⟩:=YE m r3 ((l.g q.1).Forms.g q.2).W;obtain⟨c,c1,c2⟩:=YE m u3 ((l.g q.1).Forms.g q.2).W;refine B4 r1 (By5 (!b) ?_ (fun K hK=>b2 K hK));cases b with
  |false=>exact ifT rfl (d _ h4 fun f=>by have:=b1.2 f.1;cases this)
  |true=>
   refine Ck (ifT (by show (0:Int)<=(q.1:Int)/\(q.1:Int)<(p.n:Int);omega) ?_);show ∃y,(E7 N (p.g (q.1:Int).toNat) (q.2:Int) M2 Y).bind _=some y/\_;rw[Cl2];refine B4 u1 (By5 (!c) ?_ (fun K hK=>c2 K hK));cases c with
   |true=>exact Ck (d _ u2 fun f=>f.2 (c1.1 rfl))
   |false=>
    have hyes:Z8 N h p l (i:Int) q:=⟨b1.1 rfl,fun f=>by have:=c1.2 f;cases this⟩;refine ifT rfl (ifT (by dsimp only;omega) (hs4 _ ⟨done++[q],todo,o,rfl,r2,u2,w,fun j hj=>?_,?_⟩))
    .show (if j=(i:Int).toNat then _ else z.g j)=_;rw[Fp];exact h6 j hj
    show (if i=(i:Int).toNat then _ else z.g i)=_;rw[Cw,Cl2,h7,Cl,Tg hyes]
def Bk2 (hN:3000000<=N){h:A5}(hi:I6 h){p:Sl E6}{l:Sl Entry}(hp:K0 p)(hl:S3 l)(ha:attOk N h p l) :∃r,CV N h p l=some r/\(r.2=0/\YH N h p l r.1):=by
 have hlen:=ha.len;have h64:=ha.hist.laws.1;have hpn:=ha.pn;have hln:=ha.n;have h63:=Cq ha.hist.tree;unfold CV;refine B4 (Mw hN hi hp hl) ?_;rw[(Cr (by omega) hp hl).2 ha];refine Ck (Ab ?_);refine N4 (fun i (s:Sl Int) x=>x=(i:Int)/\s.n=h.Laws.n/\(∀j,j<i->s.g j=((Bc (Z8 N h p l (j:Int)) (DT l):Nat):Int))/\∀j,i<=j->s.g j=0) h.Laws.n _ (by omega) ⟨rfl,by show (h.Laws.n:Int).toNat=_;omega,fun j w=>Kh w (by omega),fun j _=>rfl⟩ ?_;rintro self i s x hle ⟨rfl,a0,a1,a2⟩ hs;by_cases hil:i<h.Laws.n
 case neg=>
  obtain rfl:i=h.Laws.n:=by omega
  exact Ci ⟨_,rfl,rfl,a0,a1⟩
 refine Ax ?_;refine N4 (fun e (z:Sl Int) x=>x=(e:Int)/\z.n=h.Laws.n/\(∀j,j≠i->z.g j=s.g j)/\z.g i=((Bc (Z8 N h p l (i:Int)) (CN l e):Nat):Int)) l.n _ (by omega) ⟨rfl,a0,fun _ _=>rfl,a2 i (Cl9 _)⟩ ?_;rintro self2 e z x he ⟨rfl,d,a,m⟩ hs2;by_cases a3:e<l.n
 case neg=>
  obtain rfl:e=l.n:=by omega
  refine Ci (hs hil _ _ ⟨Cl,d,fun j w=>?_,fun j w=>by rw[a j (by omega)];exact a2 j (by omega)⟩);by_cases e' : j=i
  .subst e';exact m
  rw[a j e'];exact a1 j (by omega)
 have hfi:=ha.fn e a3;have hU:(CN l e).length<=e*63:=GW e fun j w=>by rw[ha.fn j (by omega)];exact h63
 refine Ax ?_;refine N4 (fun k (z:Sl Int) x=>x=(k:Int)/\z.n=h.Laws.n/\(∀j,j≠i->z.g j=s.g j)/\z.g i=((Bc (Z8 N h p l (i:Int)) (CN l e++attR l e k):Nat):Int)) (l.g e).Forms.n _ (by omega) ⟨rfl,d,a,by rw[m];simp[attR]⟩ ?_;rintro t k z x hk ⟨rfl,d,a,m⟩ u;have hR:=Fy l e k;have hcl:=YG (Z8 N h p l (i:Int)) (CN l e++attR l e k);rw[Cm0]at hcl;refine Ab ?_;rw[Cl2];by_cases v:k<(l.g e).Forms.n
 case neg=>
  obtain rfl:k=(l.g e).Forms.n:=by omega
  exact Ci (hs2 a3 _ _ ⟨Cl,d,a,by rw[Gl];exact m⟩)
 refine Ax (Ab ?_);rw[Cl2];have o:=Qk l e k;by_cases hh:((l.g e).Forms.g k).Has=true
 case neg=>rw[Ix hh,Cn0]at o;exact ifF hh (u v _ _ ⟨Cl,d,a,by rw[o];exact m⟩)
 rw[Il hh]at o;have a4:k<(F7 h.Tree h.Tree.n).n:=by omega
 obtain⟨b,b1,b2⟩:=EW hN hi ha.hist (x:=-1) (p:=p.g e) (f:=(l.g e).Forms.g k) (fun _=>ha.pw e (by omega)) a4;obtain⟨c,c1,c2⟩:=EW hN hi ha.hist (x:=(i:Int)) (p:=p.g e) (f:=(l.g e).Forms.g k) (fun _=>ha.pw e (by omega)) a4;have q:¬Z8 N h p l (i:Int) (e,k)->∃y,t z (wrap .i64 ((k:Int)+1))=some y/\(y.2=0/\YH N h p l y.1):=fun hno=>
  u v _ _ ⟨Cl,d,a,by rw[o,<- Cn9,YF hno];exact m⟩
 refine ifT hh (Ab (B4 b1 ?_));cases b with
 |false=>exact Ck (q fun f=>by have:=b2.2 f.1;cases this)
 |true=>
  refine ifT rfl (Ab (B4 c1 ?_));cases c with
  |true=>exact Ck (q fun f=>f.2 (c2.1 rfl))
  |false=>
   have a5:Z8 N h p l (i:Int) (e,k):=⟨b2.1 rfl,fun f=>by have:=c2.2 f;cases this⟩;refine ifT rfl (Ab (u v _ _ ⟨Cl,d,fun j w=>?_,?_⟩))
   .show (if j=(i:Int).toNat then _ else z.g j)=_;rw[Fp];exact a j w
   show (if i=(i:Int).toNat then _ else z.g i)=_;rw[Cw,Cl2,m,Cl,o,<- Cn9,Tg a5]
def By6 (b:3000000<=N){h:A5}(c:I6 h){p:Sl E6}{l:Sl Entry}(hp:K0 p)(hl:S3 l) :∃r r',L0 N h p l=some r/\CV N h p l=some r' /\ r.2=r'.2/\SE r.1 r'.1/\r.1.n<=64/\(r.2=0↔attOk N h p l)/\(r.2=0->YH N h p l r.1):=by
 by_cases ha:attOk N h p l
 .have g:=ha.hist.laws.1;obtain⟨r,r1,r2,r3⟩:=Ae6 b c hp hl ha;obtain⟨r',r1',r2',r3'⟩:=Bk2 b c hp hl ha;have hn:=r3.1;exact⟨r,r',r1,r1',by rw[r2,r2'],⟨r3.1.trans r3'.1.symm,fun j i=>by rw[r3.2 j (by omega),r3'.2 j (by omega)]⟩,by omega,⟨fun _=>ha,fun _=>r2⟩,fun _=>r3⟩
 have d:UV N h p l≠0:=fun e=>ha ((Cr (by omega) hp hl).1 e);have a:(UV N h p l != 0)=true:=by simpa using d
 refine⟨((Sl.nil:Sl Int),UV N h p l),((Sl.nil:Sl Int),UV N h p l),?_,?_,rfl,SE.refl _,Cx3 _,⟨fun f=>Kh f d,fun f=>Kh f ha⟩,fun f=>Kh f d⟩
 .unfold L0;rw[W7 b c hp hl,Cl3,Il a]
 unfold CV;rw[Mw b c hp hl,Cl3,Il a]
def AT8 {a b:Sl Int}(f:a.n<N)(hs:a.n<1000000000)(h:SE a b):BY N a b=some true:=by
 obtain⟨h1,g⟩:=h;refine eqR ?_;unfold BY;refine ifF (by simp[h1]) ?_;refine Aq (fun i x=>x=(i:Int)) a.n _ f rfl ?_;rintro d i x j rfl c;by_cases hl:i<a.n
 .refine Ax (Ab ?_);rw[Cl2,g i hl];exact Ci (c hl _ (Cl))
 exact Bm ⟨_,rfl,rfl⟩
def Ae7 (a:3000000<=N)(hw:E1 N=some true){h:A5}(b:I6 h){p:Sl E6}{l:Sl Entry}(hp:K0 p)(hl:S3 l):CR N h p l=some true:=by refine eqR ?_;unfold CR;refine AI2 a hw h p l (eqR ?_);obtain⟨r,r',r1,r1',r2,r3,r4,_⟩:=By6 a b hp hl;exact B4 r1 (B4 r1' (ltX (ifT (by simp[r2]) (B4 (AT8 (by omega) (by omega) r3) (ifT rfl (B4 hw ⟨_,rfl,rfl⟩))))))
end Go.AM
namespace Go.AM
open Go.RowKit Go.ChangeShapes Go.WideShapes Go.ChangeAt Go.Deep Go.Proofs Go.Proofs.YtlbooedblpdmaaaGreatDoor
namespace AtLaws
set_option maxRecDepth 100000
def contract (H:Type)(enc:TypeId×Value->H)(W:World)(base:Nat)(args:Array Value)(ds gs:List (DataW H))(before:List MemPlace)
 (a:∀(j:Nat) t v,Tryz.f4.params[j]? = some t->args[j]? = some v->Value.okWide Tryz.prog W .any base t v)
 (u:DataW.Whole enc Tryz.prog Tryz.f4.params.toList Rows.attestLawsSpec.vars false W args.toList ds gs before) (hk:Rows.uptoSmall H (ds++gs)=true) (hL:laidMetH Tryz.prog Rows.attestLawsUptoRow.laid W) :
 Calls Tryz.prog 4 args W fun e W'=>∃v,e=.returned v/\Rows.attestLawsSpec.post enc Tryz.prog Tryz.f4 false true false false W args v W':=by
 have d:=u;obtain⟨p,q,f,x,rfl,y,z⟩:=u;have w:DataW.TrodAll enc Tryz.prog W 0 (fun _=>true) true Tryz.f4.params.toList args.toList ds p:=f;rw[CY2]at w a;obtain⟨v0,vs0,d0,ds0,p0,q0,l,rfl,rfl,h0,r0⟩:=trodAll_cons w;obtain⟨v1,vs1,d1,ds1,p1,q1,rfl,rfl,rfl,h1,r1⟩:=trodAll_cons r0;obtain⟨v2,vs2,d2,ds2,p2,q2,rfl,rfl,rfl,h2,r2⟩:=trodAll_cons r1;obtain⟨rfl,rfl,rfl⟩:=trodAll_nil r2;obtain rfl:args = #[v0,v1,v2]:=by cases args;simp_all
 obtain⟨rfl,rfl⟩:=trodVars_none x;have hb:=of_decide_eq_true hk;simp only[Cn0,Rows.uptoBulkAll]at hb;obtain⟨cs0,c,_⟩:=okWide_struct Cy7 (a 0 26 v0 rfl rfl);obtain⟨a1,len1,cap1,m⟩:=okWide_slice Cs8 (a 1 27 v1 rfl rfl);obtain⟨a2,len2,cap2,o⟩:=okWide_slice Ct7 (a 2 28 v2 rfl rfl);obtain⟨fu0,g0⟩:=h0;obtain⟨fu1,g1⟩:=h1;obtain⟨fu2,g2⟩:=h2;have r:SJ Tryz.prog [26,22,112,3,9,23,90,87,72,70,4,85,51,88,142,24,43,27,68,28,49]=true:=by kernel_rfl
 have b:∀t∈([26,22,112,3,9,23,90,87,72,70,4,85,51,88,142,24,43,27,68,28,49]:List Nat),t<Tryz.prog.types.size:=by decide +kernel
 obtain⟨pv0,c0,sh0⟩:=I1 GG GH r b fu0 26 _ _ (by simp) g0;obtain⟨x0,l0,w0,s0⟩:=Ca _ _ sh0;have s0:AT x0<=Rows.uptoBulk d0:=s0;have e0:=c0.leD l0;rw[c]at e0;have e0:=OL e0;rw[<- c]at e0;obtain⟨pv1,c1,sh1⟩:=I1 GG GH r b fu1 27 _ _ (by simp) g1;obtain⟨x1,l1,w1,s1⟩:=H1 Cs8 (by kernel_rfl) FH _ _ sh1;have s1:(EK (fun i=>Gp (x1.g i)) x1.n+1)<=Rows.uptoBulk d1:=s1;have e1:=CU (by rw[m];rfl) (c1.leD l1);obtain⟨pv2,c2,sh2⟩:=I1 GG GH r b fu2 28 _ _ (by simp) g2;obtain⟨x2,l2,w2,s2⟩:=H1 Ct7 (by kernel_rfl) Eo _ _ sh2;have s2:(EK (fun i=>Ar (x2.g i)) x2.n+1)<=Rows.uptoBulk d2:=s2;have e2:=CU (by rw[o];rfl) (c2.leD l2);have hP:FunO (Jw Tryz.prog) Fl [.p (.agg (A4 x0)),.p (vSl 2 C6 x1),.p (vSl 2 B7 x2)] [] (.p (.bb true)) [] []:=
  UE (BB9 _) Ca4 (Ae7 (N:=4194304) (by omega) Em (Ib w0 (by omega)) (Ep w1) (Lg w2 (by omega)))
 have hc:=Ah (args:=[.agg (A4 x0),vSl 2 C6 x1,vSl 2 B7 x2]) (enters_of Tryz.func4 (by decide +kernel) rfl) hP (W:=W) (vs:=#[v0,v1,v2]) (OM hL) rfl (fun i hi=>by
  match i,hi with
  |0,_=>exact e0
  |1,_=>exact e1
  |2,_=>exact e2
  )
 refine hc.mono fun e W' ⟨he,s⟩=>?_;subst he;exact⟨_,rfl,IP rfl (by kernel_rfl) Cs7 (by kernel_rfl) (by rw[CY2];decide +kernel) d rfl s⟩
def own:ownKnob Tryz.prog.godebug=none:=by kernel_rfl
def reads (os:Os){H:Type}(enc:TypeId×Value->H):∃places,DataW.whole enc Tryz.prog ((World.laidAll Tryz.prog os Rows.attestLawsUptoRow.laid).forCall (fun _ _=>0) ⟨#[],#[.agg #[.slice none 0 0,.slice none 0 0,.slice none 0 0],.slice none 0 0,.slice none 0 0],[]⟩).memory Tryz.f4.params.toList Rows.attestLawsSpec.vars false (#[.agg #[.slice none 0 0,.slice none 0 0,.slice none 0 0],.slice none 0 0,.slice none 0 0]:Array Value).toList 16=some ([.agg [.nil,.nil,.nil],.nil,.nil],[],places):=
 ⟨[],by kernel_rfl⟩
def laid_met (os:Os):laidMet Tryz.prog Rows.attestLawsUptoRow.laid ((World.laidAll Tryz.prog os Rows.attestLawsUptoRow.laid).forCall (fun _ _=>0) ⟨#[],#[.agg #[.slice none 0 0,.slice none 0 0,.slice none 0 0],.slice none 0 0,.slice none 0 0],[]⟩).memory:=
 laidMet_laidAll _ (by kernel_rfl) (by kernel_rfl)
def liftedUpto (os:Os)(started:os.Started)(H:Type)(enc:TypeId×Value->H)(F:Stop.Interp) :ReturnsInHanded {} Tryz.checked os 4 .any ((Rows.OpenSpec.upto Rows.attestLawsSpec).preRow enc Tryz.prog Tryz.f4 Rows.attestLawsUptoRow.domain false Rows.attestLawsUptoRow.laid) (((Rows.OpenSpec.upto Rows.attestLawsSpec).at F).post enc Tryz.prog Tryz.f4 false true false false):=by
 obtain⟨places,hx⟩:=reads os enc;refine returnsInHanded_of_row (C:=Tryz.checked) (s:=Rows.OpenSpec.upto Rows.attestLawsSpec) own started (by kernel_rfl) Tryz.func4
  (witness_row_at (enc:=enc) (C:=Tryz.checked) false (World.laidAll Tryz.prog os Rows.attestLawsUptoRow.laid) #[.agg #[.slice none 0 0,.slice none 0 0,.slice none 0 0],.slice none 0 0,.slice none 0 0] (World.laidAll_os _ _ _) (by kernel_rfl) (by kernel_rfl) (by kernel_rfl)
   (Cu4 16 hx (by kernel_rfl) (fun k hk=>by cases hk;kernel_rfl) (by kernel_rfl) (laid_met os))) ?_
 intro W base args ds gs before b c _ a _ hL _ _;exact contract H enc W base args ds gs before b c (a _ rfl) hL
def gA:jA_ Tryz.pinned.checked.prog 4 Tryz.f4 (Rows.OpenSpec.upto Rows.attestLawsSpec).bare Rows.attestLawsUptoRow=true:=by kernel_rfl
def gB:jB_ Tryz.pinned.checked.prog 4 Tryz.f4 (Rows.OpenSpec.upto Rows.attestLawsSpec).bare Rows.attestLawsUptoRow=true:=by kernel_rfl
def gC:jC_ Tryz.pinned.checked.prog 4 Tryz.f4 (Rows.OpenSpec.upto Rows.attestLawsSpec).bare Rows.attestLawsUptoRow=true:=by kernel_rfl
def gD:jD_ Tryz.pinned.checked.prog 4 Tryz.f4 (Rows.OpenSpec.upto Rows.attestLawsSpec).bare Rows.attestLawsUptoRow=true:=by kernel_rfl
def gE:jE_ Tryz.pinned.checked.prog 4 Tryz.f4 (Rows.OpenSpec.upto Rows.attestLawsSpec).bare Rows.attestLawsUptoRow=true:=by kernel_rfl
def gF:jF_ Tryz.pinned.checked.prog 4 Tryz.f4 (Rows.OpenSpec.upto Rows.attestLawsSpec).bare Rows.attestLawsUptoRow=true:=by kernel_rfl
def saidUpto:Rows.AttestLawsUptoSaid:=
 Cv1 4 Tryz.f4 rfl rfl rfl rfl rfl rfl rfl ⟨rfl,rfl,rfl,rfl,rfl⟩ rfl rfl rfl rfl rfl (by kernel_rfl) Tryz.func4 (Gm gA gB gC gD gE gF)
  (of_decide_eq_true (by kernel_rfl)) (by unfold Func.isWrapper;first|(rw[Il (by decide +kernel)];kernel_rfl)|(rw[Ix (by decide +kernel)];exact⟨rfl,rfl⟩))
  (fun os started H enc _ F=>by rw[Cv8];exact liftedUpto os started H enc F)
def plain (f:FuncId)(fn:Func)(b:Tryz.pinned.checked.prog.funcNamed "ablaut/ablautlaw26.AttestLaws" = some f)(a:Tryz.pinned.checked.prog.funcs[f]? = some fn) :true=Tryz.pinned.checked.prog.looks []/\∀(j:Nat) t,fn.params[j]? = some t->Tryz.pinned.checked.prog.wantsStandIn t=false:=by
 obtain rfl:f=4:=Cm3 ((show Tryz.prog.funcNamed "ablaut/ablautlaw26.AttestLaws" = some 4 by kernel_rfl).symm.trans b) |>.symm;obtain rfl:fn=Tryz.f4:=(Cm3 (Tryz.func4.symm.trans a)).symm;refine⟨by kernel_rfl,fun j t ht=>?_⟩;rw[CY2]at ht;have hm:=Ct1 ht;simp only[Cz9,Co1,CA6,or_false]at hm;rcases hm with rfl|rfl|rfl
 .exact (show Tryz.prog.wantsStandIn 26=false by kernel_rfl)
 .exact (show Tryz.prog.wantsStandIn 27=false by kernel_rfl)
 exact (show Tryz.prog.wantsStandIn 28=false by kernel_rfl)
def cardUpto:Rows.AttestLawsUptoCardSaid:=
 Cr9 .later [] _ _ _ _ saidUpto (fun _ h=>by cases h) (by kernel_rfl) (fun _ h=>by cases h) attestLawsUpto_row_tie rfl ⟨rfl,rfl⟩ (by kernel_rfl) rfl plain (by kernel_rfl)
end AtLaws
end Go.AM
