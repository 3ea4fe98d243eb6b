/- What a law's walk and its plain proof need, part 12: no condition of its own. -/
import Derived.Test.YtlbooedblpdmaaaGreatDoorAJ
import Derived.Test.YtlbooedblpdmaaaGreatDoorAH
import Derived.Test.YtlbooedblpdmaaaGreatDoorAI
import Derived.Test.YtlbooedblpdmaaaGreatDoorAK
import Derived.Lay
set_option linter.defProp false
set_option linter.unusedSimpArgs false
set_option linter.unusedVariables false
set_option linter.unusedSectionVars false
namespace Go.AM
def Cr6:=@Go.Claim7.holds_tied_plain_at
def Ct6:=@Go.Proofs.Tryz.underlying28
def Cu1:=@Go.OpenSpec.preRow_of_cond
def Cu8:=@Go.OpenClaim.holds_of_cond
def Cv5:=@Go.OpenClaim.pre_eq_preRow
def Cy4:=@Nat.gcd_pos_of_pos_left
def Cz6:=@List.mem_toArray
def CA3:=@List.not_mem_nil
def CC3:=@Nat.le_of_dvd
def CE2:=@Nat.gcd_zero_right
def CH3:=@Nat.gcd_comm
def CI3:=@Nat.gcd_dvd_right
def CI8:=@Nat.dvd_gcd
def CJ4:=@Nat.gcd_dvd_left
def CJ6:=@Go.Proofs.Tryz.underlying2
def CK2:=@Nat.dvd_of_mod_eq_zero
def CK4:=@Nat.mod_eq_zero_of_dvd
def CN2:=@Go.Proofs.Tryz.func114
def CN5:=@Go.Proofs.Tryz.func115
def CN8:=@Go.Proofs.Tryz.func117
def CO1:=@Go.Proofs.Tryz.func118
def CO4:=@Go.Proofs.Tryz.func119
def CO7:=@Go.Proofs.Tryz.func120
def CP0:=@Go.Proofs.Tryz.func136
def CP3:=@Go.Proofs.Tryz.func137
def CP6:=@Go.Proofs.Tryz.func138
def CP9:=@Go.Proofs.Tryz.func139
def CQ2:=@Go.Proofs.Tryz.func141
def CQ5:=@Go.Proofs.Tryz.func154
def CQ8:=@Go.Proofs.Tryz.func155
def CR1:=@Go.Proofs.Tryz.func163
def CR4:=@Go.Proofs.Tryz.func164
def CR7:=@Go.Proofs.Tryz.func165
def CS0:=@Go.Proofs.Tryz.func166
def CS3:=@Go.Proofs.Tryz.func171
def CS6:=@Go.Proofs.Tryz.func172
def CS9:=@Go.Proofs.Tryz.func173
def CT2:=@Go.Proofs.Tryz.func180
def CT5:=@Go.Proofs.Tryz.func181
def CT8:=@Go.Proofs.Tryz.func182
def CU1:=@Go.Proofs.Tryz.func183
def CU4:=@Go.Proofs.Tryz.func184
def CU7:=@Go.Proofs.Tryz.func192
def CV0:=@Go.Proofs.Tryz.func193
def CV3:=@Go.Proofs.Tryz.func194
def CV6:=@Go.Proofs.Tryz.func195
def CV9:=@Go.Proofs.Tryz.func203
def CW2:=@Go.Proofs.Tryz.func204
def CW5:=@Go.Proofs.Tryz.func205
def CW8:=@Go.Proofs.Tryz.func206
def CX1:=@Go.Proofs.Tryz.func207
def CX4:=@Go.Proofs.Tryz.func208
def CX7:=@Nat.div_self
def CX9:=@Go.Proofs.Tryz.params3
def CY7:=@Go.Proofs.Tryz.func51
def CZ0:=@Go.Proofs.Tryz.func52
def CZ3:=@Go.Proofs.Tryz.func57
def CZ6:=@Go.Proofs.Tryz.func58
def CZ9:=@Go.Proofs.Tryz.func59
def Da2:=@Go.Proofs.Tryz.func60
def Da5:=@Go.Proofs.Tryz.func61
def Da8:=@Go.Proofs.Tryz.func62
def Db1:=@Go.Proofs.Tryz.func84
def Db4:=@Go.Proofs.Tryz.func85
def Db7:=@Go.Proofs.Tryz.func89
def Dc0:=@Go.Proofs.Tryz.func90
def Dc3:=@Go.Proofs.Tryz.func91
def Dc6:=@Go.Proofs.Tryz.func92
def Dc9:=@Go.Proofs.Tryz.func93
def Dd2:=@Go.Proofs.Tryz.func94
def Dd5:=@Nat.gcd_div
open Go.Proofs
abbrev Fg:Nat:=3
abbrev AH3:Nat:=18
abbrev Al4:Nat:=20
abbrev Li:Nat:=22
abbrev Ie:Nat:=51
def RJ:Cl1[Ie]? = some Tryz.f51:=CY7
abbrev Ig:Nat:=52
def RK:Cl1[Ig]? = some Tryz.f52:=CZ0
abbrev Nu:Nat:=53
abbrev Lj:Nat:=57
def WN:Cl1[Lj]? = some Tryz.f57:=CZ3
abbrev JI:Nat:=58
def TC:Cl1[JI]? = some Tryz.f58:=CZ6
abbrev Lk:Nat:=59
def WO:Cl1[Lk]? = some Tryz.f59:=CZ9
abbrev Nv:Nat:=60
def ZF:Cl1[Nv]? = some Tryz.f60:=Da2
abbrev Ll:Nat:=61
def WQ:Cl1[Ll]? = some Tryz.f61:=Da5
abbrev Lm:Nat:=62
def WR:Cl1[Lm]? = some Tryz.f62:=Da8
abbrev JJ:Nat:=84
def TD:Cl1[JJ]? = some Tryz.f84:=Db1
abbrev Nw:Nat:=85
def ZG:Cl1[Nw]? = some Tryz.f85:=Db4
abbrev Ln:Nat:=89
def WS:Cl1[Ln]? = some Tryz.f89:=Db7
abbrev Lo:Nat:=90
def WT:Cl1[Lo]? = some Tryz.f90:=Dc0
abbrev EC:Nat:=91
def ZH:Cl1[EC]? = some Tryz.f91:=Dc3
abbrev GZ:Nat:=92
def Qm:Cl1[GZ]? = some Tryz.f92:=Dc6
abbrev JK:Nat:=93
def TE:Cl1[JK]? = some Tryz.f93:=Dc9
abbrev Lp:Nat:=94
def WU:Cl1[Lp]? = some Tryz.f94:=Dd2
abbrev Lq:Nat:=114
def WV:Cl1[Lq]? = some Tryz.f114:=CN2
abbrev Nx:Nat:=115
def ZI:Cl1[Nx]? = some Tryz.f115:=CN5
abbrev Ny:Nat:=117
def ZJ:Cl1[Ny]? = some Tryz.f117:=CN8
abbrev Lr:Nat:=118
def WW:Cl1[Lr]? = some Tryz.f118:=CO1
abbrev Ls:Nat:=119
def WX:Cl1[Ls]? = some Tryz.f119:=CO4
abbrev Nz:Nat:=120
def ZK:Cl1[Nz]? = some Tryz.f120:=CO7
abbrev Lt:Nat:=136
def WY:Cl1[Lt]? = some Tryz.f136:=CP0
abbrev NA:Nat:=137
def ZL:Cl1[NA]? = some Tryz.f137:=CP3
abbrev Lu:Nat:=138
def WZ:Cl1[Lu]? = some Tryz.f138:=CP6
abbrev NB:Nat:=139
def ZM:Cl1[NB]? = some Tryz.f139:=CP9
abbrev ED:Nat:=141
def ZN:Cl1[ED]? = some Tryz.f141:=CQ2
abbrev Lw:Nat:=154
def Xa:Cl1[Lw]? = some Tryz.f154:=CQ5
abbrev NC:Nat:=155
def ZO:Cl1[NC]? = some Tryz.f155:=CQ8
abbrev Lx:Nat:=163
def Xb:Cl1[Lx]? = some Tryz.f163:=CR1
abbrev Qn:Nat:=164
def At9:Cl1[Qn]? = some Tryz.f164:=CR4
abbrev Ly:Nat:=165
def Xc:Cl1[Ly]? = some Tryz.f165:=CR7
abbrev ND:Nat:=166
def ZP:Cl1[ND]? = some Tryz.f166:=CS0
abbrev Qo:Nat:=171
def Au0:Cl1[Qo]? = some Tryz.f171:=CS3
abbrev Qp:Nat:=172
def Au1:Cl1[Qp]? = some Tryz.f172:=CS6
abbrev Ih:Nat:=173
def RM:Cl1[Ih]? = some Tryz.f173:=CS9
abbrev Gq:Nat:=180
def ON:Cl1[Gq]? = some Tryz.f180:=CT2
abbrev JL:Nat:=181
def TF:Cl1[JL]? = some Tryz.f181:=CT5
abbrev NE:Nat:=182
def ZQ:Cl1[NE]? = some Tryz.f182:=CT8
abbrev JM:Nat:=183
def TG:Cl1[JM]? = some Tryz.f183:=CU1
abbrev NF:Nat:=184
def ZR:Cl1[NF]? = some Tryz.f184:=CU4
abbrev Qq:Nat:=192
def Au2:Cl1[Qq]? = some Tryz.f192:=CU7
abbrev NG:Nat:=193
def ZS:Cl1[NG]? = some Tryz.f193:=CV0
abbrev DE:Nat:=194
def Xd:Cl1[DE]? = some Tryz.f194:=CV3
abbrev Qr:Nat:=195
def Au3:Cl1[Qr]? = some Tryz.f195:=CV6
abbrev Ii:Nat:=203
def RN:Cl1[Ii]? = some Tryz.f203:=CV9
abbrev Gr:Nat:=204
def OO:Cl1[Gr]? = some Tryz.f204:=CW2
abbrev NH:Nat:=205
def ZT:Cl1[NH]? = some Tryz.f205:=CW5
abbrev JN:Nat:=206
def TH:Cl1[JN]? = some Tryz.f206:=CW8
abbrev NI:Nat:=207
def ZU:Cl1[NI]? = some Tryz.f207:=CX1
abbrev Lz:Nat:=208
def Xe:Cl1[Lz]? = some Tryz.f208:=CX4
abbrev D4:Nat:=225
end Go.AM
namespace Go.AM
variable {N:Nat}
open IntKind (wrap)
open Go.Proofs
set_option maxRecDepth 10000
set_option maxHeartbeats 2000000
variable {S:W1}(hS:H9 S Tryz.prog) (hL:GD S)
include hS hL
theorem O4 {b:To}{y:Bool}(h:I3 N b=some y) :FunO S Ls [.p (.agg (A0 b))] [] (pB y) ([]) []:=by
 unfold I3 at h;refine A1 hS WX ?_;refine E2 hS T3 h (fun x1=>⟨[(3,pN x1),(1,.reg 2000 0)],[(2000,.cells [pU b.Plus,pU b.Minus])]⟩) (ids:=[(2000,2000)]) (fun _ _ _ _ _ c x1 d h=>?_);apply kI hS h<;>intro h
 .obtain⟨c7,h⟩:=C7 h;refine kB hS (A2 hS) c7 T3 12 (.o (.n (.a ((E9 .and .u32 (shI .shr .u32 b.Plus x1) 1)==1)) (.a ((E9 .and .u32 (shI .shr .u32 b.Minus x1) 1)==1))) (.n (.o (.a ((E9 .and .u32 (shI .shr .u32 b.Plus x1) 1)==1)) (.a ((E9 .and .u32 (shI .shr .u32 b.Minus x1) 1)==1))) (.a (decide (24<=x1))))) ?_;apply kI hS h<;>intro h
  .cases h;exact kR hS
  exact d _ [(2000,2000)] _ (wrap .i64 (x1+1)) T3 h
 cases h;exact kR hS
theorem RO {b:Int}{y:Bool}(h:X0 N b=some y) :FunO S Ii [pN b] [] (pB y) ([]) []:=by unfold X0 at h;refine A1 hS RN ?_;refine kB hS (A2 hS) T3 T3 3 (.n (.a (decide (0<=b))) (.a (decide (b<24)))) ?_;cases h;exact kR hS
theorem At {a:To}{c:Int}{y:Int}(h:V5 N a c=some y) :FunO S Qq [.p (.agg (A0 a)),pN c] [] (pN y) ([]) []:=by
 unfold V5 at h;refine A1 hS Au2 ?_;refine kC hS h (O4 hS hL) (fun y1 h=>?_);refine Ai hS T3 (A2 hS) h 0 (fun z1=>⟨[(12,pB z1),(2,.reg 3000 0),(1,pN c)],[(3000,.cells [pU a.Plus,pU a.Minus])]⟩) (fun M1 k1 d h=>?_) (fun z1 h=>?_)
 .refine kG hS h (fun h=>?_) (fun h=>?_)
  .exact d _ [(3000,3000)] _ true T3 h
  refine kC hS h (RO hS hL) (fun y3 h=>?_);exact d _ [(3000,3000)] _ (!y3) T3 h
 apply kI hS h<;>intro h
 .cases h;exact kR hS
 obtain⟨c5,h⟩:=C7 h;refine D1 hS c5 (b:=(E9 .and .u32 (shI .shr .u32 a.Plus c) 1)==1) (fun c6=>?_) (fun c6=>?_)
 .replace h:=itT c6 h;cases h;exact kR hS
 replace h:=itF c6 h;obtain⟨c7,h⟩:=C7 h;refine D1 hS c7 (b:=(E9 .and .u32 (shI .shr .u32 a.Minus c) 1)==1) (fun c8=>?_) (fun c8=>?_)
 .replace h:=itT c8 h;cases h;exact kR hS
 replace h:=itF c8 h;cases h;exact kR hS
theorem FA {c:To}{d:Int}{a:Int}{y:To}(h:Az N c d a=some y) :FunO S Qr [.p (.agg (A0 c)),pN d,pN a] [] (.p (.agg (A0 y))) ([]) []:=by
 unfold Az at h;refine A1 hS Au3 ?_;obtain⟨c1,h⟩:=C7 h;refine D1 hS c1 (b:=a==1) (fun c2=>?_) (fun c2=>?_)
 .replace h:=itT c2 h;apply kI hS h<;>intro h
  .cases h;exact kR hS
  cases h;exact kR hS
 replace h:=itF c2 h;apply kI hS h<;>intro h
 .cases h;exact kR hS
 cases h;exact kR hS
theorem OP {b:To}{a:To}{y:Bool}(h:J3 N b a=some y) :FunO S Gq [.p (.agg (A0 b)),.p (.agg (A0 a))] [] (pB y) ([]) []:=by
 unfold J3 at h;refine A1 hS ON ?_;refine kC hS h (O4 hS hL) (fun y1 h=>?_);refine Ai hS T3 (A2 hS) h 0 (fun z1=>⟨[(14,pB z1),(3,.reg 4000 0),(2,.reg 3000 0)],[(4000,.cells [pU a.Plus,pU a.Minus]),(3000,.cells [pU b.Plus,pU b.Minus])]⟩) (fun M1 k1 c h=>?_) (fun z1 h=>?_)
 .refine kG hS h (fun h=>?_) (fun h=>?_)
  .exact c _ [(3000,3000),(4000,4000)] _ true T3 h
  refine kC hS h (O4 hS hL) (fun y3 h=>?_);exact c _ [(3000,3000),(4000,4000)] _ (!y3) T3 h
 apply kI hS h<;>intro h
 .cases h;exact kR hS
 refine E2 hS T3 h (fun x3=>⟨[(5,pN x3),(3,.reg 4000 0),(2,.reg 3000 0)],[(4000,.cells [pU a.Plus,pU a.Minus]),(3000,.cells [pU b.Plus,pU b.Minus])]⟩) (ids:=[(3000,3000),(4000,4000)]) (fun _ _ _ _ _ f x3 g h=>?_);apply kI hS h<;>intro h
 .refine kC hS h (At hS hL) (fun i h=>?_);refine Ai hS T3 (A2 hS) h 0 (fun z4=>⟨[(30,pB z4),(5,pN x3),(3,.reg 4000 0),(2,.reg 3000 0)],[(4000,.cells [pU a.Plus,pU a.Minus]),(3000,.cells [pU b.Plus,pU b.Minus])]⟩) (fun M4 k4 d h=>?_) (fun z4 h=>?_)
  .refine kG hS h (fun h=>?_) (fun h=>?_)
   .refine kC hS h (At hS hL) (fun j h=>?_);exact d _ [(3000,3000),(4000,4000)] _ (j != i) T3 h
   exact d _ [(3000,3000),(4000,4000)] _ false T3 h
  apply kI hS h<;>intro h
  .cases h;exact kR hS
  exact g _ [(3000,3000),(4000,4000)] _ (wrap .i64 (x3+1)) T3 h
 cases h;exact kR hS
theorem TI {f:To}{c:Int}{d:To}{y:To×Int}(h:N1 N f c d=some y) :FunO S JM [.p (.agg (A0 f)),pU c,.p (.agg (A0 d))] [] (.tup [.p (.agg (A0 y.1)),pN y.2]) ([]) []:=by
 unfold N1 at h;refine A1 hS TG ?_;refine D8 hS T3 5 4000 [pI .u32 f.Plus,pI .u32 f.Minus] ?_;refine D8 hS T3 6 6000 [pI .u32 d.Plus,pI .u32 d.Minus] ?_;obtain⟨y1,e1,h⟩:=B1 h;refine B6 hS [] (by decide:(2:Nat)<=2) (O4 hS hL e1) ?_;refine Ai hS T3 (A2 hS) h 0 (fun z1=>⟨[(17,pB z1),(6,.reg 7000 0),(5,.p (.ptr [pI .u32 d.Plus,pI .u32 d.Minus])),(3,.p (.ptr [pI .u32 f.Plus,pI .u32 f.Minus])),(1,pU c)],[(7000,.cells [pU 0,pU 0])]⟩) (fun M1 k1 i h=>?_) (fun z1 h=>?_)
 .refine kG hS h (fun h=>?_) (fun h=>?_)
  .exact i _ [(7000,7000)] _ true T3 h
  obtain⟨y3,e3,h⟩:=B1 h;refine B6 hS [] (by decide:(2:Nat)<=2) (O4 hS hL e3) ?_;exact i _ [(7000,7000)] _ (!y3) T3 h
 apply kI hS h<;>intro h
 .cases h;exact kR hS
 refine kB hS (A2 hS) T3 T3 9 (.o (.a (decide (16777215<c))) (.a ((E9 .and .u32 c (E9 .or .u32 d.Plus d.Minus)) != 0))) ?_;apply kI hS h<;>intro h
 .cases h;exact kR hS
 refine Cv hS (by decide:(2:Nat)<=2) h (fun x2 x3 x4=>⟨[(9,pN x4),(8,.reg 9000 0),(6,.reg 7000 0),(5,.p (.ptr [pI .u32 d.Plus,pI .u32 d.Minus])),(1,pU c)],[(9000,.cells [pU x2,pU x3]),(7000,.cells [pU 0,pU 0])]⟩) (ids:=[(7000,7000),(9000,9000)]) (fun _ _ _ _ _ n x2 x3 x4 g h=>?_);apply kI hS h<;>intro h
 .obtain⟨c16,h⟩:=C7 h;refine D1 hS c16 (b:=(E9 .and .u32 (shI .shr .u32 c x4) 1)==1) (fun c17=>?_) (fun c17=>?_)
  .replace h:=itT c17 h;refine kC hS h (FA hS hL) (fun j h=>?_);obtain⟨q,e19,h⟩:=B1 h;refine B6 hS [] (by decide:(2:Nat)<=2) (At hS hL e19) ?_;apply kI hS h<;>intro h
   .refine C5 hS T3 [2,4,5] ?_;obtain⟨r,e20,h⟩:=B1 h;refine F8 (by decide:(2:Nat)<=2) (At hS hL e20) ?_;obtain⟨l,e21,h⟩:=B1 h;refine F8 T3 (FA hS hL e21) ?_;refine D9 T3 ?_;exact g _ [(7000,7000),(9000,9000)] _ l.Plus l.Minus (wrap .i64 (x4+1)) T3 h
   exact g _ [(7000,7000),(9000,9000)] _ j.Plus j.Minus (wrap .i64 (x4+1)) T3 h
  replace h:=itF c17 h;obtain⟨s,e22,h⟩:=B1 h;refine B6 hS [] (by decide:(2:Nat)<=2) (At hS hL e22) ?_;apply kI hS h<;>intro h
  .refine C5 hS T3 [2,4,5] ?_;obtain⟨t,e23,h⟩:=B1 h;refine F8 (by decide:(2:Nat)<=2) (At hS hL e23) ?_;obtain⟨m,e24,h⟩:=B1 h;refine F8 T3 (FA hS hL e24) ?_;refine D9 T3 ?_;exact g _ [(7000,7000),(9000,9000)] _ m.Plus m.Minus (wrap .i64 (x4+1)) T3 h
  exact g _ [(7000,7000),(9000,9000)] _ x2 x3 (wrap .i64 (x4+1)) T3 h
 cases h;exact kR hS
theorem ZV {d:To}{a:To}{c:Int}{y:To×Int}(h:U8 N d a c=some y) :FunO S NF [.p (.agg (A0 d)),.p (.agg (A0 a)),pU c] [] (.tup [.p (.agg (A0 y.1)),pN y.2]) ([]) []:=by
 unfold U8 at h;refine A1 hS ZR ?_;refine D8 hS T3 4 4000 [pI .u32 d.Plus,pI .u32 d.Minus] ?_;refine D8 hS T3 6 5000 [pI .u32 a.Plus,pI .u32 a.Minus] ?_;obtain⟨y1,e1,h⟩:=B1 h;refine B6 hS [] (by decide:(2:Nat)<=2) (O4 hS hL e1) ?_;refine Ai hS T3 (A2 hS) h 0 (fun z1=>⟨[(17,pB z1),(6,.reg 7000 0),(4,.p (.ptr [pI .u32 a.Plus,pI .u32 a.Minus])),(3,.p (.ptr [pI .u32 d.Plus,pI .u32 d.Minus])),(2,pU c)],[(7000,.cells [pU 0,pU 0])]⟩) (fun M1 k1 f h=>?_) (fun z1 h=>?_)
 .refine kG hS h (fun h=>?_) (fun h=>?_)
  .exact f _ [(7000,7000)] _ true T3 h
  obtain⟨y3,e3,h⟩:=B1 h;refine B6 hS [] (by decide:(2:Nat)<=2) (O4 hS hL e3) ?_;exact f _ [(7000,7000)] _ (!y3) T3 h
 apply kI hS h<;>intro h
 .cases h;exact kR hS
 apply kI hS h<;>intro h
 .cases h;exact kR hS
 refine Cv hS (by decide:(2:Nat)<=2) h (fun x2 x3 x4=>⟨[(9,pN x4),(8,.reg 9000 0),(6,.reg 7000 0),(4,.p (.ptr [pI .u32 a.Plus,pI .u32 a.Minus])),(2,pU c)],[(9000,.cells [pU x2,pU x3]),(7000,.cells [pU 0,pU 0])]⟩) (ids:=[(7000,7000),(9000,9000)]) (fun _ _ _ _ _ i x2 x3 x4 g h=>?_);apply kI hS h<;>intro h
 .obtain⟨c12,h⟩:=C7 h;refine D1 hS c12 (b:=(E9 .and .u32 (shI .shr .u32 c x4) 1)==1) (fun c13=>?_) (fun c13=>?_)
  .replace h:=itT c13 h;refine C5 hS T3 [2,4,5] ?_;obtain⟨y8,e8,h⟩:=B1 h;refine F8 (by decide:(2:Nat)<=2) (At hS hL e8) ?_;obtain⟨y9,e9,h⟩:=B1 h;refine F8 T3 (FA hS hL e9) ?_;refine D9 T3 ?_;exact g _ [(7000,7000),(9000,9000)] _ y9.Plus y9.Minus (wrap .i64 (x4+1)) T3 h
  replace h:=itF c13 h;exact g _ [(7000,7000),(9000,9000)] _ x2 x3 (wrap .i64 (x4+1)) T3 h
 cases h;exact kR hS
theorem LA {b:To}{y:Bool}(h:O1 N b=some y) :FunO S Lp [.p (.agg (A0 b))] [] (pB y) ([]) []:=by unfold O1 at h;refine A1 hS WU ?_;refine kB hS (A2 hS) T3 T3 9 (.n (.n (.a ((E9 .and .u32 b.Plus b.Minus)==0)) (.a (decide (b.Plus<16777216)))) (.a (decide (b.Minus<16777216)))) ?_;cases h;exact kR hS
theorem DH {a:Sl To}{y:Int}(h:P5 N a=some y) :FunO S Lm [.p (vSl 2 A0 a)] [] (pN y) ([]) []:=by
 unfold P5 at h;refine A1 hS WR ?_;apply kI hS h<;>intro h
 .cases h;exact kR hS
 refine E2 hS T3 h (fun x1=>⟨[(3,pN x1),(0,.p (vSl 2 A0 a))],[]⟩) (ids:=[]) (fun _ _ _ _ _ b x1 c h=>?_);apply kI hS h<;>intro h
 .obtain⟨c9,h⟩:=C7 h;obtain⟨y3,e3,h⟩:=B1 h;refine B6 hS [] (And.intro c9 (by decide:(2:Nat)<=2)) (LA hS hL e3) ?_;apply kI hS h<;>intro h
  .cases h;exact kR hS
  exact c _ [] _ (wrap .i64 (x1+1)) T3 h
 cases h;exact kR hS
theorem ZW {a:Sl To}{y:Sl To}(h:AI N a=some y) :FunO S NA [.p (vSl 2 A0 a)] [] (.vec 0) ([.vec B0 2 y.n (fun i=>A0 (y.g i)) true]) []:=by
 unfold AI at h;refine A1 hS ZL ?_;refine D7 hS T3 h (fun x1 x2=>⟨[(4,pN x2),(3,.vec 4500),(0,.p (vSl 2 A0 a))],[(4500,.vec B0 2 x1.n (fun i=>A0 (x1.g i)) false)]⟩) (ids:=[]) (fun _ _ _ _ _ b x1 x2 d h=>?_);apply kI hS h<;>intro h
 .obtain⟨c4,h⟩:=C7 h;exact d _ [(4500,18000)] _ (x1.push (a.g x2.toNat)) (wrap .i64 (x2+1)) (And.intro (And.intro (And.intro c4.1 (by decide:(2:Nat)<=2)) (rfl:true=true)) c4.2) h (hle:=klR [(2,.fn (x1.n+1) (x1.push (a.g x2.toNat)).n (I4 x1.n (fun i=>A0 (x1.g i)) (D0 [pI .u32 0,pI .u32 0] [(0,A0 (a.g x2.toNat))])) (fun i=>A0 ((x1.push (a.g x2.toNat)).g i)))] (al1 ⟨rfl,W3 (c:=A0) (v:=x1) (x:=a.g x2.toNat) (z:=[(pI .u32 0),pI .u32 0]) same rfl rfl⟩ al0))
 obtain rfl:=C0 h;exact A8 hS T3 ⟨[(2,.vec 4500)],[(4500,.vec B0 2 x1.n (fun i=>A0 (x1.g i)) true)]⟩ [4500] (ids:=[(4500,4500)]) ⟨rfl,rfl,rfl⟩
theorem ZX {c:Pat}{y:Int}(h:BM N c=some y) :FunO S NC [.p (.agg (C4 c))] [] (pN y) ([]) []:=by
 unfold BM at h;refine A1 hS ZO ?_;refine kB hS (A2 hS) T3 T3 4 (.o (.a (decide (c.Kind<0))) (.a (decide (6<c.Kind)))) ?_;apply kI hS h<;>intro h
 .cases h;exact kR hS
 obtain⟨t1,f⟩:∃x:Bool,x=((c.Kind != 1)&&((((c.Is.Plus==0)&&(c.Is.Minus==0)) != true)||c.Not)):=⟨_,rfl⟩;refine Tm hS T3 (A2 hS) 0 ⟨[(23,pB t1),(1,.reg 2000 0)],[(2000,.cells ((C4 c).map .p))]⟩ (fun M1 l=>?_) ?_
 .refine X9 hS T3 (b:=c.Kind != 1) (fun c4=>?_) (fun c4=>?_)
  .refine X9 hS (by decide +kernel:AJ4 Tryz.prog B0=true) (b:=((c.Is.Plus==0)&&(c.Is.Minus==0)) != true) (fun c5=>?_) (fun c5=>?_)
   .exact l _ [(2000,2000)] _ T3 (hle:=klR [(0,.eq (.bb true) (.bb t1))] (al1 (by simp only[f,c4,c5,Leaf.ok,pm,Rm,Rn]) al0))
   exact l _ [(2000,2000)] _ T3 (hle:=klR [(0,.eq (.bb c.Not) (.bb t1))] (al1 (by simp only[f,c4,c5,Leaf.ok,pm,Rm,Rn]) al0))
  exact l _ [(2000,2000)] _ T3 (hle:=klR [(0,.eq (.bb false) (.bb t1))] (al1 (by simp only[f,c4,Leaf.ok,pm,Rm,Rn]) al0))
 subst f;apply kI hS h<;>intro h
 .cases h;exact kR hS
 refine Ai hS T3 (A2 hS) h 0 (fun z1=>⟨[(42,pB z1),(1,.reg 2000 0)],[(2000,.cells ((C4 c).map .p))]⟩) (fun M2 k1 j h=>?_) (fun z1 h=>?_)
 .refine kG hS h (fun h=>?_) (fun h=>?_)
  .refine kG hS h (fun h=>?_) (fun h=>?_)
   .refine kG hS h (fun h=>?_) (fun h=>?_)
    .refine G9 hS T3 40 ⟨[(39,.p (vSl 7 C4 c.L)),(37,.p (.v (.bool true))),(1,.reg 2000 0)],[(2000,.cells ((C4 c).map .p))]⟩ (ids:=[(2000,2000)]) ?_ (hle:=klR [(0,.fn c.L.n c.L.n (T1 c) (fun i=>C4 (c.L.g i)))] (al1 ⟨rfl,G8 c⟩ al0));exact j _ [(2000,2000)] _ (decide (0<(c.L.n:Int))) T3 h
    exact j _ [(2000,2000)] _ false T3 h
   exact j _ [(2000,2000)] _ false T3 h
  exact j _ [(2000,2000)] _ false T3 h
 apply kI hS h<;>intro h
 .cases h;exact kR hS
 refine kB hS (A2 hS) T3 T3 9 (.n (.a (c.Kind != 5)) (.o (.a (c.Min != 0)) (.a (c.Max != 0)))) ?_;apply kI hS h<;>intro h
 .cases h;exact kR hS
 refine Ai hS T3 (A2 hS) h 0 (fun z2=>⟨[(91,pB z2),(1,.reg 2000 0)],[(2000,.cells ((C4 c).map .p))]⟩) (fun M3 k2 d h=>?_) (fun z2 h=>?_)
 .refine kG hS h (fun h=>?_) (fun h=>?_)
  .refine G9 hS T3 62 ⟨[(61,.p (vSl 7 C4 c.L)),(59,.p (.v (.bool true))),(1,.reg 2000 0)],[(2000,.cells ((C4 c).map .p))]⟩ (ids:=[(2000,2000)]) ?_ (hle:=klR [(0,.fn c.L.n c.L.n (T1 c) (fun i=>C4 (c.L.g i)))] (al1 ⟨rfl,G8 c⟩ al0));refine kG hS h (fun h=>?_) (fun h=>?_)
   .exact d _ [(2000,2000)] _ true T3 h
   refine kG hS h (fun h=>?_) (fun h=>?_)
   .exact d _ [(2000,2000)] _ true T3 h
   refine kG hS h (fun h=>?_) (fun h=>?_)
   .exact d _ [(2000,2000)] _ true T3 h
   refine kG hS h (fun h=>?_) (fun h=>?_)
   .refine kG hS h (fun h=>?_) (fun h=>?_)
    .exact d _ [(2000,2000)] _ true T3 h
    exact d _ [(2000,2000)] _ (decide (32<c.Max)) T3 h
   exact d _ [(2000,2000)] _ false T3 h
  exact d _ [(2000,2000)] _ false T3 h
 apply kI hS h<;>intro h
 .cases h;exact kR hS
 refine kC hS h (LA hS hL) (fun y1 h=>?_);apply kI hS h<;>intro h
 .cases h;exact kR hS
 cases h;exact kR hS
theorem OQ {c:To}{b:To}{y:Bool}(h:V7 N c b=some y) :FunO S Gr [.p (.agg (A0 c)),.p (.agg (A0 b))] [] (pB y) ([]) []:=by unfold V7 at h;refine A1 hS OO ?_;refine kB hS (A2 hS) T3 T3 9 (.n (.a ((E9 .and .u32 c.Plus b.Plus)==b.Plus)) (.a ((E9 .and .u32 c.Minus b.Minus)==b.Minus))) ?_;cases h;exact kR hS
theorem NJ {a:Int}{y:Sl Int}(h:AJ N a=some y) :FunO S NH [pN a] [] (.vec 0) ([.vec D4 1 y.n (fun i=>cI .u64 (y.g i)) true]) []:=by
 unfold AJ at h;refine A1 hS ZT ?_;obtain⟨c1,h⟩:=C7 h;refine D7 hS c1 h (fun x1 x2=>⟨[(4,pN x2),(3,.vec 8000),(0,pN a)],[(8000,.vec D4 1 x1.n (fun i=>cI .u64 (x1.g i)) false)]⟩) (ids:=[(8000,8000)]) (fun _ _ _ _ _ b x1 x2 d h=>?_);apply kI hS h<;>intro h
 .obtain⟨c5,h⟩:=C7 h;exact d _ [(8000,8000)] _ (x1.upd x2.toNat (shI .shl .u64 1 x2)) (wrap .i64 (x2+1)) (And.intro (And.intro c5.1.1 c5.1.2) (And.intro (rfl:(1:Nat)=1) (And.intro c5.2 (by decide:(1:Nat)<=1)))) h (hle:=klR [(2,.fn x1.n (x1.upd x2.toNat (shI .shl .u64 1 x2)).n (fun l=>if l=x2.toNat then splice ((fun i=>cI .u64 (x1.g i)) l) 0 [pI .u64 (shI .shl .u64 1 x2)]else (fun i=>cI .u64 (x1.g i)) l) (fun i=>cI .u64 ((x1.upd x2.toNat (shI .shl .u64 1 x2)).g i)))] (al1 ⟨rfl,QW (c:=cI .u64) (v:=x1) (x:=shI .shl .u64 1 x2) same (fun _=>by first|rfl|(dsimp only;split<;>rfl))⟩ al0))
 obtain rfl:=C0 h;exact A8 hS T3 ⟨[(2,.vec 8000)],[(8000,.vec D4 1 x1.n (fun i=>cI .u64 (x1.g i)) true)]⟩ [8000] (ids:=[(8000,8000)]) ⟨rfl,rfl,rfl⟩
theorem Fh {p_x:Sl Int}{a:Sl Int}{y:Sl Int}(h:Q8 N p_x a=some y) :FunO S JN [.p (vSl 1 (cI .u64) p_x),.p (vSl 1 (cI .u64) a)] [] (.vec 0) ([.vec D4 1 y.n (fun i=>cI .u64 (y.g i)) true]) []:=by
 unfold Q8 at h;refine A1 hS TH ?_;obtain⟨c1,h⟩:=C7 h;refine D7 hS c1 h (fun x3 x4=>⟨[(6,pN x4),(5,.vec 11000),(1,.p (vSl 1 (cI .u64) a)),(0,.p (vSl 1 (cI .u64) p_x))],[(11000,.vec D4 1 x3.n (fun i=>cI .u64 (x3.g i)) false)]⟩) (ids:=[(11000,11000)]) (fun _ _ _ _ _ f x3 x4 j h=>?_);apply kI hS h<;>intro h
 .refine D7 hS T3 h (fun x7 x8=>⟨[(7,pN x8),(6,pN x4),(5,.vec 11000),(1,.p (vSl 1 (cI .u64) a)),(0,.p (vSl 1 (cI .u64) p_x))],[(11000,.vec D4 1 x7.n (fun i=>cI .u64 (x7.g i)) false)]⟩) (ids:=[(11000,11000)]) (fun _ _ _ _ _ m x7 x8 d h=>?_);apply kI hS h<;>intro h
  .obtain⟨c38,h⟩:=C7 h;refine D1 hS c38 (b:=(E9 .and .u64 (shI .shr .u64 (p_x.g x4.toNat) x8) 1)==1) (fun c39=>?_) (fun c39=>?_)
   .replace h:=itT c39 h;refine C5 hS T3 [8,9] ?_;obtain⟨c40,h⟩:=C7 h;refine D9 (And.intro (And.intro (And.intro (And.intro c40.1.1.1.1 c40.1.1.1.2) c40.1.1.2) c40.1.2) (And.intro (rfl:(1:Nat)=1) (And.intro c40.2 (by decide:(1:Nat)<=1)))) ?_;exact d _ [(11000,11000)] _ (x7.upd x4.toNat (E9 .or .u64 (x7.g x4.toNat) (a.g x8.toNat))) (wrap .i64 (x8+1)) T3 h (hle:=klR [(4,.fn x7.n (x7.upd x4.toNat (E9 .or .u64 (x7.g x4.toNat) (a.g x8.toNat))).n (fun l=>if l=x4.toNat then splice ((fun i=>cI .u64 (x7.g i)) l) 0 [pI .u64 (E9 .or .u64 (x7.g x4.toNat) (a.g x8.toNat))]else (fun i=>cI .u64 (x7.g i)) l) (fun i=>cI .u64 ((x7.upd x4.toNat (E9 .or .u64 (x7.g x4.toNat) (a.g x8.toNat))).g i)))] (al1 ⟨rfl,QW (c:=cI .u64) (v:=x7) (x:=E9 .or .u64 (x7.g x4.toNat) (a.g x8.toNat)) same (fun _=>by first|rfl|(dsimp only;split<;>rfl))⟩ al0))
   replace h:=itF c39 h;exact d _ [(11000,11000)] _ x7 (wrap .i64 (x8+1)) T3 h
  exact j _ [(11000,11000)] _ x7 (wrap .i64 (x4+1)) T3 h
 obtain rfl:=C0 h;exact A8 hS T3 ⟨[(4,.vec 11000)],[(11000,.vec D4 1 x3.n (fun i=>cI .u64 (x3.g i)) true)]⟩ [11000] (ids:=[(11000,11000)]) ⟨rfl,rfl,rfl⟩
theorem NK {p_x:Sl Int}{a:Sl Int}{y:Sl Int}(h:AK N p_x a=some y) :FunO S NI [.p (vSl 1 (cI .u64) p_x),.p (vSl 1 (cI .u64) a)] [] (.vec 0) ([.vec D4 1 y.n (fun i=>cI .u64 (y.g i)) true]) []:=by
 unfold AK at h;refine A1 hS ZU ?_;obtain⟨c1,h⟩:=C7 h;refine D7 hS c1 h (fun x1 x2=>⟨[(6,pN x2),(5,.vec 10000),(1,.p (vSl 1 (cI .u64) a)),(0,.p (vSl 1 (cI .u64) p_x))],[(10000,.vec D4 1 x1.n (fun i=>cI .u64 (x1.g i)) false)]⟩) (ids:=[(10000,10000)]) (fun _ _ _ _ _ b x1 x2 d h=>?_);apply kI hS h<;>intro h
 .refine C5 hS T3 [4,5,8,9] ?_;obtain⟨c7,h⟩:=C7 h;refine D9 (And.intro (And.intro (And.intro c7.1.1.1 c7.1.1.2) c7.1.2) (And.intro (rfl:(1:Nat)=1) (And.intro c7.2 (by decide:(1:Nat)<=1)))) ?_;exact d _ [(10000,10000)] _ (x1.upd x2.toNat (E9 .or .u64 (p_x.g x2.toNat) (a.g x2.toNat))) (wrap .i64 (x2+1)) T3 h (hle:=klR [(3,.fn x1.n (x1.upd x2.toNat (E9 .or .u64 (p_x.g x2.toNat) (a.g x2.toNat))).n (fun l=>if l=x2.toNat then splice ((fun i=>cI .u64 (x1.g i)) l) 0 [pI .u64 (E9 .or .u64 (p_x.g x2.toNat) (a.g x2.toNat))]else (fun i=>cI .u64 (x1.g i)) l) (fun i=>cI .u64 ((x1.upd x2.toNat (E9 .or .u64 (p_x.g x2.toNat) (a.g x2.toNat))).g i)))] (al1 ⟨rfl,QW (c:=cI .u64) (v:=x1) (x:=E9 .or .u64 (p_x.g x2.toNat) (a.g x2.toNat)) same (fun _=>by first|rfl|(dsimp only;split<;>rfl))⟩ al0))
 obtain rfl:=C0 h;exact A8 hS T3 ⟨[(4,.vec 10000)],[(10000,.vec D4 1 x1.n (fun i=>cI .u64 (x1.g i)) true)]⟩ [10000] (ids:=[(10000,10000)]) ⟨rfl,rfl,rfl⟩
theorem Xf {p_x:Sl Int}{a:Sl Int}{y:Bool}(h:Al N p_x a=some y) :FunO S Lz [.p (vSl 1 (cI .u64) p_x),.p (vSl 1 (cI .u64) a)] [] (pB y) ([]) []:=by
 unfold Al at h;refine A1 hS Xe ?_;refine E2 hS T3 h (fun x1=>⟨[(5,pN x1),(1,.p (vSl 1 (cI .u64) a)),(0,.p (vSl 1 (cI .u64) p_x))],[]⟩) (ids:=[]) (fun _ _ _ _ _ b x1 c h=>?_);apply kI hS h<;>intro h
 .refine C5 hS T3 [2,3,6,7] ?_;obtain⟨c8,h⟩:=C7 h;refine D9 c8 ?_;apply kI hS h<;>intro h
  .cases h;exact kR hS
  exact c _ [] _ (wrap .i64 (x1+1)) T3 h
 cases h;exact kR hS
end Go.AM
namespace Go.AM
variable {N:Nat}
open IntKind (wrap)
open Go.Proofs
set_option maxRecDepth 10000
set_option maxHeartbeats 2000000
variable {S:W1}(hS:H9 S Tryz.prog) (hL:GD S)
include hS hL
theorem Xg {rec:Pat->Int->Option (Int×Int)}(c:∀{a:Pat}{b:Int}{y:Int×Int},rec a b=some y->FunO S ED [.p (.agg (C4 a)),pN b] [] (.tup [pN y.1,pN y.2]) ([]) []){a:Pat}{b:Int}{y:Int×Int}(h:Q9 rec N a b=some y) :FunO S ED [.p (.agg (C4 a)),pN b] [] (.tup [pN y.1,pN y.2]) ([]) []:=by
 unfold Q9 at h;refine A1 hS ZN ?_;apply kI hS h<;>intro h
 .cases h;exact kR hS
 refine kC hS h (ZX hS hL) (fun y1 h=>?_);apply kI hS h<;>intro h
 .cases h;exact kR hS
 refine D7 hS T3 h (fun x1 x2=>⟨[(8,pN x2),(7,pN x1),(2,.reg 3000 0)],[(3000,.cells ((C4 a).map .p))]⟩) (ids:=[(3000,3000)]) (fun _ _ _ _ _ d x1 x2 f h=>?_);refine G9 hS T3 23 ⟨[(22,.p (vSl 7 C4 a.L)),(20,pN x2),(8,pN x2),(7,pN x1),(2,.reg 3000 0)],[(3000,.cells ((C4 a).map .p))]⟩ (ids:=[(3000,3000)]) ?_ (hle:=klR [(0,.fn a.L.n a.L.n (T1 a) (fun i=>C4 (a.L.g i)))] (al1 ⟨rfl,G8 a⟩ al0));apply kI hS h<;>intro h
 .refine G9 hS T3 31 ⟨[(30,pN x2),(29,.p (vSl 7 C4 a.L)),(8,pN x2),(7,pN x1),(2,.reg 3000 0)],[(3000,.cells ((C4 a).map .p))]⟩ (ids:=[(3000,3000)]) ?_ (hle:=klR [(1,.fn a.L.n a.L.n (T1 a) (fun i=>C4 (a.L.g i)))] (al1 ⟨rfl,G8 a⟩ al0));obtain⟨c10,h⟩:=C7 h;obtain⟨y4,e4,h⟩:=B1 h;refine B6 hS [] (And.intro c10 (by decide:(7:Nat)<=7)) (c e4) ?_;apply kI hS h<;>intro h
  .cases h;exact kR hS
  exact f _ [(3000,3000)] _ y4.1 (wrap .i64 (x2+1)) T3 h
 cases h;exact kR hS
theorem ZY {b:Pat}{a:Int}{y:Int×Int}(h:Dc N b a=some y) :FunO S ED [.p (.agg (C4 b)),pN a] [] (.tup [pN y.1,pN y.2]) ([]) []:=by
 induction N generalizing b a y with
 |zero=>cases (show (none:Option (Int×Int))=some y from h)
 |succ N ih=>exact Xg hS hL (fun e=>ih e) h
theorem Gs {a:Pat}{y:Int}(h:V8 N a=some y) :FunO S Lr [.p (.agg (C4 a))] [] (pN y) ([]) []:=by unfold V8 at h;refine A1 hS WW ?_;refine kC hS h (ZY hS hL) (fun y1 h=>?_);cases h;exact kR hS
theorem ZZ {b:Str}{y:Bool}(h:Z2 N b=some y) :FunO S Ny [.p (.str b)] [] (pB y) ([]) []:=by
 unfold Z2 at h;refine A1 hS ZJ ?_;refine E2 hS T3 h (fun x1=>⟨[(3,pN x1),(0,.p (.str b))],[]⟩) (ids:=[]) (fun _ _ _ _ _ c x1 d h=>?_);apply kI hS h<;>intro h
 .obtain⟨c8,h⟩:=C7 h;refine kB hS (A2 hS) c8 T3 23 (.o (.o (.o (.n (.a (decide (97<=(P8 b x1)))) (.a (decide ((P8 b x1)<=122)))) (.n (.a (decide (65<=(P8 b x1)))) (.a (decide ((P8 b x1)<=90))))) (.n (.a (decide (48<=(P8 b x1)))) (.a (decide ((P8 b x1)<=57))))) (.a ((P8 b x1)==45))) ?_;apply kI hS h<;>intro h
  .cases h;exact kR hS
  exact d _ [] _ (wrap .i64 (x1+1)) T3 h
 refine kB hS (A2 hS) T3 T3 4 (.n (.a (decide (1<=(b.length:Int)))) (.a (decide ((b.length:Int)<=24)))) ?_;cases h;exact kR hS
theorem Aa0 {p_x:Hk}{c:Int}{y:Bool}(h:BN N p_x c=some y) :FunO S Nz [.p (.agg (P1 p_x)),pN c] [] (pB y) ([]) []:=by
 unfold BN at h;refine A1 hS ZK ?_;refine Ai hS T3 (A2 hS) h 0 (fun z1=>⟨[(32,pB z1),(2,.reg 3000 0),(1,pN c)],[(3000,.cells ((P1 p_x).map .p))]⟩) (fun M1 k1 b h=>?_) (fun z1 h=>?_)
 .refine kG hS h (fun h=>?_) (fun h=>?_)
  .exact b _ [(3000,3000)] _ true T3 h
  refine kG hS h (fun h=>?_) (fun h=>?_)
  .exact b _ [(3000,3000)] _ true T3 h
  refine kC hS h (O4 hS hL) (fun y2 h=>?_);refine kG hS h (fun h=>?_) (fun h=>?_)
  .exact b _ [(3000,3000)] _ true T3 h
  refine kG hS h (fun h=>?_) (fun h=>?_)
  .exact b _ [(3000,3000)] _ true T3 h
  exact b _ [(3000,3000)] _ ((E9 .andNot .u32 p_x.Take 16777215) != 0) T3 h
 apply kI hS h<;>intro h
 .cases h;exact kR hS
 refine kB hS (A2 hS) T3 T3 14 (.o (.o (.a ((E9 .and .u32 p_x.Clear (E9 .or .u32 p_x.Set.Plus p_x.Set.Minus)) != 0)) (.a ((E9 .and .u32 p_x.Take (E9 .or .u32 p_x.Set.Plus p_x.Set.Minus)) != 0))) (.a ((E9 .and .u32 p_x.Take p_x.Clear) != 0))) ?_;apply kI hS h<;>intro h
 .cases h;exact kR hS
 apply kI hS h<;>intro h
 .cases h;exact kR hS
 refine kB hS (A2 hS) T3 T3 5 (.n (.a (decide (0<=p_x.Of))) (.a (decide (p_x.Of<c)))) ?_;cases h;exact kR hS
theorem Gt {b:Law}{y:Int}(h:S6 N b=some y) :FunO S Lo [.p (.agg (B2 b))] [] (pN y) ([]) []:=by
 unfold S6 at h;refine A1 hS WT ?_;refine D8 hS T3 2 2000 (B2 b) ?_;refine kC hS h (ZZ hS hL) (fun y1 h=>?_);refine Ai hS T3 (A2 hS) h 0 (fun z1=>⟨[(20,pB z1),(1,.p (.ptr (B2 b)))],[]⟩) (fun M1 k1 c h=>?_) (fun z1 h=>?_)
 .refine kG hS h (fun h=>?_) (fun h=>?_)
  .exact c _ [] _ true T3 h
  obtain⟨y4,e4,h⟩:=B1 h;refine B6 hS [] (by decide:(7:Nat)<=17) (Gs hS hL e4) ?_;refine kG hS h (fun h=>?_) (fun h=>?_)
  .exact c _ [] _ true T3 h
  obtain⟨y5,e5,h⟩:=B1 h;refine B6 hS [] (by decide:(7:Nat)<=10) (Gs hS hL e5) ?_;exact c _ [] _ (y5 != 0) T3 h
 apply kI hS h<;>intro h
 .cases h;exact kR hS
 refine kB hS (A2 hS) T3 T3 25 (.o (.o (.o (.o (.a (decide (4<(b.If.n:Int)))) (.a (decide (6<(b.Out.n:Int))))) (.a ((wrap .i64 ((b.If.n:Int)+(b.Out.n:Int)))==0))) (.a (decide (b.Mode<1)))) (.a (decide (3<b.Mode)))) ?_;apply kI hS h<;>intro h
 .cases h;exact kR hS
 refine E2 hS T3 h (fun x2=>⟨[(3,pN x2),(1,.p (.ptr (B2 b)))],[]⟩) (ids:=[]) (fun _ _ _ _ _ d x2 f h=>?_);apply kI hS h<;>intro h
 .obtain⟨c15,h⟩:=C7 h;obtain⟨y8,e8,h⟩:=B1 h;refine B6 hS [] (And.intro c15 (by decide:(2:Nat)<=2)) (O4 hS hL e8) ?_;apply kI hS h<;>intro h
  .cases h;exact kR hS
  exact f _ [] _ (wrap .i64 (x2+1)) T3 h
 refine E2 hS T3 h (fun x3=>⟨[(4,pN x3),(1,.p (.ptr (B2 b)))],[]⟩) (ids:=[]) (fun _ _ _ _ _ g x3 i h=>?_);apply kI hS h<;>intro h
 .refine C5 hS T3 [1,3,4,6,8] ?_;obtain⟨c24,h⟩:=C7 h;obtain⟨j,e11,h⟩:=B1 h;refine F8 (And.intro c24 (by decide:(6:Nat)<=6)) (Aa0 hS hL e11) ?_;refine D9 T3 ?_;apply kI hS h<;>intro h
  .cases h;exact kR hS
  exact i _ [] _ (wrap .i64 (x3+1)) T3 h
 cases h;exact kR hS
theorem Xh {a:Sl Law}{y:Int}(h:Y0 N a=some y) :FunO S Lt [.p (vSl 18 B2 a)] [] (pN y) ([]) []:=by
 unfold Y0 at h;refine A1 hS WY ?_;apply kI hS h<;>intro h
 .cases h;exact kR hS
 refine E2 hS T3 h (fun x1=>⟨[(3,pN x1),(0,.p (vSl 18 B2 a))],[]⟩) (ids:=[]) (fun _ _ _ _ _ b x1 c h=>?_);apply kI hS h<;>intro h
 .obtain⟨c9,h⟩:=C7 h;obtain⟨y3,e3,h⟩:=B1 h;refine B6 hS [] (And.intro c9 (by decide:(18:Nat)<=18)) (Gt hS hL e3) ?_;apply kI hS h<;>intro h
  .cases h;exact kR hS
  exact c _ [] _ (wrap .i64 (x1+1)) T3 h
 cases h;exact kR hS
theorem Xi {a:Law}{b:Sl To}{y:Int}(h:Bn N a b=some y) :FunO S Lx [.p (.agg (B2 a)),.p (vSl 2 A0 b)] [] (pN y) ([]) []:=by
 unfold Bn at h;refine A1 hS Xb ?_;refine kC hS h (Gt hS hL) (fun y1 h=>?_);apply kI hS h<;>intro h
 .cases h;exact kR hS
 refine kC hS h (DH hS hL) (fun y2 h=>?_);cases h;exact kR hS
theorem NL {a:Pat}{b:Sl To}{y:Int}(h:AL N a b=some y) :FunO S NG [.p (.agg (C4 a)),.p (vSl 2 A0 b)] [] (pN y) ([]) []:=by
 unfold AL at h;refine A1 hS ZS ?_;refine kC hS h (Gs hS hL) (fun y1 h=>?_);apply kI hS h<;>intro h
 .refine kC hS h (DH hS hL) (fun y2 h=>?_);cases h;exact kR hS
 cases h;exact kR hS
theorem TJ {rec:Pat->(Sl To)->Option (Sl Int)}(j:∀{a:Pat}{d:Sl To}{y:Sl Int},rec a d=some y->FunO S DE [.p (.agg (C4 a)),.p (vSl 2 A0 d)] [] (.vec 0) ([.vec D4 1 y.n (fun i=>cI .u64 (y.g i)) true]) []){a:Pat}{d:Sl To}{y:Sl Int}(h:U0 rec N a d=some y) :FunO S DE [.p (.agg (C4 a)),.p (vSl 2 A0 d)] [] (.vec 0) ([.vec D4 1 y.n (fun i=>cI .u64 (y.g i)) true]) []:=by
 unfold U0 at h;refine A1 hS Xd ?_;refine D8 hS T3 4 3000 (C4 a) ?_;obtain⟨c1,h⟩:=C7 h;refine D7 hS c1 h (fun x1 x2=>⟨[(7,pN x2),(6,.vec 19000),(5,pN (d.n:Int)),(2,.p (.ptr (C4 a))),(1,.p (vSl 2 A0 d))],[(19000,.vec D4 1 x1.n (fun i=>cI .u64 (x1.g i)) false)]⟩) (ids:=[(19000,19000)]) (fun _ _ _ _ _ t x1 x2 f h=>?_);apply kI hS h<;>intro h
 .apply kI hS h<;>intro h
  .obtain⟨c24,h⟩:=C7 h;exact f _ [(19000,19000)] _ (x1.upd x2.toNat (shI .shl .u64 1 x2)) (wrap .i64 (x2+1)) (And.intro (And.intro c24.1.1 c24.1.2) (And.intro (rfl:(1:Nat)=1) (And.intro c24.2 (by decide:(1:Nat)<=1)))) h (hle:=klR [(4,.fn x1.n (x1.upd x2.toNat (shI .shl .u64 1 x2)).n (fun l=>if l=x2.toNat then splice ((fun i=>cI .u64 (x1.g i)) l) 0 [pI .u64 (shI .shl .u64 1 x2)]else (fun i=>cI .u64 (x1.g i)) l) (fun i=>cI .u64 ((x1.upd x2.toNat (shI .shl .u64 1 x2)).g i)))] (al1 ⟨rfl,QW (c:=cI .u64) (v:=x1) (x:=shI .shl .u64 1 x2) same (fun _=>by first|rfl|(dsimp only;split<;>rfl))⟩ al0))
  apply kI hS h<;>intro h
  .refine C5 hS T3 [6,7,9,10,12] ?_;refine AY T3 (b:=decide (x2<(d.n:Int))) (fun c26=>?_) (fun c26=>?_)
   .replace h:=itT c26 h;obtain⟨c27,h⟩:=C7 h;obtain⟨y3,e3,h⟩:=B1 h;refine F8 (And.intro (And.intro c27 (by decide:(2:Nat)<=2)) (by decide:(2:Nat)<=6)) (OQ hS hL e3) ?_;refine D9 T3 ?_;apply kI hS h<;>intro h
    .obtain⟨c29,h⟩:=C7 h;exact f _ [(19000,19000)] _ (x1.upd x2.toNat (shI .shl .u64 1 (wrap .i64 (x2+1)))) (wrap .i64 (x2+1)) (And.intro (And.intro c29.1.1 c29.1.2) (And.intro (rfl:(1:Nat)=1) (And.intro c29.2 (by decide:(1:Nat)<=1)))) h (hle:=klR [(4,.fn x1.n (x1.upd x2.toNat (shI .shl .u64 1 (wrap .i64 (x2+1)))).n (fun l=>if l=x2.toNat then splice ((fun i=>cI .u64 (x1.g i)) l) 0 [pI .u64 (shI .shl .u64 1 (wrap .i64 (x2+1)))]else (fun i=>cI .u64 (x1.g i)) l) (fun i=>cI .u64 ((x1.upd x2.toNat (shI .shl .u64 1 (wrap .i64 (x2+1)))).g i)))] (al1 ⟨rfl,QW (c:=cI .u64) (v:=x1) (x:=shI .shl .u64 1 (wrap .i64 (x2+1))) same (fun _=>by first|rfl|(dsimp only;split<;>rfl))⟩ al0))
    exact f _ [(19000,19000)] _ x1 (wrap .i64 (x2+1)) T3 h
   replace h:=itF c26 h;refine D9 T3 ?_;exact f _ [(19000,19000)] _ x1 (wrap .i64 (x2+1)) T3 h
  apply kI hS h<;>intro h
  .apply kI hS h<;>intro h
   .obtain⟨c32,h⟩:=C7 h;exact f _ [(19000,19000)] _ (x1.upd x2.toNat 1) (wrap .i64 (x2+1)) (And.intro c32.1 (And.intro (rfl:(1:Nat)=1) (And.intro c32.2 (by decide:(1:Nat)<=1)))) h (hle:=klR [(4,.fn x1.n (x1.upd x2.toNat 1).n (fun l=>if l=x2.toNat then splice ((fun i=>cI .u64 (x1.g i)) l) 0 [pI .u64 1]else (fun i=>cI .u64 (x1.g i)) l) (fun i=>cI .u64 ((x1.upd x2.toNat 1).g i)))] (al1 ⟨rfl,QW (c:=cI .u64) (v:=x1) (x:=1) same (fun _=>by first|rfl|(dsimp only;split<;>rfl))⟩ al0))
   exact f _ [(19000,19000)] _ x1 (wrap .i64 (x2+1)) T3 h
  apply kI hS h<;>intro h
  .apply kI hS h<;>intro h
   .obtain⟨c35,h⟩:=C7 h;exact f _ [(19000,19000)] _ (x1.upd x2.toNat (shI .shl .u64 1 x2)) (wrap .i64 (x2+1)) (And.intro (And.intro c35.1.1 c35.1.2) (And.intro (rfl:(1:Nat)=1) (And.intro c35.2 (by decide:(1:Nat)<=1)))) h (hle:=klR [(4,.fn x1.n (x1.upd x2.toNat (shI .shl .u64 1 x2)).n (fun l=>if l=x2.toNat then splice ((fun i=>cI .u64 (x1.g i)) l) 0 [pI .u64 (shI .shl .u64 1 x2)]else (fun i=>cI .u64 (x1.g i)) l) (fun i=>cI .u64 ((x1.upd x2.toNat (shI .shl .u64 1 x2)).g i)))] (al1 ⟨rfl,QW (c:=cI .u64) (v:=x1) (x:=shI .shl .u64 1 x2) same (fun _=>by first|rfl|(dsimp only;split<;>rfl))⟩ al0))
   exact f _ [(19000,19000)] _ x1 (wrap .i64 (x2+1)) T3 h
  exact f _ [(19000,19000)] _ x1 (wrap .i64 (x2+1)) T3 h
 apply kI hS h<;>intro h
 .refine kC hS h (NJ hS hL) (fun y4 h=>?_);refine D7 hS T3 h (fun x3 x4=>⟨[(8,pN x4),(6,.vec 7500),(2,.p (.ptr (C4 a))),(1,.p (vSl 2 A0 d))],[(7500,.vec D4 1 x3.n (fun i=>cI .u64 (x3.g i)) true)]⟩) (ids:=[(7500,79000)]) (fun _ _ _ _ _ u x3 x4 w h=>?_);refine G9 hS T3 82 ⟨[(81,.p (vSl 7 C4 a.L)),(79,pN x4),(8,pN x4),(6,.vec 7500),(2,.p (.ptr (C4 a))),(1,.p (vSl 2 A0 d))],[(7500,.vec D4 1 x3.n (fun i=>cI .u64 (x3.g i)) true)]⟩ (ids:=[(7500,7500)]) ?_ (hle:=klR [(0,.fn a.L.n a.L.n (T1 a) (fun i=>C4 (a.L.g i)))] (al1 ⟨rfl,G8 a⟩ al0));apply kI hS h<;>intro h
  .refine G9 hS T3 90 ⟨[(89,pN x4),(88,.p (vSl 7 C4 a.L)),(86,.vec 7500),(8,pN x4),(2,.p (.ptr (C4 a))),(1,.p (vSl 2 A0 d))],[(7500,.vec D4 1 x3.n (fun i=>cI .u64 (x3.g i)) true)]⟩ (ids:=[(7500,7500)]) ?_ (hle:=klR [(1,.fn a.L.n a.L.n (T1 a) (fun i=>C4 (a.L.g i)))] (al1 ⟨rfl,G8 a⟩ al0));obtain⟨c42,h⟩:=C7 h;obtain⟨y9,e9,h⟩:=B1 h;refine B6 hS [] (And.intro c42 (by decide:(7:Nat)<=7)) (j e9) ?_;refine kC hS h (Fh hS hL) (fun z h=>?_);exact w _ [(7500,95000)] _ z (wrap .i64 (x4+1)) T3 h
  obtain rfl:=C0 h;exact A8 hS T3 ⟨[(4,.vec 7500)],[(7500,.vec D4 1 x3.n (fun i=>cI .u64 (x3.g i)) true)]⟩ [7500] (ids:=[(7500,7500)]) ⟨rfl,rfl,rfl⟩
 apply kI hS h<;>intro h
 .refine D7 hS T3 h (fun x5 x6=>⟨[(9,pN x6),(6,.vec 7500),(2,.p (.ptr (C4 a))),(1,.p (vSl 2 A0 d))],[(7500,.vec D4 1 x5.n (fun i=>cI .u64 (x5.g i)) true)]⟩) (ids:=[(7500,19000)]) (fun _ _ _ _ _ a0 x5 x6 a1 h=>?_);refine G9 hS T3 100 ⟨[(99,.p (vSl 7 C4 a.L)),(97,pN x6),(9,pN x6),(6,.vec 7500),(2,.p (.ptr (C4 a))),(1,.p (vSl 2 A0 d))],[(7500,.vec D4 1 x5.n (fun i=>cI .u64 (x5.g i)) true)]⟩ (ids:=[(7500,7500)]) ?_ (hle:=klR [(0,.fn a.L.n a.L.n (T1 a) (fun i=>C4 (a.L.g i)))] (al1 ⟨rfl,G8 a⟩ al0));apply kI hS h<;>intro h
  .refine G9 hS T3 108 ⟨[(107,pN x6),(106,.p (vSl 7 C4 a.L)),(104,.vec 7500),(9,pN x6),(2,.p (.ptr (C4 a))),(1,.p (vSl 2 A0 d))],[(7500,.vec D4 1 x5.n (fun i=>cI .u64 (x5.g i)) true)]⟩ (ids:=[(7500,7500)]) ?_ (hle:=klR [(1,.fn a.L.n a.L.n (T1 a) (fun i=>C4 (a.L.g i)))] (al1 ⟨rfl,G8 a⟩ al0));obtain⟨c49,h⟩:=C7 h;obtain⟨a7,e15,h⟩:=B1 h;refine B6 hS [] (And.intro c49 (by decide:(7:Nat)<=7)) (j e15) ?_;refine kC hS h (NK hS hL) (fun a2 h=>?_);exact a1 _ [(7500,113000)] _ a2 (wrap .i64 (x6+1)) T3 h
  obtain rfl:=C0 h;exact A8 hS T3 ⟨[(4,.vec 7500)],[(7500,.vec D4 1 x5.n (fun i=>cI .u64 (x5.g i)) true)]⟩ [7500] (ids:=[(7500,7500)]) ⟨rfl,rfl,rfl⟩
 apply kI hS h<;>intro h
 .refine G9 hS T3 117 ⟨[(116,.p (vSl 7 C4 a.L)),(6,.vec 19000),(5,pN (d.n:Int)),(2,.p (.ptr (C4 a))),(1,.p (vSl 2 A0 d))],[(19000,.vec D4 1 x1.n (fun i=>cI .u64 (x1.g i)) false)]⟩ (ids:=[(19000,19000)]) ?_ (hle:=klR [(0,.fn a.L.n a.L.n (T1 a) (fun i=>C4 (a.L.g i)))] (al1 ⟨rfl,G8 a⟩ al0));obtain⟨c51,h⟩:=C7 h;obtain⟨q,e17,h⟩:=B1 h;refine B6 hS [] (And.intro c51 (by decide:(7:Nat)<=7)) (j e17) ?_;refine kC hS h (NJ hS hL) (fun a8 h=>?_);refine Cv hS T3 h (fun x8 x9 m=>⟨[(12,pN m),(11,.vec 12500),(10,.vec 121000),(6,.vec 7500),(2,.p (.ptr (C4 a)))],[(121000,.vec D4 1 q.n (fun i=>cI .u64 (q.g i)) true),(12500,.vec D4 1 x9.n (fun i=>cI .u64 (x9.g i)) true),(7500,.vec D4 1 x8.n (fun i=>cI .u64 (x8.g i)) true)]⟩) (ids:=[(7500,19000),(12500,123000),(121000,121000)]) (fun _ _ _ _ _ a3 x8 x9 m s h=>?_);apply kI hS h<;>intro h
  .refine kC hS h (NK hS hL) (fun o h=>?_);refine Ai hS T3 (A2 hS) h 0 (fun z3=>⟨[(147,pB z3),(12,pN m),(11,.vec 12500),(10,.vec 121000),(6,.vec 133000),(2,.p (.ptr (C4 a)))],[(133000,.vec D4 1 o.n (fun i=>cI .u64 (o.g i)) true),(121000,.vec D4 1 q.n (fun i=>cI .u64 (q.g i)) true),(12500,.vec D4 1 x9.n (fun i=>cI .u64 (x9.g i)) true)]⟩) (fun M3 k3 r h=>?_) (fun z3 h=>?_)
   .refine kG hS h (fun h=>?_) (fun h=>?_)
    .exact r _ [(12500,12500),(121000,121000),(133000,133000)] _ true T3 h
    refine kG hS h (fun h=>?_) (fun h=>?_)
    .refine kC hS h (Xf hS hL) (fun a4 h=>?_);exact r _ [(12500,12500),(121000,121000),(133000,133000)] _ a4 T3 h
    exact r _ [(12500,12500),(121000,121000),(133000,133000)] _ false T3 h
   apply kI hS h<;>intro h
   .obtain rfl:=C0 h;exact A8 hS T3 ⟨[(4,.vec 133000)],[(133000,.vec D4 1 o.n (fun i=>cI .u64 (o.g i)) true)]⟩ [133000] (ids:=[(133000,133000)]) ⟨rfl,rfl,rfl⟩
   refine kC hS h (Fh hS hL) (fun a5 h=>?_);exact s _ [(7500,133000),(12500,152000),(121000,121000)] _ o a5 (wrap .i64 (m+1)) T3 h
  refine kC hS h (Fh hS hL) (fun a6 h=>?_);exact s _ [(7500,7500),(12500,152000),(121000,121000)] _ x8 a6 (wrap .i64 (m+1)) T3 h
 obtain rfl:=C0 h;exact A8 hS T3 ⟨[(4,.vec 19000)],[(19000,.vec D4 1 x1.n (fun i=>cI .u64 (x1.g i)) true)]⟩ [19000] (ids:=[(19000,19000)]) ⟨rfl,rfl,rfl⟩
theorem LB {a:Pat}{b:Sl To}{y:Sl Int}(h:Bo N a b=some y) :FunO S DE [.p (.agg (C4 a)),.p (vSl 2 A0 b)] [] (.vec 0) ([.vec D4 1 y.n (fun i=>cI .u64 (y.g i)) true]) []:=by
 induction N generalizing a b y with
 |zero=>cases (show (none:Option (Sl Int))=some y from h)
 |succ N ih=>exact TJ hS hL (fun e=>ih e) h
theorem TL {j:Pat}{f:Sl To}{d:Int}{y:(Sl Int)×Int}(h:X1 N j f d=some y) :FunO S JL [.p (.agg (C4 j)),.p (vSl 2 A0 f),pN d] [] (.tup [.vec 0,pN y.2]) ([.vec B8 1 y.1.n (fun i=>cI .i64 (y.1.g i)) true]) []:=by
 unfold X1 at h;refine A1 hS TF ?_;refine kC hS h (NL hS hL) (fun y1 h=>?_);apply kI hS h<;>intro h
 .obtain rfl:=C0 h;exact A8 hS T3 ⟨[(7,pN y1),(6,.vec 7700)],[(7700,.vec B8 1 (Sl.nil:Sl Int).n (fun i=>cI .i64 ((Sl.nil:Sl Int).g i)) true)]⟩ [7700] (ids:=[]) ⟨rfl,rfl,rfl⟩
 refine kB hS (A2 hS) T3 T3 5 (.o (.a (decide (d<0))) (.a (decide ((f.n:Int)<d)))) ?_;apply kI hS h<;>intro h
 .obtain rfl:=C0 h;exact A8 hS T3 ⟨[(7,pN 3),(6,.vec 7700)],[(7700,.vec B8 1 (Sl.nil:Sl Int).n (fun i=>cI .i64 ((Sl.nil:Sl Int).g i)) true)]⟩ [7700] (ids:=[]) ⟨rfl,rfl,rfl⟩
 refine kC hS h (LB hS hL) (fun y2 h=>?_);refine D7 hS T3 h (fun x1 x2=>⟨[(11,pN x2),(10,.vec 11500),(9,.vec 29000),(2,pN d),(1,.p (vSl 2 A0 f))],[(29000,.vec D4 1 y2.n (fun i=>cI .u64 (y2.g i)) true),(11500,.vec B8 1 x1.n (fun i=>cI .i64 (x1.g i)) false)]⟩) (ids:=[(29000,29000)]) (fun _ _ _ _ _ m x1 x2 l h=>?_);apply kI hS h<;>intro h
 .obtain⟨c10,h⟩:=C7 h;refine D1 hS c10 (b:=(E9 .and .u64 (shI .shr .u64 (y2.g x2.toNat) d) 1)==1) (fun c11=>?_) (fun c11=>?_)
  .replace h:=itT c11 h;obtain⟨c12,h⟩:=C7 h;exact l _ [(11500,47000),(29000,29000)] _ (x1.push x2) (wrap .i64 (x2+1)) (And.intro (rfl:true=true) c12) h (hle:=klR [(4,.fn (x1.n+1) (x1.push x2).n (I4 x1.n (fun i=>cI .i64 (x1.g i)) (D0 [pI .i64 0] [(0,cI .i64 x2)])) (fun i=>cI .i64 ((x1.push x2).g i)))] (al1 ⟨rfl,W3 (c:=cI .i64) (v:=x1) (x:=x2) (z:=[(pI .i64 0)]) same rfl rfl⟩ al0))
  replace h:=itF c11 h;exact l _ [(11500,11500),(29000,29000)] _ x1 (wrap .i64 (x2+1)) T3 h
 obtain rfl:=C0 h;exact A8 hS T3 ⟨[(7,pN 0),(6,.vec 11500)],[(11500,.vec B8 1 x1.n (fun i=>cI .i64 (x1.g i)) true)]⟩ [11500] (ids:=[(11500,11500)]) ⟨rfl,rfl,rfl⟩
theorem Aa1 {j:Pat}{f:Sl To}{d:Int}{y:(Sl Int)×Int}(h:BO N j f d=some y) :FunO S NE [.p (.agg (C4 j)),.p (vSl 2 A0 f),pN d] [] (.tup [.vec 0,pN y.2]) ([.vec B8 1 y.1.n (fun i=>cI .i64 (y.1.g i)) true]) []:=by
 unfold BO at h;refine A1 hS ZQ ?_;refine kC hS h (NL hS hL) (fun y1 h=>?_);apply kI hS h<;>intro h
 .obtain rfl:=C0 h;exact A8 hS T3 ⟨[(7,pN y1),(6,.vec 7700)],[(7700,.vec B8 1 (Sl.nil:Sl Int).n (fun i=>cI .i64 ((Sl.nil:Sl Int).g i)) true)]⟩ [7700] (ids:=[]) ⟨rfl,rfl,rfl⟩
 refine kB hS (A2 hS) T3 T3 5 (.o (.a (decide (d<0))) (.a (decide ((f.n:Int)<d)))) ?_;apply kI hS h<;>intro h
 .obtain rfl:=C0 h;exact A8 hS T3 ⟨[(7,pN 3),(6,.vec 7700)],[(7700,.vec B8 1 (Sl.nil:Sl Int).n (fun i=>cI .i64 ((Sl.nil:Sl Int).g i)) true)]⟩ [7700] (ids:=[]) ⟨rfl,rfl,rfl⟩
 refine kC hS h (LB hS hL) (fun y2 h=>?_);refine D7 hS T3 h (fun x1 x2=>⟨[(11,pN x2),(10,.vec 11500),(9,.vec 29000),(2,pN d),(1,.p (vSl 2 A0 f))],[(29000,.vec D4 1 y2.n (fun i=>cI .u64 (y2.g i)) true),(11500,.vec B8 1 x1.n (fun i=>cI .i64 (x1.g i)) false)]⟩) (ids:=[(29000,29000)]) (fun _ _ _ _ _ m x1 x2 l h=>?_);apply kI hS h<;>intro h
 .obtain⟨c10,h⟩:=C7 h;refine D1 hS c10 (b:=(E9 .and .u64 (shI .shr .u64 (y2.g d.toNat) x2) 1)==1) (fun c11=>?_) (fun c11=>?_)
  .replace h:=itT c11 h;obtain⟨c12,h⟩:=C7 h;exact l _ [(11500,47000),(29000,29000)] _ (x1.push x2) (wrap .i64 (x2+1)) (And.intro (rfl:true=true) c12) h (hle:=klR [(4,.fn (x1.n+1) (x1.push x2).n (I4 x1.n (fun i=>cI .i64 (x1.g i)) (D0 [pI .i64 0] [(0,cI .i64 x2)])) (fun i=>cI .i64 ((x1.push x2).g i)))] (al1 ⟨rfl,W3 (c:=cI .i64) (v:=x1) (x:=x2) (z:=[(pI .i64 0)]) same rfl rfl⟩ al0))
  replace h:=itF c11 h;exact l _ [(11500,11500),(29000,29000)] _ x1 (wrap .i64 (x2+1)) T3 h
 obtain rfl:=C0 h;exact A8 hS T3 ⟨[(7,pN 0),(6,.vec 11500)],[(11500,.vec B8 1 x1.n (fun i=>cI .i64 (x1.g i)) true)]⟩ [11500] (ids:=[(11500,11500)]) ⟨rfl,rfl,rfl⟩
theorem Jq {b:Law}{d:Sl To}{c:Int}{y:Bool}(h:X2 N b d c=some y) :FunO S Qo [.p (.agg (B2 b)),.p (vSl 2 A0 d),pN c] [] (pB y) ([]) []:=by
 unfold X2 at h;refine A1 hS Au0 ?_;refine D8 hS T3 6 4000 (B2 b) ?_;refine kB hS (A2 hS) T3 T3 7 (.o (.a (decide (c<0))) (.a (decide ((d.n:Int)<(wrap .i64 (c+(b.If.n:Int))))))) ?_;apply kI hS h<;>intro h
 .cases h;exact kR hS
 refine E2 hS T3 h (fun x1=>⟨[(8,pN x1),(7,pN (b.If.n:Int)),(3,.p (.ptr (B2 b))),(2,pN c),(1,.p (vSl 2 A0 d))],[]⟩) (ids:=[]) (fun _ _ _ _ _ f x1 g h=>?_);apply kI hS h<;>intro h
 .refine C5 hS T3 [4,5,7,9,10,11] ?_;obtain⟨c9,h⟩:=C7 h;obtain⟨y3,e3,h⟩:=B1 h;refine F8 (And.intro (And.intro (And.intro c9.1 (by decide:(2:Nat)<=2)) c9.2) (by decide:(2:Nat)<=2)) (OP hS hL e3) ?_;refine D9 T3 ?_;apply kI hS h<;>intro h
  .cases h;exact kR hS
  exact g _ [] _ (wrap .i64 (x1+1)) T3 h
 obtain⟨y4,e4,h⟩:=B1 h;refine B6 hS [] (by decide:(7:Nat)<=17) (TL hS hL e4) ?_;obtain⟨y5,e5,h⟩:=B1 h;refine B6 hS [] (by decide:(7:Nat)<=10) (Aa1 hS hL e5) ?_;refine kB hS (A2 hS) T3 T3 4 (.n (.a (decide (0<(y4.1.n:Int)))) (.a (decide (0<(y5.1.n:Int))))) ?_;cases h;exact kR hS
theorem Qs {d:Law}{a:Sl To}{y:Sl To}(h:Z3 N d a=some y) :FunO S Qp [.p (.agg (B2 d)),.p (vSl 2 A0 a)] [] (.vec 0) ([.vec B0 2 y.n (fun i=>A0 (y.g i)) true]) []:=by
 unfold Z3 at h;refine A1 hS Au1 ?_;refine D8 hS T3 4 3000 (B2 d) ?_;refine D7 hS T3 h (fun x1 x2=>⟨[(6,pN x2),(5,.vec 6500),(2,.p (.ptr (B2 d))),(1,.p (vSl 2 A0 a))],[(6500,.vec B0 2 x1.n (fun i=>A0 (x1.g i)) false)]⟩) (ids:=[]) (fun _ _ _ _ _ o x1 x2 l h=>?_);apply kI hS h<;>intro h
 .obtain⟨c16,h⟩:=C7 h;refine D8 hS (And.intro c16 (by decide:(6:Nat)<=6)) 21 8000 (P1 (d.Out.g x2.toNat)) ?_;obtain⟨c18,h⟩:=C7 h;obtain⟨t5,f⟩:∃x:Int,x=(if (decide (0<=(d.Out.g x2.toNat).From)) then (a.g (d.Out.g x2.toNat).From.toNat).Plus else 0):=⟨_,rfl⟩;obtain⟨t6,j⟩:∃x:Int,x=(if (decide (0<=(d.Out.g x2.toNat).From)) then (a.g (d.Out.g x2.toNat).From.toNat).Minus else 0):=⟨_,rfl⟩;refine Tm hS T3 (A2 hS) 0 ⟨[(8,.reg 9000 0),(7,.p (.ptr (P1 (d.Out.g x2.toNat)))),(6,pN x2),(5,.vec 6500),(2,.p (.ptr (B2 d))),(1,.p (vSl 2 A0 a))],[(9000,.cells [pU t5,pU t6]),(6500,.vec B0 2 x1.n (fun i=>A0 (x1.g i)) false)]⟩ (fun M3 m=>?_) ?_
  .refine D1 hS T3 (b:=decide (0<=(d.Out.g x2.toNat).From)) (fun c19=>?_) (fun c19=>?_)
   .exact m _ [(6500,6500),(9000,9000)] _ (And.intro (c18 c19) (by decide:(2:Nat)<=2)) (hle:=klR [(4,.eq (pI .u32 (a.g (d.Out.g x2.toNat).From.toNat).Plus) (pI .u32 t5)),(5,.eq (pI .u32 (a.g (d.Out.g x2.toNat).From.toNat).Minus) (pI .u32 t6))] (al1 (by simp only[f,j,c19,Leaf.ok,pm,Rm,Rn]) (al1 (by simp only[f,j,c19,Leaf.ok,pm,Rm,Rn]) al0)))
   exact m _ [(6500,6500),(9000,9000)] _ T3 (hle:=klR [(4,.eq (pI .u32 0) (pI .u32 t5)),(5,.eq (pI .u32 0) (pI .u32 t6))] (al1 (by simp only[f,j,c19,Leaf.ok,pm,Rm,Rn]) (al1 (by simp only[f,j,c19,Leaf.ok,pm,Rm,Rn]) al0)))
  subst j;subst f;obtain⟨y5,e5,h⟩:=B1 h;refine B6 hS [] (by decide:(2:Nat)<=4) (TI hS hL e5) ?_;apply kI hS h<;>intro h
  .refine C5 hS T3 [3,4,5,7,8] ?_;obtain⟨c21,h⟩:=C7 h;obtain⟨y6,e6,h⟩:=B1 h;refine F8 (And.intro c21 (by decide:(2:Nat)<=2)) (ZV hS hL e6) ?_;refine D9 T3 ?_;obtain⟨c22,h⟩:=C7 h;exact l _ [(6500,58000)] _ (x1.push y6.1) (wrap .i64 (x2+1)) (And.intro (rfl:true=true) c22) h (hle:=klR [(3,.fn (x1.n+1) (x1.push y6.1).n (I4 x1.n (fun i=>A0 (x1.g i)) (D0 [pI .u32 0,pI .u32 0] [(0,A0 y6.1)])) (fun i=>A0 ((x1.push y6.1).g i)))] (al1 ⟨rfl,W3 (c:=A0) (v:=x1) (x:=y6.1) (z:=[(pI .u32 0),pI .u32 0]) same rfl rfl⟩ al0))
  obtain⟨c23,h⟩:=C7 h;exact l _ [(6500,58000)] _ (x1.push y5.1) (wrap .i64 (x2+1)) (And.intro (rfl:true=true) c23) h (hle:=klR [(3,.fn (x1.n+1) (x1.push y5.1).n (I4 x1.n (fun i=>A0 (x1.g i)) (D0 [pI .u32 0,pI .u32 0] [(0,A0 y5.1)])) (fun i=>A0 ((x1.push y5.1).g i)))] (al1 ⟨rfl,W3 (c:=A0) (v:=x1) (x:=y5.1) (z:=[(pI .u32 0),pI .u32 0]) same rfl rfl⟩ al0))
 obtain rfl:=C0 h;exact A8 hS T3 ⟨[(4,.vec 6500)],[(6500,.vec B0 2 x1.n (fun i=>A0 (x1.g i)) true)]⟩ [6500] (ids:=[(6500,6500)]) ⟨rfl,rfl,rfl⟩
theorem Ij {d:Law}{a:Sl To}{b:Int}{y:Sl To}(h:M0 N d a b=some y) :FunO S Ih [.p (.agg (B2 d)),.p (vSl 2 A0 a),pN b] [] (.vec 0) ([.vec B0 2 y.n (fun i=>A0 (y.g i)) true]) []:=by unfold M0 at h;refine A1 hS RM ?_;refine D8 hS T3 6 4000 (B2 d) ?_;obtain⟨c1,h⟩:=C7 h;refine C5 hS (And.intro (And.intro (rfl:true=true) c1.1) c1.2) [1] ?_;obtain⟨c2,h⟩:=C7 h;obtain⟨y1,e1,h⟩:=B1 h;refine Ac [] (And.intro (by decide:(18:Nat)<=18) c2) (Qs hS hL e1) ?_;obtain⟨c3,h⟩:=C7 h;refine D9 c3 ?_;obtain⟨c4,h⟩:=C7 h;obtain rfl:=C0 h;exact A8 hS c4 ⟨[(6,.vec 34000)],[(34000,.vec B0 2 ((((Sl.of []:Sl To).app (a.take b.toNat)).app y1).app (a.drop (wrap .i64 (b+(d.If.n:Int))).toNat)).n (fun i=>A0 (((((Sl.of []:Sl To).app (a.take b.toNat)).app y1).app (a.drop (wrap .i64 (b+(d.If.n:Int))).toNat)).g i)) true)]⟩ [34000] (ids:=[(34000,34000)]) ⟨rfl,rfl,rfl⟩ (hle:=klR [(0,.fn (((0+(a.take b.toNat).n)+y1.n)+(a.drop (wrap .i64 (b+(d.If.n:Int))).toNat).n) ((((Sl.of []:Sl To).app (a.take b.toNat)).app y1).app (a.drop (wrap .i64 (b+(d.If.n:Int))).toNat)).n (I4 ((0+(a.take b.toNat).n)+y1.n) (I4 (0+(a.take b.toNat).n) (I4 0 (D0 [pI .u32 0,pI .u32 0] []) (fun i=>A0 ((a.take b.toNat).g i))) (fun i=>A0 (y1.g i))) (fun i=>A0 ((a.drop (wrap .i64 (b+(d.If.n:Int))).toNat).g i))) (fun i=>A0 (((((Sl.of []:Sl To).app (a.take b.toNat)).app y1).app (a.drop (wrap .i64 (b+(d.If.n:Int))).toNat)).g i)))] (al1 ⟨rfl,KB (c:=A0) (v:=((Sl.of []:Sl To).app (a.take b.toNat)).app y1) (w:=a.drop (wrap .i64 (b+(d.If.n:Int))).toNat) (KB (c:=A0) (v:=(Sl.of []:Sl To).app (a.take b.toNat)) (w:=y1) (KB (c:=A0) (v:=(Sl.of []:Sl To)) (w:=a.take b.toNat) (fun i f=>Kh f (by omega)) rfl same rfl) rfl same rfl) rfl same rfl⟩ al0))
theorem Au4 {a:Law}{d:Sl To}{y:(Sl Int)×(Sl (Sl To))×Int}(h:Du N a d=some y) :FunO S Qn [.p (.agg (B2 a)),.p (vSl 2 A0 d)] [] (.tup [.vec 0,.vec 1,pN y.2.2]) ([.vec B8 1 y.1.n (fun i=>cI .i64 (y.1.g i)) true,.vec A6 1 y.2.1.n (fun i=>cL 2 A0 (y.2.1.g i)) true]) []:=by
 unfold Du at h;refine A1 hS At9 ?_;refine D8 hS T3 4 3000 (B2 a) ?_;refine Nb hS T3 h (fun x2 x3 x4 x5=>⟨[(10,pN x5),(9,.vec 10501),(8,.vec 9500),(7,.vec 8500),(2,.p (.ptr (B2 a))),(1,.p (vSl 2 A0 d))],[(10501,.vec B0 2 x4.n (fun i=>A0 (x4.g i)) false),(9500,.vec A6 1 x3.n (fun i=>cL 2 A0 (x3.g i)) false),(8500,.vec B8 1 x2.n (fun i=>cI .i64 (x2.g i)) false)]⟩) (ids:=[]) (fun _ _ _ _ _ l x2 x3 x4 x5 f h=>?_);apply kI hS h<;>intro h
 .obtain⟨y5,e5,h⟩:=B1 h;refine B6 hS [] (by decide:(18:Nat)<=18) (Jq hS hL e5) ?_;apply kI hS h<;>intro h
  .refine Ai hS T3 (A2 hS) h 0 (fun z3=>⟨[(10,pN x5),(9,.vec 10500),(8,.vec 9500),(7,.vec 8500),(2,.p (.ptr (B2 a))),(1,.p (vSl 2 A0 d))],[(10500,.vec B0 2 z3.n (fun i=>A0 (z3.g i)) false),(9500,.vec A6 1 x3.n (fun i=>cL 2 A0 (x3.g i)) false),(8500,.vec B8 1 x2.n (fun i=>cI .i64 (x2.g i)) false)]⟩) (fun M6 k3 j h=>?_) (fun z3 h=>?_)
   .apply kI hS h<;>intro h
    .obtain⟨c40,h⟩:=C7 h;exact j _ [(8500,8500),(9500,9500),(10500,33000)] _ (x4.push (d.g x5.toNat)) (And.intro (And.intro (And.intro c40.1 (by decide:(2:Nat)<=2)) (rfl:true=true)) c40.2) h (hle:=klR [(3,.fn (x4.n+1) (x4.push (d.g x5.toNat)).n (I4 x4.n (fun i=>A0 (x4.g i)) (D0 [pI .u32 0,pI .u32 0] [(0,A0 (d.g x5.toNat))])) (fun i=>A0 ((x4.push (d.g x5.toNat)).g i)))] (al1 ⟨rfl,W3 (c:=A0) (v:=x4) (x:=d.g x5.toNat) (z:=[(pI .u32 0),pI .u32 0]) same rfl rfl⟩ al0))
    exact j _ [(8500,8500),(9500,9500),(10500,10501)] _ x4 T3 h
   exact f _ [(8500,8500),(9500,9500),(10501,10500)] _ x2 x3 z3 (wrap .i64 (x5+1)) T3 h
  refine C5 hS T3 [1] ?_;obtain⟨c41,h⟩:=C7 h;obtain⟨y6,e6,h⟩:=B1 h;refine Ac [] (And.intro (by decide:(18:Nat)<=18) c41) (Qs hS hL e6) ?_;obtain⟨c42,h⟩:=C7 h;refine D9 c42 ?_;obtain⟨c43,h⟩:=C7 h;refine C5 hS (And.intro (rfl:true=true) c43) [1000] ?_;obtain⟨c44,h⟩:=C7 h;refine D9 (And.intro (And.intro (And.intro (rfl:true=true) c44.1.1) c44.1.2) c44.2) ?_;apply kI hS h<;>intro h
  .obtain rfl:=C0 h;exact A8 hS T3 ⟨[(6,pN 11),(5,.vec 6701),(4,.vec 5700)],[(6701,.vec A6 1 (Sl.nil:Sl (Sl To)).n (fun i=>cL 2 A0 ((Sl.nil:Sl (Sl To)).g i)) true),(5700,.vec B8 1 (Sl.nil:Sl Int).n (fun i=>cI .i64 ((Sl.nil:Sl Int).g i)) true)]⟩ [5700,6701] (ids:=[]) ⟨rfl,rfl,rfl⟩
  refine G9 hS T3 66 ⟨[(65,.vec 61000),(64,.vec 9500),(11,pN (a.If.n:Int)),(10,pN x5),(9,.vec 48000),(7,.vec 52000),(2,.p (.ptr (B2 a))),(1,.p (vSl 2 A0 d))],[(61000,.vec B0 2 (((Sl.of []:Sl To).app (x4.app y6)).app (d.drop (wrap .i64 (x5+(a.If.n:Int))).toNat)).n (fun i=>A0 ((((Sl.of []:Sl To).app (x4.app y6)).app (d.drop (wrap .i64 (x5+(a.If.n:Int))).toNat)).g i)) true),(52000,.vec B8 1 (x2.push x5).n (fun i=>cI .i64 ((x2.push x5).g i)) false),(48000,.vec B0 2 (x4.app y6).n (fun i=>A0 ((x4.app y6).g i)) false),(9500,.vec A6 1 x3.n (fun i=>cL 2 A0 (x3.g i)) false)]⟩ (ids:=[(9500,9500),(48000,48000),(52000,52000),(61000,61000)]) ?_ (hle:=klR [(4,.fn ((0+(x4.n+y6.n))+(d.drop (wrap .i64 (x5+(a.If.n:Int))).toNat).n) (((Sl.of []:Sl To).app (x4.app y6)).app (d.drop (wrap .i64 (x5+(a.If.n:Int))).toNat)).n (I4 (0+(x4.n+y6.n)) (I4 0 (D0 [pI .u32 0,pI .u32 0] []) (I4 x4.n (fun i=>A0 (x4.g i)) (fun i=>A0 (y6.g i)))) (fun i=>A0 ((d.drop (wrap .i64 (x5+(a.If.n:Int))).toNat).g i))) (fun i=>A0 ((((Sl.of []:Sl To).app (x4.app y6)).app (d.drop (wrap .i64 (x5+(a.If.n:Int))).toNat)).g i))),(5,.fn (x2.n+1) (x2.push x5).n (I4 x2.n (fun i=>cI .i64 (x2.g i)) (D0 [pI .i64 0] [(0,cI .i64 x5)])) (fun i=>cI .i64 ((x2.push x5).g i))),(6,.fn (x4.n+y6.n) (x4.app y6).n (I4 x4.n (fun i=>A0 (x4.g i)) (fun i=>A0 (y6.g i))) (fun i=>A0 ((x4.app y6).g i)))] (al1 ⟨rfl,KB (c:=A0) (v:=(Sl.of []:Sl To).app (x4.app y6)) (w:=d.drop (wrap .i64 (x5+(a.If.n:Int))).toNat) (KB (c:=A0) (v:=(Sl.of []:Sl To)) (w:=x4.app y6) (fun i m=>Kh m (by omega)) rfl (KB (c:=A0) (v:=x4) (w:=y6) same rfl same rfl) rfl) rfl same rfl⟩ (al1 ⟨rfl,W3 (c:=cI .i64) (v:=x2) (x:=x5) (z:=[(pI .i64 0)]) same rfl rfl⟩ (al1 ⟨rfl,KB (c:=A0) (v:=x4) (w:=y6) same rfl same rfl⟩ al0))));obtain⟨c46,h⟩:=C7 h;refine D1 hS (And.intro (rfl:true=true) c46) (b:=(a.If.n:Int)==0) (fun c47=>?_) (fun c47=>?_)
  .replace h:=itT c47 h;apply kI hS h<;>intro h
   .obtain⟨c49,h⟩:=C7 h;exact f _ [(8500,52000),(9500,68000),(10501,84000)] _ (x2.push x5) (x3.push (((Sl.of []:Sl To).app (x4.app y6)).app (d.drop (wrap .i64 (x5+(a.If.n:Int))).toNat))) ((x4.app y6).push (d.g (wrap .i64 (x5+(a.If.n:Int))).toNat)) (wrap .i64 ((wrap .i64 (x5+(a.If.n:Int)))+1)) (And.intro (And.intro (And.intro c49.1 (by decide:(2:Nat)<=2)) (rfl:true=true)) c49.2) h (hle:=klR [(3,.fn ((x4.app y6).n+1) ((x4.app y6).push (d.g (wrap .i64 (x5+(a.If.n:Int))).toNat)).n (I4 (x4.app y6).n (fun i=>A0 ((x4.app y6).g i)) (D0 [pI .u32 0,pI .u32 0] [(0,A0 (d.g (wrap .i64 (x5+(a.If.n:Int))).toNat))])) (fun i=>A0 (((x4.app y6).push (d.g (wrap .i64 (x5+(a.If.n:Int))).toNat)).g i))),(4,.fn (x3.n+1) (x3.push (((Sl.of []:Sl To).app (x4.app y6)).app (d.drop (wrap .i64 (x5+(a.If.n:Int))).toNat))).n (I4 x3.n (fun i=>cL 2 A0 (x3.g i)) (D0 [G6] [(0,cL 2 A0 (((Sl.of []:Sl To).app (x4.app y6)).app (d.drop (wrap .i64 (x5+(a.If.n:Int))).toNat)))])) (fun i=>cL 2 A0 ((x3.push (((Sl.of []:Sl To).app (x4.app y6)).app (d.drop (wrap .i64 (x5+(a.If.n:Int))).toNat))).g i)))] (al1 ⟨rfl,W3 (c:=A0) (v:=x4.app y6) (x:=d.g (wrap .i64 (x5+(a.If.n:Int))).toNat) (z:=[(pI .u32 0),pI .u32 0]) same rfl rfl⟩ (al1 ⟨rfl,W3 (c:=cL 2 A0) (v:=x3) (x:=((Sl.of []:Sl To).app (x4.app y6)).app (d.drop (wrap .i64 (x5+(a.If.n:Int))).toNat)) (z:=[G6]) same rfl rfl⟩ al0)))
   exact f _ [(8500,52000),(9500,68000),(10501,48000)] _ (x2.push x5) (x3.push (((Sl.of []:Sl To).app (x4.app y6)).app (d.drop (wrap .i64 (x5+(a.If.n:Int))).toNat))) (x4.app y6) (wrap .i64 ((wrap .i64 (x5+(a.If.n:Int)))+1)) T3 h (hle:=klR [(4,.fn (x3.n+1) (x3.push (((Sl.of []:Sl To).app (x4.app y6)).app (d.drop (wrap .i64 (x5+(a.If.n:Int))).toNat))).n (I4 x3.n (fun i=>cL 2 A0 (x3.g i)) (D0 [G6] [(0,cL 2 A0 (((Sl.of []:Sl To).app (x4.app y6)).app (d.drop (wrap .i64 (x5+(a.If.n:Int))).toNat)))])) (fun i=>cL 2 A0 ((x3.push (((Sl.of []:Sl To).app (x4.app y6)).app (d.drop (wrap .i64 (x5+(a.If.n:Int))).toNat))).g i)))] (al1 ⟨rfl,W3 (c:=cL 2 A0) (v:=x3) (x:=((Sl.of []:Sl To).app (x4.app y6)).app (d.drop (wrap .i64 (x5+(a.If.n:Int))).toNat)) (z:=[G6]) same rfl rfl⟩ al0))
  replace h:=itF c47 h;exact f _ [(8500,52000),(9500,68000),(10501,48000)] _ (x2.push x5) (x3.push (((Sl.of []:Sl To).app (x4.app y6)).app (d.drop (wrap .i64 (x5+(a.If.n:Int))).toNat))) (x4.app y6) (wrap .i64 (x5+(a.If.n:Int))) T3 h (hle:=klR [(4,.fn (x3.n+1) (x3.push (((Sl.of []:Sl To).app (x4.app y6)).app (d.drop (wrap .i64 (x5+(a.If.n:Int))).toNat))).n (I4 x3.n (fun i=>cL 2 A0 (x3.g i)) (D0 [G6] [(0,cL 2 A0 (((Sl.of []:Sl To).app (x4.app y6)).app (d.drop (wrap .i64 (x5+(a.If.n:Int))).toNat)))])) (fun i=>cL 2 A0 ((x3.push (((Sl.of []:Sl To).app (x4.app y6)).app (d.drop (wrap .i64 (x5+(a.If.n:Int))).toNat))).g i)))] (al1 ⟨rfl,W3 (c:=cL 2 A0) (v:=x3) (x:=((Sl.of []:Sl To).app (x4.app y6)).app (d.drop (wrap .i64 (x5+(a.If.n:Int))).toNat)) (z:=[G6]) same rfl rfl⟩ al0))
 obtain rfl:=C0 h;exact A8 hS T3 ⟨[(6,pN 0),(5,.vec 9500),(4,.vec 8500)],[(9500,.vec A6 1 x3.n (fun i=>cL 2 A0 (x3.g i)) true),(8500,.vec B8 1 x2.n (fun i=>cI .i64 (x2.g i)) true)]⟩ [8500,9500] (ids:=[(8500,8500),(9500,9500)]) ⟨rfl,rfl,rfl⟩
theorem Xj {a:Law}{f:Sl To}{y:(Sl Int)×(Sl (Sl To))×Int}(h:Am N a f=some y) :FunO S Ly [.p (.agg (B2 a)),.p (vSl 2 A0 f)] [] (.tup [.vec 0,.vec 1,pN y.2.2]) ([.vec B8 1 y.1.n (fun i=>cI .i64 (y.1.g i)) true,.vec A6 1 y.2.1.n (fun i=>cL 2 A0 (y.2.1.g i)) true]) []:=by
 unfold Am at h;refine A1 hS Xc ?_;refine Nb hS T3 h (fun x1 x2 x3 x4=>⟨[(10,pN x4),(9,pN (a.If.n:Int)),(8,.vec 9500),(7,.vec 8500),(2,.reg 3000 0),(1,.p (vSl 2 A0 x1))],[(9500,.vec A6 1 x3.n (fun i=>cL 2 A0 (x3.g i)) false),(8500,.vec B8 1 x2.n (fun i=>cI .i64 (x2.g i)) false),(3000,.cells ((B2 a).map .p))]⟩) (ids:=[(3000,3000)]) (fun _ _ _ _ _ j x1 x2 x3 x4 d h=>?_);apply kI hS h<;>intro h
 .refine kC hS h (Jq hS hL) (fun y5 h=>?_);apply kI hS h<;>intro h
  .exact d _ [(3000,3000),(8500,8500),(9500,9500)] _ x1 x2 x3 (wrap .i64 (x4+1)) T3 h
  refine kC hS h (Ij hS hL) (fun y6 h=>?_);apply kI hS h<;>intro h
  .obtain rfl:=C0 h;exact A8 hS T3 ⟨[(6,pN 11),(5,.vec 6701),(4,.vec 5700)],[(6701,.vec A6 1 (Sl.nil:Sl (Sl To)).n (fun i=>cL 2 A0 ((Sl.nil:Sl (Sl To)).g i)) true),(5700,.vec B8 1 (Sl.nil:Sl Int).n (fun i=>cI .i64 ((Sl.nil:Sl Int).g i)) true)]⟩ [5700,6701] (ids:=[]) ⟨rfl,rfl,rfl⟩
  obtain⟨c14,h⟩:=C7 h;refine D1 hS (And.intro (And.intro (And.intro (rfl:true=true) c14.1) (rfl:true=true)) c14.2) (b:=(a.If.n:Int)==0) (fun c15=>?_) (fun c15=>?_)
  .replace h:=itT c15 h;exact d _ [(3000,3000),(8500,38000),(9500,42000)] _ y6 (x2.push x4) (x3.push y6) (wrap .i64 ((wrap .i64 (x4+(a.Out.n:Int)))+1)) T3 h (hle:=klR [(3,.fn (x3.n+1) (x3.push y6).n (I4 x3.n (fun i=>cL 2 A0 (x3.g i)) (D0 [G6] [(0,cL 2 A0 y6)])) (fun i=>cL 2 A0 ((x3.push y6).g i))),(4,.fn (x2.n+1) (x2.push x4).n (I4 x2.n (fun i=>cI .i64 (x2.g i)) (D0 [pI .i64 0] [(0,cI .i64 x4)])) (fun i=>cI .i64 ((x2.push x4).g i)))] (al1 ⟨rfl,W3 (c:=cL 2 A0) (v:=x3) (x:=y6) (z:=[G6]) same rfl rfl⟩ (al1 ⟨rfl,W3 (c:=cI .i64) (v:=x2) (x:=x4) (z:=[(pI .i64 0)]) same rfl rfl⟩ al0)))
  replace h:=itF c15 h;exact d _ [(3000,3000),(8500,38000),(9500,42000)] _ y6 (x2.push x4) (x3.push y6) (wrap .i64 (x4+(a.Out.n:Int))) T3 h (hle:=klR [(3,.fn (x3.n+1) (x3.push y6).n (I4 x3.n (fun i=>cL 2 A0 (x3.g i)) (D0 [G6] [(0,cL 2 A0 y6)])) (fun i=>cL 2 A0 ((x3.push y6).g i))),(4,.fn (x2.n+1) (x2.push x4).n (I4 x2.n (fun i=>cI .i64 (x2.g i)) (D0 [pI .i64 0] [(0,cI .i64 x4)])) (fun i=>cI .i64 ((x2.push x4).g i)))] (al1 ⟨rfl,W3 (c:=cL 2 A0) (v:=x3) (x:=y6) (z:=[G6]) same rfl rfl⟩ (al1 ⟨rfl,W3 (c:=cI .i64) (v:=x2) (x:=x4) (z:=[(pI .i64 0)]) same rfl rfl⟩ al0)))
 obtain rfl:=C0 h;exact A8 hS T3 ⟨[(6,pN 0),(5,.vec 9500),(4,.vec 8500)],[(9500,.vec A6 1 x3.n (fun i=>cL 2 A0 (x3.g i)) true),(8500,.vec B8 1 x2.n (fun i=>cI .i64 (x2.g i)) true)]⟩ [8500,9500] (ids:=[(8500,8500),(9500,9500)]) ⟨rfl,rfl,rfl⟩
theorem Aa2 {a:Law}{f:Sl To}{y:(Sl Int)×(Sl (Sl To))×Int}(h:AN N a f=some y) :FunO S ND [.p (.agg (B2 a)),.p (vSl 2 A0 f)] [] (.tup [.vec 0,.vec 1,pN y.2.2]) ([.vec B8 1 y.1.n (fun i=>cI .i64 (y.1.g i)) true,.vec A6 1 y.2.1.n (fun i=>cL 2 A0 (y.2.1.g i)) true]) []:=by
 unfold AN at h;refine A1 hS ZP ?_;refine Nb hS T3 h (fun x1 x2 x3 x4=>⟨[(10,pN x4),(9,pN (a.If.n:Int)),(8,.vec 9500),(7,.vec 8500),(2,.reg 3000 0),(1,.p (vSl 2 A0 x1))],[(9500,.vec A6 1 x3.n (fun i=>cL 2 A0 (x3.g i)) false),(8500,.vec B8 1 x2.n (fun i=>cI .i64 (x2.g i)) false),(3000,.cells ((B2 a).map .p))]⟩) (ids:=[(3000,3000)]) (fun _ _ _ _ _ j x1 x2 x3 x4 d h=>?_);apply kI hS h<;>intro h
 .refine kC hS h (Jq hS hL) (fun y5 h=>?_);apply kI hS h<;>intro h
  .exact d _ [(3000,3000),(8500,8500),(9500,9500)] _ x1 x2 x3 (wrap .i64 (x4-1)) T3 h
  refine kC hS h (Ij hS hL) (fun y6 h=>?_);apply kI hS h<;>intro h
  .obtain rfl:=C0 h;exact A8 hS T3 ⟨[(6,pN 11),(5,.vec 6701),(4,.vec 5700)],[(6701,.vec A6 1 (Sl.nil:Sl (Sl To)).n (fun i=>cL 2 A0 ((Sl.nil:Sl (Sl To)).g i)) true),(5700,.vec B8 1 (Sl.nil:Sl Int).n (fun i=>cI .i64 ((Sl.nil:Sl Int).g i)) true)]⟩ [5700,6701] (ids:=[]) ⟨rfl,rfl,rfl⟩
  obtain⟨c14,h⟩:=C7 h;refine D1 hS (And.intro (And.intro (And.intro (rfl:true=true) c14.1) (rfl:true=true)) c14.2) (b:=(a.If.n:Int)==0) (fun c15=>?_) (fun c15=>?_)
  .replace h:=itT c15 h;exact d _ [(3000,3000),(8500,38000),(9500,42000)] _ y6 (x2.push x4) (x3.push y6) (wrap .i64 ((wrap .i64 (x4-(a.If.n:Int)))-1)) T3 h (hle:=klR [(3,.fn (x3.n+1) (x3.push y6).n (I4 x3.n (fun i=>cL 2 A0 (x3.g i)) (D0 [G6] [(0,cL 2 A0 y6)])) (fun i=>cL 2 A0 ((x3.push y6).g i))),(4,.fn (x2.n+1) (x2.push x4).n (I4 x2.n (fun i=>cI .i64 (x2.g i)) (D0 [pI .i64 0] [(0,cI .i64 x4)])) (fun i=>cI .i64 ((x2.push x4).g i)))] (al1 ⟨rfl,W3 (c:=cL 2 A0) (v:=x3) (x:=y6) (z:=[G6]) same rfl rfl⟩ (al1 ⟨rfl,W3 (c:=cI .i64) (v:=x2) (x:=x4) (z:=[(pI .i64 0)]) same rfl rfl⟩ al0)))
  replace h:=itF c15 h;exact d _ [(3000,3000),(8500,38000),(9500,42000)] _ y6 (x2.push x4) (x3.push y6) (wrap .i64 (x4-(a.If.n:Int))) T3 h (hle:=klR [(3,.fn (x3.n+1) (x3.push y6).n (I4 x3.n (fun i=>cL 2 A0 (x3.g i)) (D0 [G6] [(0,cL 2 A0 y6)])) (fun i=>cL 2 A0 ((x3.push y6).g i))),(4,.fn (x2.n+1) (x2.push x4).n (I4 x2.n (fun i=>cI .i64 (x2.g i)) (D0 [pI .i64 0] [(0,cI .i64 x4)])) (fun i=>cI .i64 ((x2.push x4).g i)))] (al1 ⟨rfl,W3 (c:=cL 2 A0) (v:=x3) (x:=y6) (z:=[G6]) same rfl rfl⟩ (al1 ⟨rfl,W3 (c:=cI .i64) (v:=x2) (x:=x4) (z:=[(pI .i64 0)]) same rfl rfl⟩ al0)))
 obtain rfl:=C0 h;exact A8 hS T3 ⟨[(6,pN 0),(5,.vec 9500),(4,.vec 8500)],[(9500,.vec A6 1 x3.n (fun i=>cL 2 A0 (x3.g i)) true),(8500,.vec B8 1 x2.n (fun i=>cI .i64 (x2.g i)) true)]⟩ [8500,9500] (ids:=[(8500,8500),(9500,9500)]) ⟨rfl,rfl,rfl⟩
theorem Xk {a:Law}{b:Sl To}{y:(Sl Int)×(Sl (Sl To))×Int}(h:An N a b=some y) :FunO S Lw [.p (.agg (B2 a)),.p (vSl 2 A0 b)] [] (.tup [.vec 0,.vec 1,pN y.2.2]) ([.vec B8 1 y.1.n (fun i=>cI .i64 (y.1.g i)) true,.vec A6 1 y.2.1.n (fun i=>cL 2 A0 (y.2.1.g i)) true]) []:=by
 unfold An at h;refine A1 hS Xa ?_;refine kC hS h (Xi hS hL) (fun y1 h=>?_);apply kI hS h<;>intro h
 .obtain rfl:=C0 h;exact A8 hS T3 ⟨[(6,pN y1),(5,.vec 6701),(4,.vec 5700)],[(6701,.vec A6 1 (Sl.nil:Sl (Sl To)).n (fun i=>cL 2 A0 ((Sl.nil:Sl (Sl To)).g i)) true),(5700,.vec B8 1 (Sl.nil:Sl Int).n (fun i=>cI .i64 ((Sl.nil:Sl Int).g i)) true)]⟩ [5700,6701] (ids:=[]) ⟨rfl,rfl,rfl⟩
 apply kI hS h<;>intro h
 .refine kC hS h (Au4 hS hL) (fun y2 h=>?_);obtain rfl:=C0 h;exact A8 hS T3 ⟨[(6,pN y2.2.2),(5,.vec 21001),(4,.vec 21000)],[(21001,.vec A6 1 y2.2.1.n (fun i=>cL 2 A0 (y2.2.1.g i)) true),(21000,.vec B8 1 y2.1.n (fun i=>cI .i64 (y2.1.g i)) true)]⟩ [21000,21001] (ids:=[(21000,21000),(21001,21001)]) ⟨rfl,rfl,rfl⟩
 apply kI hS h<;>intro h
 .refine kC hS h (Xj hS hL) (fun y3 h=>?_);obtain rfl:=C0 h;exact A8 hS T3 ⟨[(6,pN y3.2.2),(5,.vec 29001),(4,.vec 29000)],[(29001,.vec A6 1 y3.2.1.n (fun i=>cL 2 A0 (y3.2.1.g i)) true),(29000,.vec B8 1 y3.1.n (fun i=>cI .i64 (y3.1.g i)) true)]⟩ [29000,29001] (ids:=[(29000,29000),(29001,29001)]) ⟨rfl,rfl,rfl⟩
 refine kC hS h (Aa2 hS hL) (fun y4 h=>?_);obtain rfl:=C0 h;exact A8 hS T3 ⟨[(6,pN y4.2.2),(5,.vec 35001),(4,.vec 35000)],[(35001,.vec A6 1 y4.2.1.n (fun i=>cL 2 A0 (y4.2.1.g i)) true),(35000,.vec B8 1 y4.1.n (fun i=>cI .i64 (y4.1.g i)) true)]⟩ [35000,35001] (ids:=[(35000,35000),(35001,35001)]) ⟨rfl,rfl,rfl⟩
theorem Xl {b:Law}{a:Sl To}{y:(Sl To)×Int}(h:Y1 N b a=some y) :FunO S Lu [.p (.agg (B2 b)),.p (vSl 2 A0 a)] [] (.tup [.vec 0,pN y.2]) ([.vec B0 2 y.1.n (fun i=>A0 (y.1.g i)) true]) []:=by
 unfold Y1 at h;refine A1 hS WZ ?_;refine kC hS h (Xk hS hL) (fun y1 h=>?_);apply kI hS h<;>intro h
 .obtain rfl:=C0 h;exact A8 hS T3 ⟨[(5,pN y1.2.2),(4,.vec 5700)],[(5700,.vec B0 2 (Sl.nil:Sl To).n (fun i=>A0 ((Sl.nil:Sl To).g i)) true)]⟩ [5700] (ids:=[]) ⟨rfl,rfl,rfl⟩
 apply kI hS h<;>intro h
 .obtain⟨c3,h⟩:=C7 h;obtain rfl:=C0 h;exact A8 hS (And.intro (rfl:true=true) c3) ⟨[(5,pN 0),(4,.vec 25000)],[(25000,.vec B0 2 ((Sl.of []:Sl To).app a).n (fun i=>A0 (((Sl.of []:Sl To).app a).g i)) true)]⟩ [25000] (ids:=[(25000,25000)]) ⟨rfl,rfl,rfl⟩ (hle:=klR [(1,.fn (0+a.n) ((Sl.of []:Sl To).app a).n (I4 0 (D0 [pI .u32 0,pI .u32 0] []) (fun i=>A0 (a.g i))) (fun i=>A0 (((Sl.of []:Sl To).app a).g i)))] (al1 ⟨rfl,KB (c:=A0) (v:=(Sl.of []:Sl To)) (w:=a) (fun i d=>Kh d (by omega)) rfl same rfl⟩ al0))
 obtain⟨c4,h⟩:=C7 h;obtain rfl:=C0 h;exact A8 hS (And.intro (And.intro (And.intro (rfl:true=true) c4.1.1) c4.1.2) c4.2) ⟨[(5,pN 0),(4,.vec 33000)],[(33000,.vec B0 2 ((Sl.of []:Sl To).app (y1.2.1.g (wrap .i64 ((y1.2.1.n:Int)-1)).toNat)).n (fun i=>A0 (((Sl.of []:Sl To).app (y1.2.1.g (wrap .i64 ((y1.2.1.n:Int)-1)).toNat)).g i)) true)]⟩ [33000] (ids:=[(33000,33000)]) ⟨rfl,rfl,rfl⟩ (hle:=klR [(1,.fn (0+(y1.2.1.g (wrap .i64 ((y1.2.1.n:Int)-1)).toNat).n) ((Sl.of []:Sl To).app (y1.2.1.g (wrap .i64 ((y1.2.1.n:Int)-1)).toNat)).n (I4 0 (D0 [pI .u32 0,pI .u32 0] []) (fun i=>A0 ((y1.2.1.g (wrap .i64 ((y1.2.1.n:Int)-1)).toNat).g i))) (fun i=>A0 (((Sl.of []:Sl To).app (y1.2.1.g (wrap .i64 ((y1.2.1.n:Int)-1)).toNat)).g i)))] (al1 ⟨rfl,KB (c:=A0) (v:=(Sl.of []:Sl To)) (w:=y1.2.1.g (wrap .i64 ((y1.2.1.n:Int)-1)).toNat) (fun i d=>Kh d (by omega)) rfl same rfl⟩ al0))
theorem Xm {a:Sl Law}{b:Sl To}{y:(Sl (Sl To))×Int}(h:Bp N a b=some y) :FunO S Lq [.p (vSl 18 B2 a),.p (vSl 2 A0 b)] [] (.tup [.vec 0,pN y.2]) ([.vec A6 1 y.1.n (fun i=>cL 2 A0 (y.1.g i)) true]) []:=by
 unfold Bp at h;refine A1 hS WV ?_;refine kC hS h (Xh hS hL) (fun y1 h=>?_);refine Ai hS T3 (A2 hS) h 0 (fun z1=>⟨[(6,pN z1),(1,.p (vSl 2 A0 b)),(0,.p (vSl 18 B2 a))],[]⟩) (fun M1 k1 d h=>?_) (fun z1 h=>?_)
 .apply kI hS h<;>intro h
  .refine kC hS h (DH hS hL) (fun y3 h=>?_);exact d _ [] _ y3 T3 h
  exact d _ [] _ y1 T3 h
 apply kI hS h<;>intro h
 .obtain rfl:=C0 h;exact A8 hS T3 ⟨[(5,pN z1),(4,.vec 5700)],[(5700,.vec A6 1 (Sl.nil:Sl (Sl To)).n (fun i=>cL 2 A0 ((Sl.nil:Sl (Sl To)).g i)) true)]⟩ [5700] (ids:=[]) ⟨rfl,rfl,rfl⟩
 refine kC hS h (ZW hS hL) (fun y4 h=>?_);refine D7 hS (rfl:true=true) h (fun x2 x3=>⟨[(8,pN x3),(7,.vec 8500),(0,.p (vSl 18 B2 a))],[(8500,.vec A6 1 x2.n (fun i=>cL 2 A0 (x2.g i)) false)]⟩) (ids:=[(8500,23000)]) (fun _ _ _ _ _ f x2 x3 j h=>?_) (hle:=klR [(2,.fn 1 (Sl.of [y4]:Sl (Sl To)).n (D0 [G6] [(0,cL 2 A0 y4)]) (fun i=>cL 2 A0 ((Sl.of [y4]:Sl (Sl To)).g i)))] (al1 ⟨rfl,(fun i l=>match i,l with|0,_=>rfl|_+1,l=>Kh l (by omega))⟩ al0));apply kI hS h<;>intro h
 .refine C5 hS T3 [2,3] ?_;obtain⟨c12,h⟩:=C7 h;obtain⟨y7,e7,h⟩:=B1 h;refine Ac [] (And.intro (And.intro (And.intro c12.1.1 (by decide:(18:Nat)<=18)) c12.1.2) c12.2) (Xl hS hL e7) ?_;refine D9 T3 ?_;apply kI hS h<;>intro h
  .obtain rfl:=C0 h;exact A8 hS T3 ⟨[(5,pN y7.2),(4,.vec 5700)],[(5700,.vec A6 1 (Sl.nil:Sl (Sl To)).n (fun i=>cL 2 A0 ((Sl.nil:Sl (Sl To)).g i)) true)]⟩ [5700] (ids:=[]) ⟨rfl,rfl,rfl⟩
  obtain⟨c14,h⟩:=C7 h;exact j _ [(8500,48000)] _ (x2.push y7.1) (wrap .i64 (x3+1)) (And.intro (rfl:true=true) c14) h (hle:=klR [(2,.fn (x2.n+1) (x2.push y7.1).n (I4 x2.n (fun i=>cL 2 A0 (x2.g i)) (D0 [G6] [(0,cL 2 A0 y7.1)])) (fun i=>cL 2 A0 ((x2.push y7.1).g i)))] (al1 ⟨rfl,W3 (c:=cL 2 A0) (v:=x2) (x:=y7.1) (z:=[G6]) same rfl rfl⟩ al0))
 obtain rfl:=C0 h;exact A8 hS T3 ⟨[(5,pN 0),(4,.vec 8500)],[(8500,.vec A6 1 x2.n (fun i=>cL 2 A0 (x2.g i)) true)]⟩ [8500] (ids:=[(8500,8500)]) ⟨rfl,rfl,rfl⟩
theorem TM {a:Sl Law}{b:Sl To}{y:(Sl To)×Int}(h:U5 N a b=some y) :FunO S JJ [.p (vSl 18 B2 a),.p (vSl 2 A0 b)] [] (.tup [.p (vSl 2 A0 y.1),pN y.2]) ([]) []:=by
 unfold U5 at h;refine A1 hS TD ?_;refine kC hS h (Xm hS hL) (fun y1 h=>?_);apply kI hS h<;>intro h
 .obtain rfl:=C0 h;exact A8 hS T3 ⟨[(5,pN y1.2),(4,.p (vSl 2 A0 (Sl.nil:Sl To)))],[]⟩ [] (ids:=[]) ⟨rfl,rfl,rfl⟩
 obtain⟨c2,h⟩:=C7 h;obtain rfl:=C0 h;exact AN0 hS c2 [] ⟨rfl,rfl,rfl⟩
end Go.AM
namespace Go.AM
variable {N:Nat}
open IntKind (wrap)
open Go.Proofs
set_option maxRecDepth 10000
set_option maxHeartbeats 2000000
variable {S:W1}(hS:H9 S Tryz.prog) (hL:GD S)
include hS hL
theorem TN {b:Int}{y:Bool}(h:Bv N b=some y) :FunO S JK [.p (pI .u8 b)] [] (pB y) ([]) []:=by unfold Bv at h;refine A1 hS TE ?_;refine kB hS (A2 hS) T3 T3 23 (.o (.o (.o (.n (.a (decide (97<=b))) (.a (decide (b<=122)))) (.n (.a (decide (65<=b))) (.a (decide (b<=90))))) (.n (.a (decide (48<=b))) (.a (decide (b<=57))))) (.a (b==45))) ?_;cases h;exact kR hS
theorem Hv {b:Str}{y:Bool}(h:S2 N b=some y) :FunO S Nv [.p (.str b)] [] (pB y) ([]) []:=by
 unfold S2 at h;refine A1 hS ZF ?_;refine E2 hS T3 h (fun x1=>⟨[(3,pN x1),(0,.p (.str b))],[]⟩) (ids:=[]) (fun _ _ _ _ _ c x1 d h=>?_);apply kI hS h<;>intro h
 .obtain⟨c8,h⟩:=C7 h;obtain⟨y3,e3,h⟩:=B1 h;refine B6 hS [] c8 (TN hS hL e3) ?_;apply kI hS h<;>intro h
  .cases h;exact kR hS
  exact d _ [] _ (wrap .i64 (x1+1)) T3 h
 refine kB hS (A2 hS) T3 T3 4 (.n (.a (decide (1<=(b.length:Int)))) (.a (decide ((b.length:Int)<=24)))) ?_;cases h;exact kR hS
theorem Gu {c:Sl J6}{y:Int}(h:S7 N c=some y) :FunO S Ln [.p (vSl 2 E4 c)] [] (pN y) ([]) []:=by
 unfold S7 at h;refine A1 hS WS ?_;obtain⟨c1,h⟩:=C7 h;refine kB hS (A2 hS) T3 c1 11 (.o (.o (.a (decide ((c.n:Int)<1))) (.a (decide (63<(c.n:Int))))) (.a ((c.g 0).Parent != (-1)))) ?_;apply kI hS h<;>intro h
 .cases h;exact kR hS
 refine E2 hS T3 h (fun x3=>⟨[(3,pN x3),(0,.p (vSl 2 E4 c))],[]⟩) (ids:=[]) (fun _ _ _ _ _ f x3 i h=>?_);apply kI hS h<;>intro h
 .refine Ai hS T3 (A2 hS) h 0 (fun z3=>⟨[(53,pB z3),(3,pN x3),(0,.p (vSl 2 E4 c))],[]⟩) (fun M3 k3 d h=>?_) (fun z3 h=>?_)
  .refine kG hS h (fun h=>?_) (fun h=>?_)
   .obtain⟨c71,h⟩:=C7 h;refine X9 hS c71 (b:=decide ((c.g x3.toNat).Parent<0)) (fun c72=>?_) (fun c72=>?_)
    .replace h:=itT c72 h;exact d _ [] _ true T3 h
    replace h:=itF c72 h;obtain⟨c73,h⟩:=C7 h;refine X9 hS c73 (b:=decide (x3<=(c.g x3.toNat).Parent)) (fun c74=>?_) (fun c74=>?_)
    .replace h:=itT c74 h;exact d _ [] _ true T3 h
    replace h:=itF c74 h;obtain⟨c75,h⟩:=C7 h;obtain⟨j,e11,h⟩:=B1 h;refine B6 hS [] c75 (Hv hS hL e11) ?_;exact d _ [] _ (!j) T3 h
   obtain⟨c76,h⟩:=C7 h;obtain⟨l,e12,h⟩:=B1 h;refine B6 hS [] c76 (Hv hS hL e12) ?_;exact d _ [] _ (!l) T3 h
  apply kI hS h<;>intro h
  .cases h;exact kR hS
  refine E2 hS T3 h (fun x7=>⟨[(4,pN x7),(3,pN x3),(0,.p (vSl 2 E4 c))],[]⟩) (ids:=[]) (fun _ _ _ _ _ m x7 q h=>?_);apply kI hS h<;>intro h
  .refine C5 hS T3 [2,4,7,9] ?_;obtain⟨c85,h⟩:=C7 h;refine D9 c85 ?_;apply kI hS h<;>intro h
   .cases h;exact kR hS
   exact q _ [] _ (wrap .i64 (x7+1)) T3 h
  exact i _ [] _ (wrap .i64 (x3+1)) T3 h
 cases h;exact kR hS
theorem Xn {rec:A5->Int->Option (Sl Int)}(d:∀{a:A5}{b:Int}{y:Sl Int},rec a b=some y->FunO S EC [.p (.agg (A4 a)),pN b] [] (.vec 0) ([.vec B8 1 y.n (fun i=>cI .i64 (y.g i)) true]) []){a:A5}{b:Int}{y:Sl Int}(h:R5 rec N a b=some y) :FunO S EC [.p (.agg (A4 a)),pN b] [] (.vec 0) ([.vec B8 1 y.n (fun i=>cI .i64 (y.g i)) true]) []:=by
 unfold R5 at h;refine A1 hS ZH ?_;refine D8 hS T3 4 3000 (A4 a) ?_;apply kI hS h<;>intro h
 .obtain rfl:=C0 h;exact A8 hS T3 ⟨[(4,.vec 5700)],[(5700,.vec B8 1 (Sl.nil:Sl Int).n (fun i=>cI .i64 ((Sl.nil:Sl Int).g i)) true)]⟩ [5700] (ids:=[]) ⟨rfl,rfl,rfl⟩
 refine C5 hS T3 [0,2,4,6,9,11,12] ?_;obtain⟨c2,h⟩:=C7 h;obtain⟨y1,e1,h⟩:=B1 h;refine Ac [] (And.intro (by decide:(3:Nat)<=3) c2) (d e1) ?_;obtain⟨c3,h⟩:=C7 h;refine D9 c3 ?_;obtain rfl:=C0 h;exact A8 hS T3 ⟨[(4,.vec 21000)],[(21000,.vec B8 1 (y1.app (a.On.g b.toNat)).n (fun i=>cI .i64 ((y1.app (a.On.g b.toNat)).g i)) true)]⟩ [21000] (ids:=[(21000,21000)]) ⟨rfl,rfl,rfl⟩ (hle:=klR [(0,.fn (y1.n+(a.On.g b.toNat).n) (y1.app (a.On.g b.toNat)).n (I4 y1.n (fun i=>cI .i64 (y1.g i)) (fun i=>cI .i64 ((a.On.g b.toNat).g i))) (fun i=>cI .i64 ((y1.app (a.On.g b.toNat)).g i)))] (al1 ⟨rfl,KB (c:=cI .i64) (v:=y1) (w:=a.On.g b.toNat) same rfl same rfl⟩ al0))
theorem Aa3 {a:A5}{b:Int}{y:Sl Int}(h:BU N a b=some y) :FunO S EC [.p (.agg (A4 a)),pN b] [] (.vec 0) ([.vec B8 1 y.n (fun i=>cI .i64 (y.g i)) true]) []:=by
 induction N generalizing a b y with
 |zero=>cases (show (none:Option (Sl Int))=some y from h)
 |succ N ih=>exact Xn hS hL (fun e=>ih e) h
theorem Xo {a:A5}{y:Int}(h:P6 N a=some y) :FunO S Lj [.p (.agg (A4 a))] [] (pN y) ([]) []:=by
 unfold P6 at h;refine A1 hS WN ?_;refine D8 hS T3 2 2000 (A4 a) ?_;refine kC hS h (Gu hS hL) (fun y1 h=>?_);apply kI hS h<;>intro h
 .cases h;exact kR hS
 apply kI hS h<;>intro h
 .cases h;exact kR hS
 refine E2 hS T3 h (fun x1=>⟨[(3,pN x1),(1,.p (.ptr (A4 a)))],[]⟩) (ids:=[]) (fun _ _ _ _ _ i x1 j h=>?_);apply kI hS h<;>intro h
 .obtain⟨c10,h⟩:=C7 h;obtain⟨y4,e4,h⟩:=B1 h;refine B6 hS [] (And.intro c10 (by decide:(18:Nat)<=18)) (Gt hS hL e4) ?_;apply kI hS h<;>intro h
  .cases h;exact kR hS
  exact j _ [] _ (wrap .i64 (x1+1)) T3 h
 refine E2 hS T3 h (fun x3=>⟨[(4,pN x3),(1,.p (.ptr (A4 a)))],[]⟩) (ids:=[]) (fun _ _ _ _ _ l x3 m h=>?_);apply kI hS h<;>intro h
 .refine E2 hS T3 h (fun x5=>⟨[(5,pN x5),(4,pN x3),(1,.p (.ptr (A4 a)))],[]⟩) (ids:=[]) (fun _ _ _ _ _ o x5 q h=>?_);apply kI hS h<;>intro h
  .refine C5 hS T3 [1,3,5,7,9,11] ?_;obtain⟨c40,h⟩:=C7 h;refine D9 c40 ?_;apply kI hS h<;>intro h
   .cases h;exact kR hS
   exact q _ [] _ (wrap .i64 (x5+1)) T3 h
  exact m _ [] _ (wrap .i64 (x3+1)) T3 h
 apply kI hS h<;>intro h
 .cases h;exact kR hS
 refine E2 hS T3 h (fun x6=>⟨[(6,pN x6),(1,.p (.ptr (A4 a)))],[]⟩) (ids:=[]) (fun _ _ _ _ _ r x6 s h=>?_);apply kI hS h<;>intro h
 .obtain⟨y7,e7,h⟩:=B1 h;refine B6 hS [] (by decide:(3:Nat)<=3) (Aa3 hS hL e7) ?_;apply kI hS h<;>intro h
  .cases h;exact kR hS
  exact s _ [] _ (wrap .i64 (x6+1)) T3 h
 refine E2 hS T3 h (fun x8=>⟨[(7,pN x8),(1,.p (.ptr (A4 a)))],[]⟩) (ids:=[]) (fun _ _ _ _ _ t x8 u h=>?_);apply kI hS h<;>intro h
 .refine E2 hS T3 h (fun c=>⟨[(8,pN c),(7,pN x8),(1,.p (.ptr (A4 a)))],[]⟩) (ids:=[]) (fun _ _ _ _ _ f c d h=>?_);obtain⟨c100,h⟩:=C7 h;refine D1 hS c100 (b:=decide (c<((a.On.g x8.toNat).n:Int))) (fun c101=>?_) (fun c101=>?_)
  .replace h:=itT c101 h;refine C5 hS T3 [1,3,4,6,7,11,13,14,16,17,19] ?_;obtain⟨c102,h⟩:=C7 h;refine AY c102 (b:=decide (((a.On.g x8.toNat).g c.toNat)<0)) (fun c103=>?_) (fun c103=>?_)
   .replace h:=itT c103 h;refine D9 T3 ?_;cases h;exact kR hS
   replace h:=itF c103 h;obtain⟨c104,h⟩:=C7 h;refine D9 c104 ?_;apply kI hS h<;>intro h
   .cases h;exact kR hS
   exact d _ [] _ (wrap .i64 (c+1)) T3 h
  replace h:=itF c101 h;exact u _ [] _ (wrap .i64 (x8+1)) T3 h
 cases h;exact kR hS
end Go.AM
namespace Go.AM
open IntKind (wrap)
open Go.Proofs
set_option maxRecDepth 10000
set_option maxHeartbeats 2000000
variable {S:W1}(hS:H9 S Tryz.prog) (hL:GD S)
include hS hL
theorem Qt {N:Nat}{a:Sl J6}{d:Int}{y:Sl Int}(h:Q2 N a d=some y) :FunO S GZ [.p (vSl 2 E4 a),pN d] [] (.vec 0) ([.vec B8 1 y.n (fun i=>cI .i64 (y.g i)) true]) []:=by
 unfold Q2 at h;refine A1 hS Qm ?_;refine D7 hS T3 h (fun x1 x2=>⟨[(6,pN x2),(5,.vec 6500),(1,pN d),(0,.p (vSl 2 E4 a))],[(6500,.vec B8 1 x1.n (fun i=>cI .i64 (x1.g i)) false)]⟩) (ids:=[]) (fun _ _ _ _ _ j x1 x2 f h=>?_);apply kI hS h<;>intro h
 .obtain⟨c8,h⟩:=C7 h;refine D1 hS c8 (b:=(a.g x2.toNat).Parent==d) (fun c9=>?_) (fun c9=>?_)
  .replace h:=itT c9 h;obtain⟨c10,h⟩:=C7 h;exact f _ [(6500,24000)] _ (x1.push x2) (wrap .i64 (x2+1)) (And.intro (rfl:true=true) c10) h (hle:=klR [(3,.fn (x1.n+1) (x1.push x2).n (I4 x1.n (fun i=>cI .i64 (x1.g i)) (D0 [pI .i64 0] [(0,cI .i64 x2)])) (fun i=>cI .i64 ((x1.push x2).g i)))] (al1 ⟨rfl,W3 (c:=cI .i64) (v:=x1) (x:=x2) (z:=[(pI .i64 0)]) same rfl rfl⟩ al0))
  replace h:=itF c9 h;exact f _ [(6500,6500)] _ x1 (wrap .i64 (x2+1)) T3 h
 obtain rfl:=C0 h;exact A8 hS T3 ⟨[(4,.vec 6500)],[(6500,.vec B8 1 x1.n (fun i=>cI .i64 (x1.g i)) true)]⟩ [6500] (ids:=[(6500,6500)]) ⟨rfl,rfl,rfl⟩
theorem JO {N:Nat}{a:Sl J6}{y:(Sl Int)×Int}(h:K5 N a=some y) :FunO S JI [.p (vSl 2 E4 a)] [] (.tup [.vec 0,pN y.2]) ([.vec B8 1 y.1.n (fun i=>cI .i64 (y.1.g i)) true]) []:=by
 unfold K5 at h;refine A1 hS TC ?_;refine kC hS h (Gu hS hL) (fun y1 h=>?_);apply kI hS h<;>intro h
 .obtain rfl:=C0 h;exact A8 hS T3 ⟨[(3,pN y1),(2,.vec 3700)],[(3700,.vec B8 1 (Sl.nil:Sl Int).n (fun i=>cI .i64 ((Sl.nil:Sl Int).g i)) true)]⟩ [3700] (ids:=[]) ⟨rfl,rfl,rfl⟩
 refine D7 hS T3 h (fun x1 x2=>⟨[(6,pN x2),(5,.vec 6500),(0,.p (vSl 2 E4 a))],[(6500,.vec B8 1 x1.n (fun i=>cI .i64 (x1.g i)) false)]⟩) (ids:=[]) (fun _ _ _ _ _ d x1 x2 b h=>?_);apply kI hS h<;>intro h
 .refine kC hS h (Qt hS hL) (fun y4 h=>?_);apply kI hS h<;>intro h
  .obtain⟨c8,h⟩:=C7 h;exact b _ [(6500,27000)] _ (x1.push x2) (wrap .i64 (x2+1)) (And.intro (rfl:true=true) c8) h (hle:=klR [(2,.fn (x1.n+1) (x1.push x2).n (I4 x1.n (fun i=>cI .i64 (x1.g i)) (D0 [pI .i64 0] [(0,cI .i64 x2)])) (fun i=>cI .i64 ((x1.push x2).g i)))] (al1 ⟨rfl,W3 (c:=cI .i64) (v:=x1) (x:=x2) (z:=[(pI .i64 0)]) same rfl rfl⟩ al0))
  exact b _ [(6500,6500)] _ x1 (wrap .i64 (x2+1)) T3 h
 obtain rfl:=C0 h;exact A8 hS T3 ⟨[(3,pN 0),(2,.vec 6500)],[(6500,.vec B8 1 x1.n (fun i=>cI .i64 (x1.g i)) true)]⟩ [6500] (ids:=[(6500,6500)]) ⟨rfl,rfl,rfl⟩
end Go.AM
namespace Go.AM
variable {N:Nat}
open IntKind (wrap)
open Go.Proofs
set_option maxRecDepth 10000
set_option maxHeartbeats 2000000
variable {S:W1}(hS:H9 S Tryz.prog) (hL:GD S)
include hS hL
theorem Aa4 {c:Sl J6}{b:Int}{y:Int}(h:Dd N c b=some y) :FunO S NB [.p (vSl 2 E4 c),pN b] [] (pN y) ([]) []:=by
 unfold Dd at h;refine A1 hS ZM ?_;refine kC hS h (Gu hS hL) (fun y1 h=>?_);refine kB hS (A2 hS) T3 T3 9 (.n (.a (y1==0)) (.o (.a (decide (b<0))) (.a (decide ((c.n:Int)<=b))))) ?_;apply kI hS h<;>intro h
 .cases h;exact kR hS
 cases h;exact kR hS
theorem Aa5 {a:Sl J6}{b:Int}{y:Sl Int}(h:Ei N a b=some y) :FunO S FE [.p (vSl 2 E4 a),pN b] [] (.vec 0) ([.vec B8 1 y.n (fun i=>cI .i64 (y.g i)) true]) []:=by
 induction N generalizing a b y with
 |zero=>cases (show (none:Option (Sl Int))=some y from h)
 |succ N ih=>exact OG hS hL (fun e=>ih e) h
theorem Aa6 {a:Sl J6}{b:Int}{y:(Sl Int)×Int}(h:BV N a b=some y) :FunO S Nx [.p (vSl 2 E4 a),pN b] [] (.tup [.vec 0,pN y.2]) ([.vec B8 1 y.1.n (fun i=>cI .i64 (y.1.g i)) true]) []:=by
 unfold BV at h;refine A1 hS ZI ?_;refine kC hS h (Aa4 hS hL) (fun y1 h=>?_);apply kI hS h<;>intro h
 .obtain rfl:=C0 h;exact A8 hS T3 ⟨[(5,pN y1),(4,.vec 5700)],[(5700,.vec B8 1 (Sl.nil:Sl Int).n (fun i=>cI .i64 ((Sl.nil:Sl Int).g i)) true)]⟩ [5700] (ids:=[]) ⟨rfl,rfl,rfl⟩
 refine kC hS h (Aa5 hS hL) (fun y2 h=>?_);obtain rfl:=C0 h;exact A8 hS T3 ⟨[(5,pN 0),(4,.vec 16000)],[(16000,.vec B8 1 y2.n (fun i=>cI .i64 (y2.g i)) true)]⟩ [16000] (ids:=[(16000,16000)]) ⟨rfl,rfl,rfl⟩
theorem LC {b:Sl E6}{y:Bool}(h:I7 N b=some y) :FunO S Lk [.p (vSl 2 C6 b)] [] (pB y) ([]) []:=by
 unfold I7 at h;refine A1 hS WO ?_;refine E2 hS T3 h (fun x1=>⟨[(3,pN x1),(0,.p (vSl 2 C6 b))],[]⟩) (ids:=[]) (fun _ _ _ _ _ c x1 d h=>?_);apply kI hS h<;>intro h
 .obtain⟨c10,h⟩:=C7 h;obtain⟨c11,h⟩:=C7 h;refine kB hS (A2 hS) c10 c11 8 (.n (.a (!(b.g x1.toNat).Has)) (.a (decide (0<((b.g x1.toNat).W.n:Int))))) ?_;apply kI hS h<;>intro h
  .cases h;exact kR hS
  exact d _ [] _ (wrap .i64 (x1+1)) T3 h
 cases h;exact kR hS
theorem LD {a:Sl E6}{y:Int}(h:H2 N a=some y) :FunO S Ll [.p (vSl 2 C6 a)] [] (pN y) ([]) []:=by
 unfold H2 at h;refine A1 hS WQ ?_;refine E2 hS T3 h (fun x1=>⟨[(3,pN x1),(0,.p (vSl 2 C6 a))],[]⟩) (ids:=[]) (fun _ _ _ _ _ b x1 c h=>?_);apply kI hS h<;>intro h
 .obtain⟨c8,h⟩:=C7 h;obtain⟨y3,e3,h⟩:=B1 h;refine B6 hS [] c8 (DH hS hL e3) ?_;apply kI hS h<;>intro h
  .cases h;exact kR hS
  exact c _ [] _ (wrap .i64 (x1+1)) T3 h
 cases h;exact kR hS
def Z6 (N:Nat)(i:A5)(a:Sl E6)(b:Sl Entry):Option Int:= (P6 N i).bind fun y1=>if (y1 != 0) then some y1 else if (decide (256<(b.n:Int))) then some 12 else (K5 N i.Tree).bind fun y2=>lt (fun (z1:Bool)=>if z1 then some 2 else T9 N (fun c (x3:Int)=>if (decide (x3<(b.n:Int))) then if ((0:Int)<=x3/\x3<(b.n:Int))then lt (fun (z4:Bool)=>if z4 then some 2 else c (wrap .i64 (x3+1))) fun k4=>if (((b.g x3.toNat).Forms.n:Int) != (y2.1.n:Int)) then k4 true else if ((0:Int)<=x3/\x3<(b.n:Int))then (I7 N (b.g x3.toNat).Forms).bind fun j=>k4 (!j) else none else none else T9 N (fun d (x6:Int)=>if (decide (x6<(b.n:Int))) then if ((0:Int)<=x6/\x6<(b.n:Int))then (S2 N (b.g x6.toNat).Gloss).bind fun l=>if (!l) then some 15 else d (wrap .i64 (x6+1)) else none else (H2 N a).bind fun m=>P9 N (fun f (x7:Int) (x8:Int)=>if ((decide (x8<(b.n:Int)))&&(x7==0)) then if ((0:Int)<=x8/\x8<(b.n:Int))then (H2 N (b.g x8.toNat).Forms).bind fun o=>f o (wrap .i64 (x8+1)) else none else some x7) m 0) 0) 0) fun k1=>if ((a.n:Int) != (b.n:Int)) then k1 true else (I7 N a).bind fun y4=>k1 (!y4)
theorem LF {d:A5}{b:Sl E6}{c:Sl Entry}{y:Int}(h:Z6 N d b c=some y) :FunO S Li [.p (.agg (A4 d)),.p (vSl 2 C6 b),.p (vSl 2 B7 c)] [] (pN y) ([]) []:=by
 unfold Z6 at h;refine A1 hS Tryz.func22 ?_;refine kC hS h (Xo hS hL) (fun y1 h=>?_);apply kI hS h<;>intro h
 .cases h;exact kR hS
 apply kI hS h<;>intro h
 .cases h;exact kR hS
 refine kC hS h (JO hS hL) (fun y2 h=>?_);refine Ai hS T3 (A2 hS) h 0 (fun z1=>⟨[(36,pB z1),(8,.vec 25000),(2,.p (vSl 2 B7 c)),(1,.p (vSl 2 C6 b))],[(25000,.vec B8 1 y2.1.n (fun i=>cI .i64 (y2.1.g i)) true)]⟩) (fun M1 k1 f h=>?_) (fun z1 h=>?_)
 .refine kG hS h (fun h=>?_) (fun h=>?_)
  .exact f _ [(25000,25000)] _ true T3 h
  refine kC hS h (LC hS hL) (fun y4 h=>?_);exact f _ [(25000,25000)] _ (!y4) T3 h
 apply kI hS h<;>intro h
 .cases h;exact kR hS
 refine E2 hS T3 h (fun x3=>⟨[(10,pN x3),(8,.vec 25000),(2,.p (vSl 2 B7 c)),(1,.p (vSl 2 C6 b))],[(25000,.vec B8 1 y2.1.n (fun i=>cI .i64 (y2.1.g i)) true)]⟩) (ids:=[(25000,25000)]) (fun _ _ _ _ _ l x3 m h=>?_);apply kI hS h<;>intro h
 .obtain⟨c24,h⟩:=C7 h;refine Ai hS c24 (A2 hS) h 0 (fun z4=>⟨[(60,pB z4),(10,pN x3),(8,.vec 25000),(2,.p (vSl 2 B7 c)),(1,.p (vSl 2 C6 b))],[(25000,.vec B8 1 y2.1.n (fun i=>cI .i64 (y2.1.g i)) true)]⟩) (fun M4 k4 j h=>?_) (fun z4 h=>?_)
  .refine kG hS h (fun h=>?_) (fun h=>?_)
   .exact j _ [(25000,25000)] _ true T3 h
   obtain⟨c29,h⟩:=C7 h;obtain⟨o,e10,h⟩:=B1 h;refine B6 hS [] c29 (LC hS hL e10) ?_;exact j _ [(25000,25000)] _ (!o) T3 h
  apply kI hS h<;>intro h
  .cases h;exact kR hS
  exact m _ [(25000,25000)] _ (wrap .i64 (x3+1)) T3 h
 refine E2 hS T3 h (fun x6=>⟨[(11,pN x6),(2,.p (vSl 2 B7 c)),(1,.p (vSl 2 C6 b))],[]⟩) (ids:=[]) (fun _ _ _ _ _ q x6 r h=>?_);apply kI hS h<;>intro h
 .obtain⟨c38,h⟩:=C7 h;obtain⟨v,e13,h⟩:=B1 h;refine B6 hS [] c38 (Hv hS hL e13) ?_;apply kI hS h<;>intro h
  .cases h;exact kR hS
  exact r _ [] _ (wrap .i64 (x6+1)) T3 h
 refine kC hS h (LD hS hL) (fun w h=>?_);refine D7 hS T3 h (fun x7 x8=>⟨[(12,pN x8),(7,pN x7),(2,.p (vSl 2 B7 c))],[]⟩) (ids:=[]) (fun _ _ _ _ _ s x7 x8 t h=>?_);refine kB hS (A2 hS) T3 T3 3 (.n (.a (decide (x8<(c.n:Int)))) (.a (x7==0))) ?_;apply kI hS h<;>intro h
 .obtain⟨c45,h⟩:=C7 h;obtain⟨u,e17,h⟩:=B1 h;refine B6 hS [] c45 (LD hS hL e17) ?_;exact t _ [] _ u (wrap .i64 (x8+1)) T3 h
 cases h;exact kR hS
theorem Aa7 {d:A5}{f:Int}{a:Int}{y:Sl Law}(h:BX N d f a=some y) :FunO S Nw [.p (.agg (A4 d)),pN f,pN a] [] (.vec 0) ([.vec H7 18 y.n (fun i=>B2 (y.g i)) true]) []:=by
 unfold BX at h;refine A1 hS ZG ?_;refine D8 hS T3 6 4000 (A4 d) ?_;refine kC hS h (Aa6 hS hL) (fun y1 h=>?_);refine D7 hS T3 h (fun x3 x4=>⟨[(10,pN x4),(9,.vec 10501),(7,.vec 18000),(3,.p (.ptr (A4 d))),(2,pN a)],[(18000,.vec B8 1 y1.1.n (fun i=>cI .i64 (y1.1.g i)) true),(10501,.vec H7 18 x3.n (fun i=>B2 (x3.g i)) false)]⟩) (ids:=[(18000,18000)]) (fun _ _ _ _ _ l x3 x4 m h=>?_);apply kI hS h<;>intro h
 .refine C5 hS T3 [1,6,7] ?_;obtain⟨c36,h⟩:=C7 h;refine D9 c36 ?_;refine D7 hS T3 h (fun x7 x8=>⟨[(12,pN x8),(11,.p (vSl 1 (cI .i64) (d.On.g (y1.1.g x4.toNat).toNat))),(10,pN x4),(9,.vec 10502),(7,.vec 18000),(3,.p (.ptr (A4 d))),(2,pN a)],[(18000,.vec B8 1 y1.1.n (fun i=>cI .i64 (y1.1.g i)) true),(10502,.vec H7 18 x7.n (fun i=>B2 (x7.g i)) false)]⟩) (ids:=[(10502,10501),(18000,18000)]) (fun _ _ _ _ _ o x7 x8 j h=>?_);apply kI hS h<;>intro h
  .obtain⟨c48,h⟩:=C7 h;refine D1 hS c48 (b:=((d.On.g (y1.1.g x4.toNat).toNat).g x8.toNat) != a) (fun c49=>?_) (fun c49=>?_)
   .replace h:=itT c49 h;refine C5 hS T3 [2,5,6,7,8] ?_;obtain⟨c50,h⟩:=C7 h;refine Aj (And.intro (And.intro c50.1 c50.2) (by decide:(18:Nat)<=18)) (x:=.sl true 18 1 (D0 [.str [],pI .i64 0,pI .u32 0,pI .u32 0,.v (.bool false),pI .i64 0,pI .i64 0,G6,pI .i64 0,pI .u32 0,pI .u32 0,.v (.bool false),pI .i64 0,pI .i64 0,G6,G6,G6,pI .i64 0] [(0,B2 (d.Laws.g ((d.On.g (y1.1.g x4.toNat).toNat).g x8.toNat).toNat))])) ?_;obtain⟨c51,h⟩:=C7 h;refine D9 c51 ?_;exact j _ [(10502,57000),(18000,18000)] _ (x7.push (d.Laws.g ((d.On.g (y1.1.g x4.toNat).toNat).g x8.toNat).toNat)) (wrap .i64 (x8+1)) T3 h (hle:=klR [(6,.fn (x7.n+1) (x7.push (d.Laws.g ((d.On.g (y1.1.g x4.toNat).toNat).g x8.toNat).toNat)).n (I4 x7.n (fun i=>B2 (x7.g i)) (D0 [.str [],pI .i64 0,pI .u32 0,pI .u32 0,.v (.bool false),pI .i64 0,pI .i64 0,G6,pI .i64 0,pI .u32 0,pI .u32 0,.v (.bool false),pI .i64 0,pI .i64 0,G6,G6,G6,pI .i64 0] [(0,B2 (d.Laws.g ((d.On.g (y1.1.g x4.toNat).toNat).g x8.toNat).toNat))])) (fun i=>B2 ((x7.push (d.Laws.g ((d.On.g (y1.1.g x4.toNat).toNat).g x8.toNat).toNat)).g i)))] (al1 ⟨rfl,W3 (c:=B2) (v:=x7) (x:=d.Laws.g ((d.On.g (y1.1.g x4.toNat).toNat).g x8.toNat).toNat) (z:=[(.str []),pI .i64 0,pI .u32 0,pI .u32 0,.v (.bool false),pI .i64 0,pI .i64 0,G6,pI .i64 0,pI .u32 0,pI .u32 0,.v (.bool false),pI .i64 0,pI .i64 0,G6,G6,G6,pI .i64 0]) same rfl rfl⟩ al0))
   replace h:=itF c49 h;exact j _ [(10502,10502),(18000,18000)] _ x7 (wrap .i64 (x8+1)) T3 h
  exact m _ [(10501,10502),(18000,18000)] _ x7 (wrap .i64 (x4+1)) T3 h
 obtain rfl:=C0 h;exact A8 hS T3 ⟨[(6,.vec 10501)],[(10501,.vec H7 18 x3.n (fun i=>B2 (x3.g i)) true)]⟩ [10501] (ids:=[(10501,10501)]) ⟨rfl,rfl,rfl⟩
theorem Ik {d:A5}{a:E6}{c:Int}{b:Int}{y:E6}(h:O2 N d a c b=some y) :FunO S Ig [.p (.agg (A4 d)),.p (.agg (C6 a)),pN c,pN b] [] (.p (.agg (C6 y))) ([]) []:=by
 unfold O2 at h;refine A1 hS RK ?_;refine D8 hS T3 5 5000 (A4 d) ?_;refine D8 hS T3 8 6000 [.bb a.Has,vSl 2 A0 a.W] ?_;apply kI hS h<;>intro h
 .obtain rfl:=C0 h;exact A8 hS T3 ⟨[(8,.reg 9000 0)],[(9000,.cells [pB false,.p (vSl 2 A0 (Sl.nil:Sl To))])]⟩ [] (ids:=[(9000,9000)]) ⟨rfl,rfl,rfl⟩
 refine kC hS h (JO hS hL) (fun y1 h=>?_);refine C5 hS T3 [0,8] ?_;obtain⟨c2,h⟩:=C7 h;obtain⟨y2,e2,h⟩:=B1 h;refine Ac [] (And.intro (And.intro (by decide:(3:Nat)<=3) c2.1) c2.2) (Aa7 hS hL e2) ?_;obtain⟨y3,e3,h⟩:=B1 h;refine Ac [] T3 (TM hS hL e3) ?_;refine D9 T3 ?_;apply kI hS h<;>intro h
 .obtain rfl:=C0 h;exact A8 hS T3 ⟨[(8,.reg 9000 0)],[(9000,.cells [pB false,.p (vSl 2 A0 (Sl.nil:Sl To))])]⟩ [] (ids:=[(9000,9000)]) ⟨rfl,rfl,rfl⟩
 cases h;exact kR hS
theorem RQ {d:A5}{b:E6}{c:Int}{f:E6}{a:Int}{y:Bool}(h:I8 N d b c f a=some y) :FunO S Ie [.p (.agg (A4 d)),.p (.agg (C6 b)),pN c,.p (.agg (C6 f)),pN a] [] (pB y) ([]) []:=by
 unfold I8 at h;refine A1 hS RJ ?_;refine kC hS h (Ik hS hL) (fun y1 h=>?_);refine Ai hS T3 (A2 hS) h 0 (fun z1=>⟨[(10,pB z1)],[]⟩) (fun M1 k1 g h=>?_) (fun z1 h=>?_)
 .refine kG hS h (fun h=>?_) (fun h=>?_)
  .refine kC hS h (OE hS hL) (fun y3 h=>?_);exact g _ [] _ y3 T3 h
  exact g _ [] _ false T3 h
 cases h;exact kR hS
def Q4 (N:Nat)(f:A5)(b:Sl E6)(d:Sl Entry)(a:Int):Option ((Sl A3)×Int):= (Z6 N f b d).bind fun y1=>if (y1 != 0) then some ((Sl.nil:Sl A3),y1) else if ((decide (a<0))||(decide (1073741824<a))) then some ((Sl.nil:Sl A3),2) else P9 N (fun i (x3:Sl A3) (x4:Int)=>if (decide (x4<(d.n:Int))) then P9 N (fun c (x7:Sl A3) (x8:Int)=>if ((0:Int)<=x4/\x4<(d.n:Int))then if (decide (x8<((d.g x4.toNat).Forms.n:Int))) then if (((0:Int)<=x4/\x4<(d.n:Int))/\((0:Int)<=x8/\x8<((d.g x4.toNat).Forms.n:Int)))then if (!((d.g x4.toNat).Forms.g x8.toNat).Has) then c x7 (wrap .i64 (x8+1)) else if ((0:Int)<=x4/\x4<(b.n:Int))then (I8 N f (b.g x4.toNat) x8 ((d.g x4.toNat).Forms.g x8.toNat) (-1)).bind fun j=>if j then c x7 (wrap .i64 (x8+1)) else if ((0:Int)<=x4/\x4<(b.n:Int))then (O2 N f (b.g x4.toNat) x8 (-1)).bind fun l=>if (!l.Has) then if ((x7.n+(Sl.of [(⟨x4,x8,2,a⟩:A3)]:Sl A3).n)*32<=140737488355328/\x7.n+(Sl.of [(⟨x4,x8,2,a⟩:A3)]:Sl A3).n<=140737488355328)then c (x7.push (⟨x4,x8,2,a⟩:A3)) (wrap .i64 (x8+1)) else none else if ((x7.n+(Sl.of [(⟨x4,x8,1,a⟩:A3)]:Sl A3).n)*32<=140737488355328/\x7.n+(Sl.of [(⟨x4,x8,1,a⟩:A3)]:Sl A3).n<=140737488355328)then c (x7.push (⟨x4,x8,1,a⟩:A3)) (wrap .i64 (x8+1)) else none else none else none else none else i x7 (wrap .i64 (x4+1)) else none) x3 0 else some (x3,0)) (Sl.nil:Sl A3) 0
theorem AH4 {l:A5}{f:Sl E6}{j:Sl Entry}{d:Int}{y:(Sl A3)×Int}(h:Q4 N l f j d=some y) :FunO S AH3 [.p (.agg (A4 l)),.p (vSl 2 C6 f),.p (vSl 2 B7 j),pN d] [] (.tup [.vec 0,pN y.2]) ([.vec B5 4 y.1.n (fun i=>A9 (y.1.g i)) true]) []:=by
 unfold Q4 at h;refine A1 hS Tryz.func18 ?_;refine D8 hS T3 8 5000 (A4 l) ?_;obtain⟨y1,e1,h⟩:=B1 h;refine B6 hS [] (by decide:(3:Nat)<=3) (LF hS hL e1) ?_;apply kI hS h<;>intro h
 .obtain rfl:=C0 h;exact A8 hS T3 ⟨[(9,pN y1),(8,.vec 9700)],[(9700,.vec B5 4 (Sl.nil:Sl A3).n (fun i=>A9 ((Sl.nil:Sl A3).g i)) true)]⟩ [9700] (ids:=[]) ⟨rfl,rfl,rfl⟩
 refine kB hS (A2 hS) T3 T3 3 (.o (.a (decide (d<0))) (.a (decide (1073741824<d)))) ?_;apply kI hS h<;>intro h
 .obtain rfl:=C0 h;exact A8 hS T3 ⟨[(9,pN 2),(8,.vec 9700)],[(9700,.vec B5 4 (Sl.nil:Sl A3).n (fun i=>A9 ((Sl.nil:Sl A3).g i)) true)]⟩ [9700] (ids:=[]) ⟨rfl,rfl,rfl⟩
 refine D7 hS T3 h (fun x3 x4=>⟨[(12,pN x4),(11,.vec 12501),(4,.p (.ptr (A4 l))),(3,pN d),(2,.p (vSl 2 B7 j)),(1,.p (vSl 2 C6 f))],[(12501,.vec B5 4 x3.n (fun i=>A9 (x3.g i)) false)]⟩) (ids:=[]) (fun _ _ _ _ _ q x3 x4 r h=>?_);apply kI hS h<;>intro h
 .refine D7 hS T3 h (fun x7 x8=>⟨[(13,pN x8),(12,pN x4),(11,.vec 12502),(4,.p (.ptr (A4 l))),(3,pN d),(2,.p (vSl 2 B7 j)),(1,.p (vSl 2 C6 f))],[(12502,.vec B5 4 x7.n (fun i=>A9 (x7.g i)) false)]⟩) (ids:=[(12502,12501)]) (fun _ _ _ _ _ s x7 x8 m h=>?_);obtain⟨c74,h⟩:=C7 h;refine D1 hS c74 (b:=decide (x8<((j.g x4.toNat).Forms.n:Int))) (fun c75=>?_) (fun c75=>?_)
  .replace h:=itT c75 h;obtain⟨c76,h⟩:=C7 h;refine Bq0 hS (And.intro (And.intro c76.1 c76.2) (by decide:(2:Nat)<=2)) 15000 [.bb ((j.g x4.toNat).Forms.g x8.toNat).Has,vSl 2 A0 ((j.g x4.toNat).Forms.g x8.toNat).W] ?_;refine C5 hS T3 [1,4,7,8,10,11] ?_;refine AY T3 (b:=!((j.g x4.toNat).Forms.g x8.toNat).Has) (fun c77=>?_) (fun c77=>?_)
   .replace h:=itT c77 h;refine D9 T3 ?_;exact m _ [(12502,12502)] _ x7 (wrap .i64 (x8+1)) T3 h
   replace h:=itF c77 h;obtain⟨c78,h⟩:=C7 h;obtain⟨t,e18,h⟩:=B1 h;refine F8 (And.intro (And.intro (And.intro (by decide:(3:Nat)<=3) c78) (by decide:(2:Nat)<=2)) (by decide:(2:Nat)<=2)) (RQ hS hL e18) ?_;refine D9 T3 ?_;apply kI hS h<;>intro h
   .exact m _ [(12502,12502)] _ x7 (wrap .i64 (x8+1)) T3 h
   refine C5 hS T3 [0,3,4,6] ?_;obtain⟨c80,h⟩:=C7 h;obtain⟨u,e19,h⟩:=B1 h;refine F8 (And.intro (And.intro (by decide:(3:Nat)<=3) c80) (by decide:(2:Nat)<=2)) (Ik hS hL e19) ?_;refine D9 T3 ?_;apply kI hS h<;>intro h
   .obtain⟨c82,h⟩:=C7 h;exact m _ [(12502,83000)] _ (x7.push (⟨x4,x8,2,d⟩:A3)) (wrap .i64 (x8+1)) (And.intro (rfl:true=true) c82) h (hle:=klR [(6,.fn (x7.n+1) (x7.push (⟨x4,x8,2,d⟩:A3)).n (I4 x7.n (fun i=>A9 (x7.g i)) (D0 [pI .i64 0,pI .i64 0,pI .i64 0,pI .i64 0] [(0,A9 (⟨x4,x8,2,d⟩:A3))])) (fun i=>A9 ((x7.push (⟨x4,x8,2,d⟩:A3)).g i)))] (al1 ⟨rfl,W3 (c:=A9) (v:=x7) (x:=(⟨x4,x8,2,d⟩:A3)) (z:=[(pI .i64 0),pI .i64 0,pI .i64 0,pI .i64 0]) same rfl rfl⟩ al0))
   obtain⟨c83,h⟩:=C7 h;exact m _ [(12502,83000)] _ (x7.push (⟨x4,x8,1,d⟩:A3)) (wrap .i64 (x8+1)) (And.intro (rfl:true=true) c83) h (hle:=klR [(6,.fn (x7.n+1) (x7.push (⟨x4,x8,1,d⟩:A3)).n (I4 x7.n (fun i=>A9 (x7.g i)) (D0 [pI .i64 0,pI .i64 0,pI .i64 0,pI .i64 0] [(0,A9 (⟨x4,x8,1,d⟩:A3))])) (fun i=>A9 ((x7.push (⟨x4,x8,1,d⟩:A3)).g i)))] (al1 ⟨rfl,W3 (c:=A9) (v:=x7) (x:=(⟨x4,x8,1,d⟩:A3)) (z:=[(pI .i64 0),pI .i64 0,pI .i64 0,pI .i64 0]) same rfl rfl⟩ al0))
  replace h:=itF c75 h;exact r _ [(12501,12502)] _ x7 (wrap .i64 (x4+1)) T3 h
 obtain rfl:=C0 h;exact A8 hS T3 ⟨[(9,pN 0),(8,.vec 12501)],[(12501,.vec B5 4 x3.n (fun i=>A9 (x3.g i)) true)]⟩ [12501] (ids:=[(12501,12501)]) ⟨rfl,rfl,rfl⟩
def X6 (N:Nat)(a:Sl Entry):Option Int:= P9 N (fun c (x3:Int) (x4:Int)=>if (decide (x4<(a.n:Int))) then P9 N (fun b (x7:Int) (x8:Int)=>if ((0:Int)<=x4/\x4<(a.n:Int))then if (decide (x8<((a.g x4.toNat).Forms.n:Int))) then if (((0:Int)<=x4/\x4<(a.n:Int))/\((0:Int)<=x8/\x8<((a.g x4.toNat).Forms.n:Int)))then if ((a.g x4.toNat).Forms.g x8.toNat).Has then b (wrap .i64 (x7+1)) (wrap .i64 (x8+1)) else b x7 (wrap .i64 (x8+1)) else none else c x7 (wrap .i64 (x4+1)) else none) x3 0 else some x3) 0 0
theorem Aa8 {a:Sl Entry}{y:Int}(h:X6 N a=some y) :FunO S Nu [.p (vSl 2 B7 a)] [] (pN y) ([]) []:=by
 unfold X6 at h;refine A1 hS Tryz.func53 ?_;refine D7 hS T3 h (fun x3 x4=>⟨[(4,pN x4),(3,pN x3),(0,.p (vSl 2 B7 a))],[]⟩) (ids:=[]) (fun _ _ _ _ _ d x3 x4 f h=>?_);apply kI hS h<;>intro h
 .refine D7 hS T3 h (fun x7 x8=>⟨[(5,pN x8),(4,pN x4),(3,pN x7),(0,.p (vSl 2 B7 a))],[]⟩) (ids:=[]) (fun _ _ _ _ _ i x7 x8 c h=>?_);obtain⟨c36,h⟩:=C7 h;refine D1 hS c36 (b:=decide (x8<((a.g x4.toNat).Forms.n:Int))) (fun c37=>?_) (fun c37=>?_)
  .replace h:=itT c37 h;obtain⟨c38,h⟩:=C7 h;refine D1 hS c38 (b:=((a.g x4.toNat).Forms.g x8.toNat).Has) (fun c39=>?_) (fun c39=>?_)
   .replace h:=itT c39 h;exact c _ [] _ (wrap .i64 (x7+1)) (wrap .i64 (x8+1)) T3 h
   replace h:=itF c39 h;exact c _ [] _ x7 (wrap .i64 (x8+1)) T3 h
  replace h:=itF c37 h;exact f _ [] _ x7 (wrap .i64 (x4+1)) T3 h
 cases h;exact kR hS
def AU (N:Nat)(d:A5)(a:Sl E6)(c:Sl Entry):Option (VK×Int):= (Q4 N d a c 0).bind fun y1=>if (y1.2 != 0) then some ((⟨0,0⟩:VK),y1.2) else (X6 N c).bind fun y2=>if (y2==0) then some ((⟨0,1⟩:VK),0) else Zb N (fun b (x1:Int) (x2:Int) (x3:Int)=>if (decide (1<x3)) then if x3≠0 then if (((x2.tmod x3)==0)=true->x3≠0)then if (((x2.tmod x3)==0)&&((x1.tmod x3)==0)) then if (x3≠0/\x3≠0)then b (wrap .i64 (x1.tdiv x3)) (wrap .i64 (x2.tdiv x3)) (wrap .i64 (x3-1)) else none else b x1 x2 (wrap .i64 (x3-1)) else none else none else some ((⟨x2,x1⟩:VK),0)) y2 (wrap .i64 (y2-(y1.1.n:Int))) y2
theorem Bj5 {c:A5}{b:Sl E6}{d:Sl Entry}{y:VK×Int}(h:AU N c b d=some y) :FunO S Al4 [.p (.agg (A4 c)),.p (vSl 2 C6 b),.p (vSl 2 B7 d)] [] (.tup [.p (.agg (BN6 y.1)),pN y.2]) ([]) []:=by
 unfold AU at h;refine A1 hS Tryz.func20 ?_;refine D8 hS T3 6 4000 (A4 c) ?_;obtain⟨y1,e1,h⟩:=B1 h;refine B6 hS [] (by decide:(3:Nat)<=3) (AH4 hS hL e1) ?_;apply kI hS h<;>intro h
 .cases h;exact kR hS
 refine kC hS h (Aa8 hS hL) (fun y2 h=>?_);apply kI hS h<;>intro h
 .cases h;exact kR hS
 refine Cv hS T3 h (fun x1 x2 x3=>⟨[(12,pN x3),(11,pN x2),(10,pN x1),(6,.reg 7000 0)],[(7000,.cells [pN 0,pN 0])]⟩) (ids:=[(7000,7000)]) (fun _ _ _ _ _ g x1 x2 x3 f h=>?_);apply kI hS h<;>intro h
 .obtain⟨c14,h⟩:=C7 h;obtain⟨c15,h⟩:=C7 h;refine kB hS (A2 hS) c14 c15 5 (.n (.a ((x2.tmod x3)==0)) (.a ((x1.tmod x3)==0))) ?_;apply kI hS h<;>intro h
  .refine Ec hS T3 ?_;obtain⟨c17,h⟩:=C7 h;refine D9 c17 ?_;exact f _ [(7000,7000)] _ (wrap .i64 (x1.tdiv x3)) (wrap .i64 (x2.tdiv x3)) (wrap .i64 (x3-1)) T3 h
  exact f _ [(7000,7000)] _ x1 x2 (wrap .i64 (x3-1)) T3 h
 cases h;exact kR hS
end Go.AM
namespace Go.AM
open Go.Proofs
set_option maxRecDepth 10000
set_option maxHeartbeats 2000000
variable {S:W1}(hS:H9 S Tryz.prog) (hL:GD S)
include hS hL
def CP (N:Nat)(c:A5)(a:Sl E6)(d:Sl Entry)(b:Int):Option Bool:= (S8 N c).bind fun y1=>lt (fun (z1:Bool)=>if z1 then (E1 N ).bind fun y4=>some y4 else (G2 N c a d b).bind fun y5=>(Q4 N c a d b).bind fun y6=>(O3 N c a d).bind fun y7=>(AU N c a d).bind fun y8=>(N8 N c a d).bind fun y9=>(Z6 N c a d).bind fun f=>if (y9==f) then if (y5.2==y6.2) then if (y7.2==y8.2) then (FG N y5.1 y6.1).bind fun g=>if g then if (((y7.1.N==y8.1.N)&&(y7.1.D==y8.1.D)) != false) then (E1 N ).bind fun i=>some i else some false else some false else some false else some false else some false) fun k1=>if (!y1) then k1 true else (S9 N a d).bind fun y3=>k1 (!y3)
theorem TO {N:Nat}{d:A5}{a:Sl E6}{f:Sl Entry}{c:Int}{y:Bool}(h:CP N d a f c=some y) :FunO S Fg [.p (.agg (A4 d)),.p (vSl 2 C6 a),.p (vSl 2 B7 f),pN c] [] (pB y) ([]) []:=by
 unfold CP at h;refine A1 hS Tryz.func3 ?_;refine D8 hS T3 8 5000 (A4 d) ?_;obtain⟨y1,e1,h⟩:=B1 h;refine B6 hS [] (by decide:(3:Nat)<=3) (Ek hS hL e1) ?_;refine Ai hS T3 (A2 hS) h 0 (fun z1=>⟨[(25,pB z1),(4,.p (.ptr (A4 d))),(3,pN c),(2,.p (vSl 2 B7 f)),(1,.p (vSl 2 C6 a))],[]⟩) (fun M1 k1 g h=>?_) (fun z1 h=>?_)
 .refine kG hS h (fun h=>?_) (fun h=>?_)
  .exact g _ [] _ true T3 h
  refine kC hS h (El hS hL) (fun y3 h=>?_);exact g _ [] _ (!y3) T3 h
 apply kI hS h<;>intro h
 .refine kC hS h (N0 hS hL) (fun y4 h=>?_);cases h;exact kR hS
 obtain⟨y5,e5,h⟩:=B1 h;refine B6 hS [] (by decide:(3:Nat)<=3) (U6 hS hL e5) ?_;obtain⟨y6,e6,h⟩:=B1 h;refine B6 hS [] (by decide:(3:Nat)<=3) (AH4 hS hL e6) ?_;obtain⟨y7,e7,h⟩:=B1 h;refine B6 hS [] (by decide:(3:Nat)<=3) (Jj hS hL e7) ?_;refine D8 hS T3 14 14000 [pI .i64 y7.1.N,pI .i64 y7.1.D] ?_;obtain⟨y8,e8,h⟩:=B1 h;refine B6 hS [] (by decide:(3:Nat)<=3) (Bj5 hS hL e8) ?_;refine D8 hS T3 16 16000 [pI .i64 y8.1.N,pI .i64 y8.1.D] ?_;refine C5 hS T3 [0,3,4,7,25,26,30] ?_;obtain⟨y9,e9,h⟩:=B1 h;refine F8 (by decide:(3:Nat)<=3) (AS hS hL e9) ?_;obtain⟨i,e10,h⟩:=B1 h;refine F8 (by decide:(3:Nat)<=3) (LF hS hL e10) ?_;refine AY T3 (b:=y9==i) (fun c5=>?_) (fun c5=>?_)
 .replace h:=itT c5 h;refine AY T3 (b:=y5.2==y6.2) (fun c6=>?_) (fun c6=>?_)
  .replace h:=itT c6 h;refine AY T3 (b:=y7.2==y8.2) (fun c7=>?_) (fun c7=>?_)
   .replace h:=itT c7 h;obtain⟨j,e11,h⟩:=B1 h;refine Ac [] T3 (Aj7 hS hL e11) ?_;refine AY T3 (b:=j) (fun c8=>?_) (fun c8=>?_)
    .replace h:=itT c8 h;refine AY (And.intro (And.intro (by decide:(2:Nat)<=2) (by decide:(2:Nat)<=2)) (by decide +kernel:AJ4 Tryz.prog Ro=true)) (b:=((y7.1.N==y8.1.N)&&(y7.1.D==y8.1.D)) != false) (fun c9=>?_) (fun c9=>?_)
     .replace h:=itT c9 h;obtain⟨l,e12,h⟩:=B1 h;refine F8 T3 (N0 hS hL e12) ?_;refine D9 T3 ?_;cases h;exact kR hS
     replace h:=itF c9 h;refine D9 T3 ?_;cases h;exact kR hS
    replace h:=itF c8 h;refine D9 T3 ?_;cases h;exact kR hS
   replace h:=itF c7 h;refine D9 T3 ?_;cases h;exact kR hS
  replace h:=itF c6 h;refine D9 T3 ?_;cases h;exact kR hS
 replace h:=itF c5 h;refine D9 T3 ?_;cases h;exact kR hS
end Go.AM
namespace Go.AM
open Go.Proofs
def Bj6 {α : Type}{s t:Sl α}(h:s.toList=t.toList):s.n=t.n/\∀i,i<s.n->s.g i=t.g i:=by
 have hn:s.n=t.n:=by rw[<- W2 s,<- W2 t,h]
 refine⟨hn,fun i a=>?_⟩
 have:=congrArg (fun l=>l[i]?) h
 simpa[Sl.toList,a,hn ▸ a]using this
end Go.AM
namespace Go.AM
open IntKind (wrap)
open Go.Proofs
def AH5 {N:Nat}(m:3000000<=N){l:Sl Entry}(hn:l.n<900)(W:Nat->Int)(j:∀i,i<l.n->H2 N (l.g i).Forms=some (W i))(w0:Int) :P9 N (fun (a:Int->Int->Option Int) (x7:Int) (x8:Int)=>
  if ((decide (x8<(l.n:Int)))&&(x7==0)) then
   if ((0:Int)<=x8/\x8<(l.n:Int))then
    (H2 N (l.g x8.toNat).Forms).bind fun d=>
    a d (wrap .i64 (x8+1))
   else none
  else
   some x7
  ) w0 0=some (orE w0 (GV W l.n)):=by
 refine eqR (N4 (fun i x7 x8=>x8=(i:Int)/\((x7=0/\w0=0/\GV W i=0) \/ (x7≠0/\x7=orE w0 (GV W l.n)))) l.n _ (by omega) ⟨rfl,?_⟩ ?_)
 .by_cases h:w0=0
  .exact .inl ⟨h,h,rfl⟩
  exact .inr ⟨h,(HY h).symm⟩
 rintro f i x7 x8 hle ⟨rfl,h⟩ hs;rcases h with⟨rfl,b,h1⟩ | ⟨b,h1⟩
 .by_cases hl:i<l.n
  .refine ifT (by simpa using hl) (Ab ?_);rw[Cl2,Cl];refine B4 (j i hl) (hs hl _ _ ⟨rfl,?_⟩);have e:=Ht h1;by_cases c:W i=0
   .exact .inl ⟨c,b,by rw[e];exact c⟩
   exact .inr ⟨c,by rw[DC b,EX (i:=i+1) (by rw[e];exact c) l.n hl,e]⟩
  obtain rfl:i=l.n:=by omega
  exact Ci ⟨_,rfl,by rw[DC b,h1]⟩
 exact ifF (by simp[b]) ⟨_,rfl,h1⟩
end Go.AM
namespace Go.AM
open IntKind (wrap)
open Go.Proofs
def DI {N:Nat}(q:3000000<=N){h:A5}(t:I6 h){p:Sl E6}{l:Sl Entry}(hp:K0 p)(hl:S3 l):Z6 N h p l=some (UV N h p l):=by
 unfold Z6 UV;rw[Qj q t,Cl3];by_cases j:hres N h=0
 case neg=>rw[Il (show (hres N h != 0)=true by simpa using j),Il j]
 rw[Ix (show ¬(hres N h != 0)=true by simp[j]),Ix (show ¬hres N h≠0 from fun g=>g j)];have m:=hres_zero.1 j;have u:=Cq m.tree;by_cases d:256<l.n
 .rw[Il (show (decide (256<(l.n:Int)))=true by simp;omega),Il d]
 rw[Ix (show ¬(decide (256<(l.n:Int)))=true by simp;omega),Ix d,(Gk q t.tree m.tree).2,Cl3];by_cases f:p.n=l.n
 case neg=>rw[Il (.inl f)];exact Cx
 have hc:¬((p.n:Int) != (l.n:Int))=true:=by simp[f]
 rw[Dg (by omega) (by omega)];by_cases o:emp p
 .rw[Il (.inr o),Tc o];exact Ix hc
 rw[Ix (fun g=>g.elim (fun e=>e f) o),Tb o];refine (Ix hc).trans ?_;rw[Cl3];refine (Ix (by decide)).trans ?_;unfold Ca0;have step:=fun (a:Option Int) (i:Nat)=>UU (l:=l) (i:=i) (show (F7 h.Tree h.Tree.n).n<900 by omega) (fun h=>Dg (N:=N) (s:=(l.g i).Forms) (by omega) (by omega)) a;have ent:∀(i:Nat) (a:Int->Option Int),i<l.n->(lt (fun (z4:Bool)=>
  if z4 then
   some (2:Int)
  else
   a (wrap .i64 ((i:Int)+1))
  ) fun k4=>
  if (((l.g i).Forms.n:Int) != (((F7 h.Tree h.Tree.n).n:Nat):Int)) then
   k4 true
  else
   if ((0:Int)<=(i:Int)/\(i:Int)<(l.n:Int))then
    (I7 N (l.g i).Forms).bind fun r=>
    k4 (!r)
   else none)=if e2 l (F7 h.Tree h.Tree.n).n i≠0 then some (e2 l (F7 h.Tree h.Tree.n).n i)else a (wrap .i64 ((i:Int)+1)):=fun i a b=>by
  rw[<- step];unfold lt;dsimp only;rw[Il (show (0:Int)<=(i:Int)/\(i:Int)<(l.n:Int) by omega)]
 refine BJ0 (by omega) ?_ ?_ ?_
 .intro a i b c;rw[Il (by simpa using b),Cw,Cl2,ent i a b,Il c]
 .intro a i b c;rw[Il (by simpa using b),Cw,Cl2,ent i a b,Ix (fun g=>g c),Cl]
 intro a g1;rw[Ic];refine AS7 (by omega) ?_ ?_ ?_
 .intro a i b c;rw[Il (by simpa using b),Cw,Cl2,GU (by have:=(hl i b).2;omega) (by have:=(hl i b).2;omega),Cl3];unfold e15 at c⊢;by_cases h:Fd (l.g i).Gloss=true
  .exact Kh (Il h) c
  rw[Il (by simpa using h),Ix h]
 .intro a i b c;rw[Il (by simpa using b),Cw,Cl2,GU (by have:=(hl i b).2;omega) (by have:=(hl i b).2;omega),Cl3];unfold e15 at c;by_cases h:Fd (l.g i).Gloss=true
  .rw[Ix (by simp[h]),Cl]
  rw[Ix h]at c;cases c
 intro a;rw[Ic,(BA (by omega) (by omega) hp).2,Cl3];exact AH5 q (by omega) (fun i=>wsE N (l.g i).Forms) (fun i b=>(BA (by omega) (by have:=(WG (AD g1 i b)).1;omega) (hl i b).1).2) (wsE N p)
end Go.AM
namespace Go.AM
open Go.Proofs
def AH6 {N:Nat}{l:Sl Entry}(o:1000000<=N)(hn:l.n<1000)(d:∀i,i<l.n->(l.g i).Forms.n<1000):X6 N l=some ((DT l).length:Int):=by
 refine eqR ?_;unfold X6;refine N4 (fun i x3 x4=>x4=(i:Int)/\x3=((CN l i).length:Int)) l.n _ (by omega) ⟨rfl,rfl⟩ ?_;rintro f i x3 x4 q ⟨rfl,rfl⟩ hs;by_cases hl:i<l.n
 .refine Ax ?_;have m:=d i hl;have r:(CN l i).length<=i*1000:=GW i fun j s=>by have:=d j (by omega);omega
  refine N4 (fun k x7 x8=>x8=(k:Int)/\x7=(((CN l i).length+(attR l i k).length:Nat):Int)) (l.g i).Forms.n _ (by omega) ⟨rfl,rfl⟩ ?_;rintro c k x7 x8 hk ⟨rfl,rfl⟩ a;have hR:=Fy l i k;refine Ab ?_;rw[Cl2];by_cases b:k<(l.g i).Forms.n
  .refine Ax (Ab ?_);rw[Cl2];have e:=Qk l i k;by_cases h:((l.g i).Forms.g k).Has=true
   .rw[Il h]at e;refine ifT h (a b _ _ ⟨Cl,?_⟩);rw[Cl,e,Cm0];rfl
   rw[Ix h,Cn0]at e;exact ifF h (a b _ _ ⟨Cl,by rw[e]⟩)
  obtain rfl:k=(l.g i).Forms.n:=by omega
  refine Ci (hs hl _ _ ⟨Cl,?_⟩);rw[Gl,Cm0]
 obtain rfl:i=l.n:=by omega
 exact Ci ⟨_,rfl,rfl⟩
end Go.AM
namespace Go.AM
open IntKind (wrap)
open Go.Proofs
def Au5 {N:Nat}(hN:3000000<=N){h:A5}(hi:I6 h){p:Sl E6}{l:Sl Entry}(hp:K0 p)(hl:S3 l)(ha:attOk N h p l){c:Int}(hc:0<=c/\c<=1073741824) :∃b,Q4 N h p l c=some (b,0)/\b.toList=GX N h p l c:=by
 suffices ∃r,Q4 N h p l c=some r/\(r.2=0/\r.1.toList=GX N h p l c) by obtain⟨⟨b,e⟩,r1,r2,r3⟩:=this;obtain rfl:e=0:=r2;exact⟨b,r1,r3⟩
 have hlen:=ha.len;have h63:=Cq ha.hist.tree;have hln:=ha.n;have hpn:=ha.pn;unfold Q4;refine B4 (DI hN hi hp hl) ?_;rw[(Cr (by omega) hp hl).2 ha];refine Ck (Bm ?_);refine N4 (fun i (z:Sl A3) x=>x=(i:Int)/\z.toList=(CN l i).filterMap (exc N h p l c)/\z.n<=(CN l i).length) l.n _ (by omega) ⟨rfl,rfl,Cl9 _⟩ ?_;rintro self i z x hii ⟨rfl,o,q⟩ hs;by_cases v:i<l.n
 case neg=>
  obtain rfl:i=l.n:=by omega
  exact Ci ⟨_,rfl,rfl,o⟩
 have hfi:=ha.fn i v;have hU:(CN l i).length<=i*63:=GW i fun j hj=>by rw[ha.fn j (by omega)];exact h63
 refine Ax ?_;refine N4 (fun k (z:Sl A3) x=>x=(k:Int)/\z.toList=(CN l i++attR l i k).filterMap (exc N h p l c)/\z.n<=(CN l i).length+(attR l i k).length) (l.g i).Forms.n _ (by omega) ⟨rfl,by rw[o];simp[attR],by show z.n<=_+0;omega⟩ ?_;rintro a k z x hk ⟨rfl,o,q⟩ s;have hR:=Fy l i k;refine Ab ?_;rw[Cl2];by_cases t:k<(l.g i).Forms.n
 case neg=>
  obtain rfl:k=(l.g i).Forms.n:=by omega
  refine Ci (hs v _ _ ⟨Cl,by rw[Gl];exact o,by rw[Gl,Cm0];exact q⟩)
 refine Ax (Ab ?_);rw[Cl2];have e:=Qk l i k;by_cases hh:((l.g i).Forms.g k).Has=true
 case neg=>rw[Ix hh,Cn0]at e;exact ifT (by simpa using hh) (s t _ _ ⟨Cl,by rw[e];exact o,by rw[e];exact q⟩)
 rw[Il hh]at e;have w:k<(F7 h.Tree h.Tree.n).n:=by omega
 obtain⟨b,b1,b2⟩:=EW hN hi ha.hist (x:=-1) (p:=p.g i) (f:=(l.g i).Forms.g k) (fun _=>ha.pw i (by omega)) w;have u:exc N h p l c (i,k)=none->∃y,a z (wrap .i64 ((k:Int)+1))=some y/\(y.2=0/\y.1.toList=GX N h p l c):=fun he=>
  s t _ _ ⟨Cl,by rw[e,<- Cn9];exact AS8 o he,by rw[e,Cm0];omega⟩
 have m:∀x,exc N h p l c (i,k)=some x->∃y,a (z.push x) (wrap .i64 ((k:Int)+1))=some y/\(y.2=0/\y.1.toList=GX N h p l c):=fun x he=>
  s t _ _ ⟨Cl,by rw[e,<- Cn9];exact At6 o he,by rw[e,Cm0];show z.n+1<=_+(_+1);omega⟩
 refine ifF (by simp[hh]) (Ab (B4 b1 ?_));cases b with
 |true=>exact ifT rfl (u (Hu (b2.1 rfl)))
 |false=>
  obtain⟨d,d1,d2⟩:=Ld hN hi ha.hist (x:=-1) (p:=p.g i) (fun _=>ha.pw i (by omega)) w;refine Ck (Ab (B4 d1 ?_));have hb:(z.n+1)*32<=140737488355328/\z.n+1<=140737488355328:=by omega
  rcases d2 with⟨y,g1,g2,_⟩ | ⟨g1,g2⟩
  .refine ifF (by simp[g2]) (ifT hb (m _ (Nt (fun hr=>by have:=b2.2 hr;cases this) ?_)));show DF N h (Y5 h k) (-1) (p.g i)≠none;unfold Y5;rw[g1];exact fun e=>by cases e
  exact ifT (by simp[g2]) (ifT hb (m _ (DD g1)))
def Xp {N:Nat}(a:3000000<=N){h:A5}(d:I6 h){p:Sl E6}{l:Sl Entry}(hp:K0 p)(hl:S3 l)(c:Int) :∃r r',G2 N h p l c=some r/\Q4 N h p l c=some r' /\ r.2=r'.2/\r.1.toList=r'.1.toList/\(r.2=0↔(attOk N h p l/\0<=c/\c<=1073741824))/\(r.2=0->r.1.toList=GX N h p l c)/\(r.2≠0->r.1.n=0):=by
 by_cases ha:attOk N h p l
 .by_cases hc:0<=c/\c<=1073741824
  .obtain⟨b,b1,b2⟩:=GY a d hp hl ha hc;obtain⟨b',b1',b2'⟩:=Au5 a d hp hl ha hc;exact⟨_,_,b1,b1',rfl,b2.trans b2'.symm,⟨fun _=>⟨ha,hc⟩,fun _=>rfl⟩,fun _=>b2,fun f=>Kh rfl f⟩
  have hb:((decide (c<0))||(decide (1073741824<c)))=true:=by simp;omega
  refine⟨((Sl.nil:Sl A3),2),((Sl.nil:Sl A3),2),?_,?_,rfl,rfl,⟨fun f=>(by cases f),fun f=>Kh f.2 hc⟩,fun f=>(by cases f),fun _=>rfl⟩
  .unfold G2;rw[W7 a d hp hl,(Cr (by omega) hp hl).2 ha,Cl3,Ix (by decide),Il hb]
  unfold Q4;rw[DI a d hp hl,(Cr (by omega) hp hl).2 ha,Cl3,Ix (by decide),Il hb]
 have i:UV N h p l≠0:=fun e=>ha ((Cr (by omega) hp hl).1 e);have g:(UV N h p l != 0)=true:=by simpa using i
 refine⟨((Sl.nil:Sl A3),UV N h p l),((Sl.nil:Sl A3),UV N h p l),?_,?_,rfl,rfl,⟨fun f=>Kh f i,fun f=>Kh f.1 ha⟩,fun f=>Kh f i,fun _=>rfl⟩
 .unfold G2;rw[W7 a d hp hl,Cl3,Il g]
 unfold Q4;rw[DI a d hp hl,Cl3,Il g]
end Go.AM
namespace Go.AM
open IntKind (wrap)
open Go.Proofs
def BP5 (a b:Nat):(a:Int).tmod (b:Int)=((a % b:Nat):Int):=rfl
def Bb5 (a b:Nat):(a:Int).tdiv (b:Int)=((a / b:Nat):Int):=rfl
def Qu {n:Nat}(h:n<1000000000000000000):IntKind.i64.wrap (n:Int)=(n:Int):=E8 (by omega) (by omega)
def Xq {R:Type}{K:Int->Option R}:∀(m a b M:Nat),b<=m->m+1<M->P9 M (fun (c:Int->Int->Option R) (x3:Int) (x4:Int)=>
 if (x4 != 0) then
  if x4≠0 then
   c x4 (x3.tmod x4)
  else none
 else K x3) (a:Int) (b:Int)=K ((Nat.gcd a b:Nat):Int)
 |0,a,b,M,hb,hM=>by
  obtain⟨M,rfl⟩:∃K,M=K+1:=⟨M-1,by omega⟩;obtain rfl:b=0:=by omega
  rw[F9,Ic,CE2]
 |m+1,a,b,M,hb,hM=>by
  obtain⟨M,rfl⟩:∃K,M=K+1:=⟨M-1,by omega⟩;by_cases d:b=0
  .subst d;rw[F9,Ic,CE2]
  have f:=CL0 a (show 0<b by omega);rw[F9,Cx,Cw,BP5,Xq m b (a % b) M (by omega) (by omega),CH3 a b,Nat.gcd_rec b a,CH3]
def Qv (x n:Nat):(((n:Int).tmod (x:Int))==0)=true↔x ∣ n:=by
 rw[BP5,beq_iff_eq];constructor
 .intro h;exact CK2 (by omega)
 intro h;rw[CK4 h];rfl
def AT4 {N a b:Nat}(ha:1<=a)(hb:b<=a)(v:a<N)(hs:a<100000):Zb N (fun (f:Int->Int->Int->Option (VK×Int)) (x1:Int) (x2:Int) (x3:Int)=>
 if (decide (1<x3)) then
  if x3≠0 then
   if (((x2.tmod x3)==0)=true->x3≠0)then
    if (((x2.tmod x3)==0)&&((x1.tmod x3)==0)) then
     if (x3≠0/\x3≠0)then
      f (wrap .i64 (x1.tdiv x3)) (wrap .i64 (x2.tdiv x3)) (wrap .i64 (x3-1))
     else none
    else
     f x1 x2 (wrap .i64 (x3-1))
   else none
  else none
 else
  some ((⟨x2,x1⟩:VK),0)
 ) (a:Int) (b:Int) (a:Int)=some (⟨((b / Nat.gcd a b:Nat):Int),((a / Nat.gcd a b:Nat):Int)⟩,0):=by
 have l:0<Nat.gcd a b:=Cy4 b (by omega);have j:=CJ4 a b;have m:=CI3 a b;have o:Nat.gcd a b<=a:=CC3 (by omega) j;generalize s:Nat.gcd a b=g at *;refine eqR (KU (fun i x1 x2 x3=>∃n d x:Nat,x1=(d:Int)/\x2=(n:Int)/\x3=(x:Int)/\x+i=a/\n<=a/\d<=a/\((n=b/\d=a/\g<=x) \/ (n=b / g/\d=a / g))) a _ v ⟨b,a,a,rfl,rfl,rfl,by omega,hb,Cl9 _,.inl ⟨rfl,rfl,o⟩⟩ ?_);rintro t i x1 x2 x3 hi ⟨n,d,x,rfl,rfl,rfl,hx,hn,w,hc⟩ q;by_cases h1:1<x
 case neg=>
  refine Bm ⟨_,rfl,?_⟩;rcases hc with⟨rfl,rfl,r⟩ | ⟨rfl,rfl⟩
  .obtain rfl:g=1:=by omega
   rw[CG3,CG3]
  rfl
 refine Ax (Ab (ifT (fun _=>by omega) ?_));have e1:IntKind.i64.wrap ((x:Int)-1)=((x-1:Nat):Int):=BW8 (by omega) (by omega);rw[e1];by_cases c:x ∣ n/\x ∣ d
 .refine ifT (by rw[Cl8];exact⟨(Qv x n).2 c.1,(Qv x d).2 c.2⟩) (Ab ?_);have y:=Cx1 n x;have z:=Cx1 d x;rw[Bb5,Bb5,Qu (by omega),Qu (by omega)];refine q (by omega) _ _ _ ⟨n / x,d / x,x-1,rfl,rfl,rfl,by omega,by omega,by omega,.inr ?_⟩;rcases hc with⟨rfl,rfl,r⟩ | ⟨rfl,rfl⟩
  .have:x ∣ g:=by rw[<- s];exact CI8 c.2 c.1
   have:=CC3 l this
   obtain rfl:x=g:=by omega
   exact⟨rfl,rfl⟩
  exfalso;have u:x ∣ Nat.gcd (a / g) (b / g):=CI8 c.2 c.1;rw[Dd5 j m,s,CX7 l]at u
  have:=CC3 (by omega) u
  omega
 refine ifF (fun h=>c ?_) (q (by omega) _ _ _ ⟨n,d,x-1,rfl,rfl,rfl,by omega,hn,w,?_⟩)
 .rw[Cl8]at h;exact⟨(Qv x n).1 h.1,(Qv x d).1 h.2⟩
 rcases hc with⟨rfl,rfl,r⟩ | h
 .refine .inl ⟨rfl,rfl,?_⟩;by_cases e:g=x
  .subst e;exact Kh ⟨m,j⟩ c
  omega
 exact .inr h
def Qw (A B:Nat):VK:=if A=0 then ⟨0,1⟩else ⟨(((A-B) / Nat.gcd A (A-B):Nat):Int),((A / Nat.gcd A (A-B):Nat):Int)⟩
def Td {R:Type}{K:Int->Option R}:∀(L:List (Bd×Sl To)) (z:Nat),z+L.length<1000000->Q5 L (fun (a:Int->Option R) (x1:Bd×(Sl To)) (z1:Int)=>a (wrap .i64 (z1+1))) K (z:Int)=K ((z+L.length:Nat):Int)
 |[],z,_=>rfl
 |t::L,z,h=>by have e:(t::L).length=L.length+1:=rfl;show Q5 L _ K (wrap .i64 ((z:Int)+1))=_;rw[Cl,Td L (z+1) (by omega)];congr 2;omega
def AH7 {N:Nat}(v:3000000<=N){h:A5}(o:I6 h){p:Sl E6}{l:Sl Entry}(hp:K0 p)(hl:S3 l) :∃r,O3 N h p l=some r/\AU N h p l=some r/\(r.2=0↔attOk N h p l)/\(r.2=0->r.1=Qw (DT l).length (GX N h p l 0).length):=by
 obtain⟨b,b',b1,b1',b2,b3,b4,b5,b6⟩:=Xp v o hp hl 0;by_cases a:b.2=0
 case neg=>
  have g:(b.2 != 0)=true:=by simpa using a
  have j : (b'.2 != 0)=true:=by rw[<- b2];exact g
  refine⟨((⟨0,0⟩:VK),b.2),?_,?_,⟨fun f=>Kh f a,fun f=>Kh (b4.2 ⟨f,by omega,by omega⟩) a⟩,fun f=>Kh f a⟩
  .unfold O3;rw[b1,Cl3,Il g]
  unfold AU;rw[b1',Cl3,Il j,b2]
 have ha:=(b4.1 a).1;have w:=ha.len;have x:¬(b.2 != 0)=true:=by simp[a]
 have q : ¬(b'.2 != 0)=true:=by simp[<- b2,a]
 have s:b.1.n=(GX N h p l 0).length:=by rw[<- b5 a,W2]
 have m : b'.1.n=(GX N h p l 0).length:=by rw[<- b5 a,b3,W2]
 have hle:=Fz (N:=N) (h:=h) (p:=p) (l:=l) (c:=0);have y:=Cq ha.hist.tree;have t:=AH6 (N:=N) (l:=l) (by omega) (by have:=ha.n;omega) fun i o=>by rw[ha.fn i o];omega
 have u:=AG6 v ha;refine⟨(Qw (DT l).length (GX N h p l 0).length,0),?_,?_,⟨fun _=>ha,fun _=>rfl⟩,fun _=>rfl⟩
 .unfold O3;rw[b1,Cl3,Ix x];show ((F2 N l).bind fun L1=>_)=_;rw[u,Cl3];refine (Td ((DT l).map (Bk8 l)) 0 (by rw[Cp3];omega)).trans ?_;rw[Cp3,Cp5];generalize (DT l).length=A at *;unfold Qw;by_cases d:A=0
  .rw[Il (by simp[d]),Il d]
  rw[Fq,Ix d,s];generalize (GX N h p l 0).length=B at *;have e1:IntKind.i64.wrap ((A:Int)-(B:Int))=((A-B:Nat):Int):=by rw[E8 (by omega) (by omega)];omega
  rw[e1,Xq A A (A-B) N (by omega) (by omega)];have z:0<Nat.gcd A (A-B):=Cy4 _ (by omega);have d1:=Cx1 (A-B) (Nat.gcd A (A-B));have d2:=Cx1 A (Nat.gcd A (A-B));rw[Cw,Bb5,Bb5,Qu (by omega),Qu (by omega)]
 unfold AU;rw[b1',Cl3,Ix q,t,Cl3];generalize (DT l).length=A at *;unfold Qw;by_cases d:A=0
 .rw[Il (by simp[d]),Il d]
 rw[Fq,Ix d,m];generalize (GX N h p l 0).length=B at *;have e1:IntKind.i64.wrap ((A:Int)-(B:Int))=((A-B:Nat):Int):=by rw[E8 (by omega) (by omega)];omega
 rw[e1];exact AT4 (by omega) (by omega) (by omega) (by omega)
end Go.AM
namespace Go.AM
variable {N:Nat}
open Go.Proofs
def Bx8 {a b:Sl A3}(f:a.n<N)(hs:a.n<1000000000)(h:a.toList=b.toList):FG N a b=some true:=by
 obtain⟨h1,g⟩:=Bj6 h;refine eqR ?_;unfold FG;refine ifF (by simp[h1]) ?_;refine Aq (fun i x=>x=(i:Int)) a.n _ f rfl ?_;rintro d i x j rfl c;by_cases hl:i<a.n
 .refine Ax (Ab ?_);rw[Cl2,g i hl];exact Ci (c hl _ (Cl))
 exact Bm ⟨_,rfl,rfl⟩
def AH8 (a:3000000<=N)(hw:E1 N=some true)(h:A5)(p:Sl E6)(l:Sl Entry){K:Option Bool}(f:K=some true) :∃r,((S8 N h).bind fun y1=>lt (fun (z1:Bool)=>if z1 then (E1 N ).bind fun y4=>some y4 else K) fun k1=>if (!y1) then k1 true else (S9 N p l).bind fun y3=>k1 (!y3))=some r/\r=true:=by
 obtain⟨b,b1,_⟩:=HZ a h;obtain⟨c,c1,_⟩:=Ia a p l;refine B4 b1 (ltX ?_);have d:∀z:Bool,∃r,(if z then (E1 N ).bind fun y4=>some y4 else K)=some r/\r=true:=fun z=>by
  cases z
  .exact Ck ⟨_,f,rfl⟩
  exact ifT rfl (B4 hw ⟨_,rfl,rfl⟩)
 by_cases g1:(!b)=true
 .exact ifT g1 (d _)
 exact ifF g1 (B4 c1 (d _))
def Aa9 (a:3000000<=N)(hw:E1 N=some true){h:A5}(d:I6 h){p:Sl E6}{l:Sl Entry}(hp:K0 p)(hl:S3 l)(c:Int):CP N h p l c=some true:=by
 refine eqR ?_;unfold CP;refine AH8 a hw h p l (eqR ?_);obtain⟨b,b',b1,b1',b2,b3,b4,b5,b6⟩:=Xp a d hp hl c;obtain⟨r,r1,r2,_⟩:=AH7 a d hp hl;have hn:b.1.n<=16128:=by
  by_cases f:b.2=0
  .have ha:=(b4.1 f).1
   have:=ha.len
   have:=Fz (N:=N) (h:=h) (p:=p) (l:=l) (c:=c)
   have:=b5 f
   have e:b.1.n=(GX N h p l c).length:=by rw[<- b5 f,W2]
   omega
  have:=b6 f;omega
 exact B4 b1 (B4 b1' (B4 r1 (B4 r2 (B4 (W7 a d hp hl) (B4 (DI a d hp hl) (Ay (ifT (by simp[b2]) (Ay (B4 (Bx8 (by omega) (by omega) b3) (ifT rfl (Ay (B4 hw ⟨_,rfl,rfl⟩))))))))))))
end Go.AM
namespace Go.AM
open Go.RowKit Go.ChangeShapes Go.WideShapes Go.ChangeAt Go.Deep Go.Proofs Go.Proofs.YtlbooedblpdmaaaGreatDoor
namespace AtBads
set_option maxRecDepth 100000
def contract (H:Type)(enc:TypeId×Value->H)(W:World)(base:Nat)(args:Array Value)(ds gs:List (DataW H))(before:List MemPlace)
 (a:∀(j:Nat) t v,Tryz.f3.params[j]? = some t->args[j]? = some v->Value.okWide Tryz.prog W .any base t v)
 (w:DataW.Whole enc Tryz.prog Tryz.f3.params.toList Rows.attestBadsSpec.vars false W args.toList ds gs before) (hk:Rows.uptoSmall H (ds++gs)=true) (hL:laidMetH Tryz.prog Rows.attestBadsUptoRow.laid W) :
 Calls Tryz.prog 3 args W fun e W'=>∃v,e=.returned v/\Rows.attestBadsSpec.post enc Tryz.prog Tryz.f3 false true false false W args v W':=by
 have f:=w;obtain⟨p,q,l,y,rfl,z,a0⟩:=w;have x:DataW.TrodAll enc Tryz.prog W 0 (fun _=>true) true Tryz.f3.params.toList args.toList ds p:=l;rw[CX9]at x a;obtain⟨v0,vs0,d0,ds0,p0,q0,m,rfl,rfl,h0,r0⟩:=trodAll_cons x;obtain⟨v1,vs1,d1,ds1,p1,q1,rfl,rfl,rfl,h1,r1⟩:=trodAll_cons r0;obtain⟨v2,vs2,d2,ds2,p2,q2,rfl,rfl,rfl,h2,r2⟩:=trodAll_cons r1;obtain⟨v3,vs3,d3,ds3,p3,q3,rfl,rfl,rfl,h3,r3⟩:=trodAll_cons r2;obtain⟨rfl,rfl,rfl⟩:=trodAll_nil r3;obtain rfl:args = #[v0,v1,v2,v3]:=by cases args;simp_all
 obtain⟨rfl,rfl⟩:=trodVars_none y;have hb:=of_decide_eq_true hk;simp only[Cn0,Rows.uptoBulkAll]at hb;obtain⟨cs0,c,_⟩:=okWide_struct Cy7 (a 0 26 v0 rfl rfl);obtain⟨a1,len1,cap1,o⟩:=okWide_slice Cs8 (a 1 27 v1 rfl rfl);obtain⟨a2,len2,cap2,r⟩:=okWide_slice Ct6 (a 2 28 v2 rfl rfl);obtain⟨_,s⟩:=okWide_int CJ6 (a 3 2 v3 rfl rfl);obtain⟨fu0,g0⟩:=h0;obtain⟨fu1,g1⟩:=h1;obtain⟨fu2,g2⟩:=h2;obtain⟨fu3,g3⟩:=h3;have d:SJ Tryz.prog [26,22,112,3,9,23,90,87,72,70,4,85,51,88,142,24,43,27,68,28,49,2]=true:=by kernel_rfl
 have b:∀t∈([26,22,112,3,9,23,90,87,72,70,4,85,51,88,142,24,43,27,68,28,49,2]:List Nat),t<Tryz.prog.types.size:=by decide +kernel
 obtain⟨pv0,c0,sh0⟩:=I1 GG GH d b fu0 26 _ _ (by simp) g0;obtain⟨x0,l0,w0,s0⟩:=Ca _ _ sh0;have s0:AT x0<=Rows.uptoBulk d0:=s0;have e0:=c0.leD l0;rw[c]at e0;have e0:=OL e0;rw[<- c]at e0;obtain⟨pv1,c1,sh1⟩:=I1 GG GH d b fu1 27 _ _ (by simp) g1;obtain⟨x1,l1,w1,s1⟩:=H1 Cs8 (by kernel_rfl) FH _ _ sh1;have s1:(EK (fun i=>Gp (x1.g i)) x1.n+1)<=Rows.uptoBulk d1:=s1;have e1:=CU (by rw[o];rfl) (c1.leD l1);obtain⟨pv2,c2,sh2⟩:=I1 GG GH d b fu2 28 _ _ (by simp) g2;obtain⟨x2,l2,w2,s2⟩:=H1 Ct6 (by kernel_rfl) Eo _ _ sh2;have s2:(EK (fun i=>Ar (x2.g i)) x2.n+1)<=Rows.uptoBulk d2:=s2;have e2:=CU (by rw[r];rfl) (c2.leD l2);obtain⟨pv3,c3,sh3⟩:=I1 GG GH d b fu3 2 _ _ (by simp) g3;obtain⟨x3,l3,w3,s3⟩:=N9 CJ6 _ _ sh3;have s3:1<=Rows.uptoBulk d3:=s3;have e3:=CU (by rw[s];rfl) (c3.leD l3);have hP:FunO (Jw Tryz.prog) Fg [.p (.agg (A4 x0)),.p (vSl 2 C6 x1),.p (vSl 2 B7 x2),.p (pI .i64 x3)] [] (.p (.bb true)) [] []:=
  TO (BB9 _) Ca4 (Aa9 (N:=4194304) (by omega) Em (Ib w0 (by omega)) (Ep w1) (Lg w2 (by omega)) x3)
 have hc:=Ah (args:=[.agg (A4 x0),vSl 2 C6 x1,vSl 2 B7 x2,pI .i64 x3]) (enters_of Tryz.func3 (by decide +kernel) rfl) hP (W:=W) (vs:=#[v0,v1,v2,v3]) (OM hL) rfl (fun i hi=>by
  match i,hi with
  |0,_=>exact e0
  |1,_=>exact e1
  |2,_=>exact e2
  |3,_=>exact e3
  )
 refine hc.mono fun e W' ⟨he,u⟩=>?_;subst he;exact⟨_,rfl,IP rfl (by kernel_rfl) Cs7 (by kernel_rfl) (by rw[CX9];decide +kernel) f rfl u⟩
def own:ownKnob Tryz.prog.godebug=none:=by kernel_rfl
def reads (os:Os){H:Type}(enc:TypeId×Value->H):∃places,DataW.whole enc Tryz.prog ((World.laidAll Tryz.prog os Rows.attestBadsUptoRow.laid).forCall (fun _ _=>0) ⟨#[],#[.agg #[.slice none 0 0,.slice none 0 0,.slice none 0 0],.slice none 0 0,.slice none 0 0,.int .i64 0],[]⟩).memory Tryz.f3.params.toList Rows.attestBadsSpec.vars false (#[.agg #[.slice none 0 0,.slice none 0 0,.slice none 0 0],.slice none 0 0,.slice none 0 0,.int .i64 0]:Array Value).toList 16=some ([.agg [.nil,.nil,.nil],.nil,.nil,.lit (.int .i64 0)],[],places):=
 ⟨[],by kernel_rfl⟩
def laid_met (os:Os):laidMet Tryz.prog Rows.attestBadsUptoRow.laid ((World.laidAll Tryz.prog os Rows.attestBadsUptoRow.laid).forCall (fun _ _=>0) ⟨#[],#[.agg #[.slice none 0 0,.slice none 0 0,.slice none 0 0],.slice none 0 0,.slice none 0 0,.int .i64 0],[]⟩).memory:=
 laidMet_laidAll _ (by kernel_rfl) (by kernel_rfl)
def liftedUpto (os:Os)(started:os.Started)(H:Type)(enc:TypeId×Value->H)(F:Stop.Interp) :ReturnsInHanded {} Tryz.checked os 3 .any ((Rows.OpenSpec.upto Rows.attestBadsSpec).preRow enc Tryz.prog Tryz.f3 Rows.attestBadsUptoRow.domain false Rows.attestBadsUptoRow.laid) (((Rows.OpenSpec.upto Rows.attestBadsSpec).at F).post enc Tryz.prog Tryz.f3 false true false false):=by
 obtain⟨places,hx⟩:=reads os enc;refine returnsInHanded_of_row (C:=Tryz.checked) (s:=Rows.OpenSpec.upto Rows.attestBadsSpec) own started (by kernel_rfl) Tryz.func3
  (witness_row_at (enc:=enc) (C:=Tryz.checked) false (World.laidAll Tryz.prog os Rows.attestBadsUptoRow.laid) #[.agg #[.slice none 0 0,.slice none 0 0,.slice none 0 0],.slice none 0 0,.slice none 0 0,.int .i64 0] (World.laidAll_os _ _ _) (by kernel_rfl) (by kernel_rfl) (by kernel_rfl)
   (Cu1 16 hx (by kernel_rfl) (fun k hk=>by cases hk;kernel_rfl) (by kernel_rfl) (laid_met os))) ?_
 intro W base args ds gs before b c _ a _ hL _ _;exact contract H enc W base args ds gs before b c (a _ rfl) hL
def gA:jA_ Tryz.pinned.checked.prog 3 Tryz.f3 (Rows.OpenSpec.upto Rows.attestBadsSpec).bare Rows.attestBadsUptoRow=true:=by kernel_rfl
def gB:jB_ Tryz.pinned.checked.prog 3 Tryz.f3 (Rows.OpenSpec.upto Rows.attestBadsSpec).bare Rows.attestBadsUptoRow=true:=by kernel_rfl
def gC:jC_ Tryz.pinned.checked.prog 3 Tryz.f3 (Rows.OpenSpec.upto Rows.attestBadsSpec).bare Rows.attestBadsUptoRow=true:=by kernel_rfl
def gD:jD_ Tryz.pinned.checked.prog 3 Tryz.f3 (Rows.OpenSpec.upto Rows.attestBadsSpec).bare Rows.attestBadsUptoRow=true:=by kernel_rfl
def gE:jE_ Tryz.pinned.checked.prog 3 Tryz.f3 (Rows.OpenSpec.upto Rows.attestBadsSpec).bare Rows.attestBadsUptoRow=true:=by kernel_rfl
def gF:jF_ Tryz.pinned.checked.prog 3 Tryz.f3 (Rows.OpenSpec.upto Rows.attestBadsSpec).bare Rows.attestBadsUptoRow=true:=by kernel_rfl
def saidUpto:Rows.AttestBadsUptoSaid:=
 Cu8 3 Tryz.f3 rfl rfl rfl rfl rfl rfl rfl ⟨rfl,rfl,rfl,rfl,rfl⟩ rfl rfl rfl rfl rfl (by kernel_rfl) Tryz.func3 (Gm gA gB gC gD gE gF)
  (of_decide_eq_true (by kernel_rfl)) (by unfold Func.isWrapper;first|(rw[Il (by decide +kernel)];kernel_rfl)|(rw[Ix (by decide +kernel)];exact⟨rfl,rfl⟩))
  (fun os started H enc _ F=>by rw[Cv5];exact liftedUpto os started H enc F)
def plain (f:FuncId)(fn:Func)(b:Tryz.pinned.checked.prog.funcNamed "ablaut/ablautlaw26.AttestBads" = some f)(a:Tryz.pinned.checked.prog.funcs[f]? = some fn) :true=Tryz.pinned.checked.prog.looks []/\∀(j:Nat) t,fn.params[j]? = some t->Tryz.pinned.checked.prog.wantsStandIn t=false:=by
 obtain rfl:f=3:=Cm3 ((show Tryz.prog.funcNamed "ablaut/ablautlaw26.AttestBads" = some 3 by kernel_rfl).symm.trans b) |>.symm;obtain rfl:fn=Tryz.f3:=(Cm3 (Tryz.func3.symm.trans a)).symm;refine⟨by kernel_rfl,fun j t ht=>?_⟩;rw[CX9]at ht;have hm:=Ct1 ht;simp only[Cz6,Co1,CA3,or_false]at hm;rcases hm with rfl|rfl|rfl|rfl
 .exact (show Tryz.prog.wantsStandIn 26=false by kernel_rfl)
 .exact (show Tryz.prog.wantsStandIn 27=false by kernel_rfl)
 .exact (show Tryz.prog.wantsStandIn 28=false by kernel_rfl)
 exact (show Tryz.prog.wantsStandIn 2=false by kernel_rfl)
def cardUpto:Rows.AttestBadsUptoCardSaid:=
 Cr6 .later [] _ _ _ _ saidUpto (fun _ h=>by cases h) (by kernel_rfl) (fun _ h=>by cases h) attestBadsUpto_row_tie rfl ⟨rfl,rfl⟩ (by kernel_rfl) rfl plain (by kernel_rfl)
end AtBads
end Go.AM
