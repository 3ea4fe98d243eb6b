/- Part 9. -/
import Derived.JoinedOf
import Derived.Test.YthdmmdgkphmakaaGreatDoorKE
import Derived.Test.YthdmmdgkphmakaaGreatDoorKF
import Derived.Test.YthdmmdgkphmakaaGreatDoorCards
import Derived.Test.YthdmmdgkphmakaaGreatDoorTie
import Derived.WalkKit
import Derived.ProofKit
import Derived.OpenShut
import Derived.Deep.DeepHandedRow
import Derived.MakeChecks
import Derived.Lib.LaidTab
import Derived.LaidSub
import Derived.Test.YthdmmdgkphmakaaGreatDoorKH
set_option linter.defProp false
set_option linter.unusedSimpArgs false
set_option linter.unusedVariables false
set_option linter.unusedSectionVars false
namespace Go.AM
open Go.Rows
def jA_ (P:Program)(f:FuncId)(fn:Func)(s:ChangeSpec)(c:OpenClaim):Bool:= (c.wf (OpenSpec.ofChange s))&&(laidOutB P)&&(mapsRowed P)&&(fn.params.all (P.readableRec ·))&&(namedTie P c.named s.vars)&&(c.stops==[])&&(P.stops==[])&&(c.knobs==[])&&(P.stopKnobs==[])
def jB_ (P:Program)(f:FuncId)(fn:Func)(s:ChangeSpec)(c:OpenClaim):Bool:= (c.inPlace==P.inPlace f)&&(c.unfollowed==P.unfollowed f)
def jC_ (P:Program)(f:FuncId)(fn:Func)(s:ChangeSpec)(c:OpenClaim):Bool:= (c.recurses==P.recurses f)&&(c.named==P.varsNamed f)
def jD_ (P:Program)(f:FuncId)(fn:Func)(s:ChangeSpec)(c:OpenClaim):Bool:= (c.maps==(fn.params.toList++s.plain.varTypes P).any (P.mapsRec ·))&&(c.ifaces==(fn.params.toList++s.plain.varTypes P).any (P.ifacesRec ·))&&(c.mapsOut==P.mapsAmong fn.resultTypes.toList)&&(c.loops==(fn.params.toList++s.plain.varTypes P).any (P.loopsFrom ·))&&(c.wideKeys==(fn.params.toList++s.plain.varTypes P++fn.resultTypes.toList).any (P.wideKeysFrom ·))&&(s.vars.all (P.varReadable ·))&&(fn.resultTypes.all (fun t=>P.readableRec t&&decide (t<P.types.size)))&&(c.ifacesOut==fn.resultTypes.toList.any (P.ifacesRec ·))&&(c.loopsOut==fn.resultTypes.toList.any (P.loopsFrom ·))&&(c.plainKeys==P.plainKeys)&&(c.shortTexts.isNone)
def jE_ (P:Program)(f:FuncId)(fn:Func)(s:ChangeSpec)(c:OpenClaim):Bool:= (P.stopsHeard)&&(P.mayEnter)
def jF_ (P:Program)(f:FuncId)(fn:Func)(s:ChangeSpec)(c:OpenClaim):Bool:=
 (c.lifted==P.liftsFinal)&&(P.make==some c.make)&&(c.kinds==(if c.domain.isEmpty then []else fn.params.toList.map fun t=>match P.underlying t with|some (.int k)=>some k|_=>none))&&(c.pinned==c.pinnedBy)&&(c.veiled==(fn.params.toList++s.plain.varTypes P++fn.resultTypes.toList).any (P.veiledRec ·))&&(c.veiledFits P fn.params.toList (fn.params.toList++s.plain.varTypes P++fn.resultTypes.toList))
def Wo {P:Program}{f:FuncId}{fn:Func}{s:ChangeSpec}{c:OpenClaim}(h1:jA_ P f fn s c=true)(a:jB_ P f fn s c=true)(b:jC_ P f fn s c=true)(d:jD_ P f fn s c=true)(g:jE_ P f fn s c=true)(i:jF_ P f fn s c=true):joinedFacts P f fn s c=true:=by
 have:joinedFacts P f fn s c=(jA_ P f fn s c&&jB_ P f fn s c&&jC_ P f fn s c&&jD_ P f fn s c&&jE_ P f fn s c&&jF_ P f fn s c):=by simp only[joinedFacts,jA_,jB_,jC_,jD_,jE_,jF_,Bool.and_assoc];rfl
 rw[this,h1,a,b,d,g,i];rfl
end Go.AM
namespace Go.AM
open Go.RowKit Go.ChangeShapes Go.WideShapes Go.ChangeAt Go.Deep Go.Proofs Go.Proofs.YthdmmdgkphmakaaGreatDoor
section
variable {H:Type}{enc:TypeId×Value->H}{P:Program}{W:World}
end
theorem SV {W:World}{name:String}{k:IntKind}{zs:List Int}{g:Nat}(a:Tryz.prog.globalNamed name=some g)(h:Lib.TabIs Tryz.prog W name k zs):∃t fr,W.heap[g]? = some (.cells (zs.map fun z=>Value.int k z).toArray t fr):=by
 unfold Lib.TabIs World.var? at h;rw[a]at h;simp only[AA4]at h;split at h
 .rename_i cs t fr b;cases h;exact⟨_,_,b⟩
 cases h
theorem SW {g:Nat}{s:Global}(hs:Tryz.prog.globals[g]? = some s)(name:String)(i:Nat)(key:∀k:Fin Tryz.prog.globals.size,((Tryz.prog.globals[k.1]?.map fun s=>s.name==name)==some true)=true->k.1=i)(hn:(s.name==name)=true):g=i:=by have a:g<Tryz.prog.globals.size:=(Ar8.1 hs).1;refine key ⟨g,a⟩ ?_;simp[hs,hn]
theorem Ai3 {W:World}{l:List (String×DataW Unit)}(hp:(l.all fun x=>x.2.handleName?.isNone)=true)
 (f:(l.filter fun x=>x.1 == "math/bits.deBruijn64tab")=[("math/bits.deBruijn64tab",Lib.tabData .u8 (Lib.deBruijn64tab.map fun (n:Nat)=>(n:Int)))])
 (b:(l.filter fun x=>x.1 == "internal/strconv.uint64pow10")=[("internal/strconv.uint64pow10",Lib.tabData .u64 Lib.pow10Tab)])
 (hL:laidMetH Tryz.prog l W):TabE Tryz.prog W (fun _ _=>False) (fun _=>False):=by
 rw[MakeChecks.laidMetH_plain _ _ _ hp]at hL;have c:=laidMet.filter (fun x=>x.1 == "math/bits.deBruijn64tab") hL;have d:=laidMet.filter (fun x=>x.1 == "internal/strconv.uint64pow10") hL;rw[f]at c;rw[b]at d;have t1:Lib.TabIs Tryz.prog W "math/bits.deBruijn64tab" .u8 (Lib.deBruijn64tab.map fun (n:Nat)=>(n:Int)):=
  Lib.tabIs_of_head (g:=3) (t:=(Tryz.prog.globals[3]?.map (·.type)).getD 0) (e:=(match Tryz.prog.underlying ((Tryz.prog.globals[3]?.map (·.type)).getD 0)with|some (.array _ e)=>e|_=>0)) (n:=64) (by kernel_rfl) (by kernel_rfl) (by kernel_rfl) (by kernel_rfl) (by kernel_rfl) (by kernel_rfl) (rest:=[]) c
 have t2:Lib.TabIs Tryz.prog W "internal/strconv.uint64pow10" .u64 Lib.pow10Tab:=
  Lib.tabIs_of_head (g:=0) (t:=(Tryz.prog.globals[0]?.map (·.type)).getD 0) (e:=(match Tryz.prog.underlying ((Tryz.prog.globals[0]?.map (·.type)).getD 0)with|some (.array _ e)=>e|_=>0)) (n:=20) (by kernel_rfl) (by kernel_rfl) (by kernel_rfl) (by kernel_rfl) (by kernel_rfl) (by kernel_rfl) (rest:=[]) d
 have i:Tryz.prog.globalNamed "math/bits.deBruijn64tab" = some 3:=by kernel_rfl
 have m:Tryz.prog.globalNamed "internal/strconv.uint64pow10" = some 0:=by kernel_rfl
 have r:TabX Tryz.prog W (fun _=>False):=by
  intro g s hs a;refine⟨?_,fun h=>h⟩;unfold My at a⊢;split at a
  .rename_i hn;obtain rfl:=SW hs _ 3 (by decide +kernel) hn;obtain⟨t,fr,h⟩:=SV i t1;rw[Dz hn];exact⟨t,fr,by rw[h];simp[Az6,Ax3]⟩
  rename_i o;split at a
  .rename_i hn;obtain rfl:=SW hs _ 0 (by decide +kernel) hn;obtain⟨t,fr,h⟩:=SV m t2;rw[Ec o,Dz hn];exact⟨t,fr,h⟩
  exact Eu rfl a
 refine⟨fun g s j v hs q=>⟨?_,fun h=>h⟩,r⟩;have a:My s.name≠[]:=by rintro e;rw[e]at q;simp at q
 obtain⟨⟨t,fr,h⟩,_⟩:=r g s hs a;simp only[World.cell?,h];simpa using q
end Go.AM
