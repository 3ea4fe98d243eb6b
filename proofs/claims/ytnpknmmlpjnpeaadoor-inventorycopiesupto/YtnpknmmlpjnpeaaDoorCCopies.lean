/- Part 13. -/
import Derived.Test.YtnpknmmlpjnpeaaDoorKJ
import Derived.Test.YtnpknmmlpjnpeaaDoorKL
import Derived.Lay
set_option linter.defProp false
set_option linter.unusedSimpArgs false
set_option linter.unusedVariables false
set_option linter.unusedSectionVars false
namespace Go.AM
open Go.RowKit Go.ChangeShapes Go.WideShapes Go.ChangeAt Go.Deep Go.Proofs Go.Proofs.YtnpknmmlpjnpeaaDoor
namespace InvCopies
set_option maxRecDepth 100000
def LU {W:World}:TabOk Tryd.prog W fun _ _=>False:=by
 intro g s j v hs a;have b:=(Array.getElem?_eq_some_iff.1 hs).1;have key:∀k:Fin Tryd.prog.globals.size,((Tryd.prog.globals[k.1]?.map fun s=>s.name == "math/bits.deBruijn64tab")==some true)=false:=by decide +kernel
 have h1:=key ⟨g,b⟩;unfold Ns at a;split at a
 .rename_i h;rw[hs]at h1;simp only[Option.map_some,h]at h1;exact Bw h1 (by decide)
 simp at a
def contract (H:Type)(enc:TypeId×Value->H)(W:World)(base:Nat)(args:Array Value)(ds gs:List (DataW H))(before:List MemPlace)
 (a:∀(j:Nat) t v,Tryd.f9.params[j]? = some t->args[j]? = some v->Value.okWide Tryd.prog W .any base t v)
 (w:DataW.Whole enc Tryd.prog Tryd.f9.params.toList Rows.inventoryCopiesSpec.vars false W args.toList ds gs before) (hk:Rows.uptoSmall H (ds++gs)=true) :
 Calls Tryd.prog 9 args W fun e W'=>∃v,e=.returned v/\Rows.inventoryCopiesSpec.post enc Tryd.prog Tryd.f9 false true false false W args v W':=by
 have f:=w;obtain⟨p,q,l,y,rfl,z,a1⟩:=w;have x:DataW.TrodAll enc Tryd.prog W 0 (fun _=>true) true Tryd.f9.params.toList args.toList ds p:=l;rw[Tryd.params9]at x a;obtain⟨v0,vs0,d0,ds0,p0,q0,m,rfl,rfl,h0,r0⟩:=trodAll_cons x;obtain⟨v1,vs1,d1,ds1,p1,q1,rfl,rfl,rfl,h1,r1⟩:=trodAll_cons r0;obtain⟨v2,vs2,d2,ds2,p2,q2,rfl,rfl,rfl,h2,r2⟩:=trodAll_cons r1;obtain⟨rfl,rfl,rfl⟩:=trodAll_nil r2;obtain rfl:args = #[v0,v1,v2]:=by cases args;simp_all
 obtain⟨rfl,rfl⟩:=trodVars_none y;have hb:=of_decide_eq_true hk;simp only[List.append_nil,Rows.uptoBulkAll]at hb;obtain⟨a0,len0,cap0,o⟩:=okWide_slice Tryd.underlying49 (a 0 49 v0 rfl rfl);obtain⟨_,r⟩:=okWide_string Tryd.underlying9 (a 1 9 v1 rfl rfl);obtain⟨cs2,c,_⟩:=okWide_struct Tryd.underlying31 (a 2 31 v2 rfl rfl);obtain⟨fu0,g0⟩:=h0;obtain⟨fu1,g1⟩:=h1;obtain⟨fu2,g2⟩:=h2;have s:Nt Tryd.prog [49,72,9,31,29]=true:=by kernel_rfl
 have b:∀t∈([49,72,9,31,29]:List Nat),t<Tryd.prog.types.size:=by decide +kernel
 obtain⟨pv0,c0,sh0⟩:=CV Ob Oc s b fu0 49 _ _ (by simp) g0;obtain⟨x0,l0,w0,s0⟩:=HA Tryd.underlying49 (by kernel_rfl) Jo _ _ sh0;have s0:(Gp (fun i=>P1 (x0.g i)) x0.n+1)<=Rows.uptoBulk d0:=s0;have e0:=Km (by rw[o];rfl) (c0.leD l0);obtain⟨pv1,c1,sh1⟩:=CV Ob Oc s b fu1 9 _ _ (by simp) g1;obtain⟨x1,l1,w1,s1⟩:=Gt Tryd.underlying9 _ _ sh1;have s1:(x1.length+1)<=Rows.uptoBulk d1:=s1;have e1:=Km (by rw[r];rfl) (c1.leD l1);obtain⟨pv2,c2,sh2⟩:=CV Ob Oc s b fu2 31 _ _ (by simp) g2;obtain⟨x2,l2,w2,s2⟩:=DS _ _ sh2;have s2:Cs x2<=Rows.uptoBulk d2:=s2;have e2:=c2.leD l2;rw[c]at e2;have e2:=Od e2;rw[<- c]at e2;have hz:=LW s0;have hP:N5 (DT Tryd.prog) G8 [.p (vSl 3 Dn x0),.p (.str x1),.p (.agg (A5 x2))] [] (.p (.bb true)) [] []:=
  T4 (Hv _) libC (Kn x0 x1 x2 (fun i d=>Nu (Nv (w0 i d).2)) (Nu (Nv w2)) (fun i d=>by have:=hz.2 i d;omega) (by omega) (by omega))
 have hc:=FC (args:=[vSl 3 Dn x0,.str x1,.agg (A5 x2)]) (enters_of Tryd.func9 (by decide +kernel) rfl) hP (W:=W) (vs:=#[v0,v1,v2]) LU rfl (fun i d=>by
  match i,d with
  |0,_=>exact e0
  |1,_=>exact e1
  |2,_=>exact e2
  )
 refine hc.mono fun e W' ⟨he,u⟩=>?_;subst he;exact⟨_,rfl,LX rfl (by kernel_rfl) Tryd.underlying4 (by kernel_rfl) (by rw[Tryd.params9];decide +kernel) f rfl u⟩
def own:ownKnob Tryd.prog.godebug=none:=by kernel_rfl
def reads (os:Os){H:Type}(enc:TypeId×Value->H):∃places,DataW.whole enc Tryd.prog ((World.laidAll Tryd.prog os Rows.inventoryCopiesUptoRow.laid).forCall (fun _ _=>0) ⟨#[],#[.slice none 0 0,.string ⟨#[]⟩,.agg #[.int .u32 0,.int .u32 0]],[]⟩).memory Tryd.f9.params.toList Rows.inventoryCopiesSpec.vars false (#[.slice none 0 0,.string ⟨#[]⟩,.agg #[.int .u32 0,.int .u32 0]]:Array Value).toList 16=some ([.nil,.lit (.string []),.agg [.lit (.int .u32 0),.lit (.int .u32 0)]],[],places):=
 ⟨[],by kernel_rfl⟩
def laid_met (os:Os):laidMet Tryd.prog Rows.inventoryCopiesUptoRow.laid ((World.laidAll Tryd.prog os Rows.inventoryCopiesUptoRow.laid).forCall (fun _ _=>0) ⟨#[],#[.slice none 0 0,.string ⟨#[]⟩,.agg #[.int .u32 0,.int .u32 0]],[]⟩).memory:=
 laidMet_laidAll _ (by kernel_rfl) (by kernel_rfl)
def liftedUpto (os:Os)(started:os.Started)(H:Type)(enc:TypeId×Value->H)(F:Stop.Interp) :ReturnsInHanded {} Tryd.checked os 9 .any ((Rows.OpenSpec.upto Rows.inventoryCopiesSpec).preRow enc Tryd.prog Tryd.f9 Rows.inventoryCopiesUptoRow.domain false Rows.inventoryCopiesUptoRow.laid) (((Rows.OpenSpec.upto Rows.inventoryCopiesSpec).at F).post enc Tryd.prog Tryd.f9 false true false false):=by
 obtain⟨places,hx⟩:=reads os enc;refine returnsInHanded_of_row (C:=Tryd.checked) (s:=Rows.OpenSpec.upto Rows.inventoryCopiesSpec) own started (by kernel_rfl) Tryd.func9
  (witness_row_at (enc:=enc) (C:=Tryd.checked) false (World.laidAll Tryd.prog os Rows.inventoryCopiesUptoRow.laid) #[.slice none 0 0,.string ⟨#[]⟩,.agg #[.int .u32 0,.int .u32 0]] (World.laidAll_os _ _ _) (by kernel_rfl) (by kernel_rfl) (by kernel_rfl)
   (OpenSpec.preRow_of_cond 16 hx (by kernel_rfl) (fun k hk=>by cases hk;kernel_rfl) (by kernel_rfl) (laid_met os))) ?_
 intro W base args ds gs before b c _ a _ hL _ _;exact contract H enc W base args ds gs before b c (a _ rfl)
def saidUpto:Rows.InventoryCopiesUptoSaid:=
 OpenClaim.holds_of_cond 9 Tryd.f9 rfl rfl rfl rfl rfl rfl rfl ⟨rfl,rfl,rfl,rfl,rfl⟩ rfl rfl rfl rfl rfl (by kernel_rfl) Tryd.func9 (by kernel_rfl)
  (of_decide_eq_true (by kernel_rfl)) (by unfold Func.isWrapper;first|(rw[Bh (by decide +kernel)];kernel_rfl)|(rw[Bv (by decide +kernel)];exact⟨rfl,rfl⟩))
  (fun os started H enc _ F=>by rw[OpenClaim.pre_eq_preRow];exact liftedUpto os started H enc F)
def plain (f:FuncId)(fn:Func)(b:Tryd.pinned.checked.prog.funcNamed "ablaut/ablautlaw03.InventoryCopies" = some f)(a:Tryd.pinned.checked.prog.funcs[f]? = some fn) :false=Tryd.pinned.checked.prog.looks []/\∀(j:Nat) t,fn.params[j]? = some t->Tryd.pinned.checked.prog.wantsStandIn t=false:=by
 obtain rfl:f=9:=Option.some.inj ((show Tryd.prog.funcNamed "ablaut/ablautlaw03.InventoryCopies" = some 9 by kernel_rfl).symm.trans b) |>.symm;obtain rfl:fn=Tryd.f9:=(Option.some.inj (Tryd.func9.symm.trans a)).symm;refine⟨by kernel_rfl,fun j t ht=>?_⟩;rw[Tryd.params9]at ht;have hm:=Array.mem_of_getElem? ht;simp only[List.mem_toArray,List.mem_cons,List.not_mem_nil,or_false]at hm;rcases hm with rfl|rfl|rfl
 .exact (show Tryd.prog.wantsStandIn 49=false by kernel_rfl)
 .exact (show Tryd.prog.wantsStandIn 9=false by kernel_rfl)
 exact (show Tryd.prog.wantsStandIn 31=false by kernel_rfl)
def cardUpto:Rows.InventoryCopiesUptoCardSaid:=
 Claim7.holds_tied_plain_at .later [] _ _ _ _ saidUpto (fun _ h=>by cases h) (by kernel_rfl) (fun _ h=>by cases h) inventoryCopiesUpto_row_tie rfl ⟨rfl,rfl⟩ (by kernel_rfl) rfl plain (by kernel_rfl)
end InvCopies
end Go.AM
