/- Part 7. -/
import Derived.Test.YtlbooedblpdmaaaGreatDoorMF
import Derived.Test.YtlbooedblpdmaaaGreatDoorME
set_option linter.defProp false
set_option linter.unusedSimpArgs false
set_option linter.unusedVariables false
set_option linter.unusedSectionVars false
namespace Go.AM
open Go.Proofs.Tryz
variable {N:Nat}
def Lt:=@decide_eq_true_eq
theorem Jo{c:Prop}{i:Decidable c}{α:Sort _}{a b:α}(h:¬c:=by omega):(if c then a else b)=b:=Ke h
theorem Ig{c:Prop}{i:Decidable c}{α:Sort _}{a b:α}(h:c:=by omega):(if c then a else b)=a:=Kc h
open IntKind (wrap)
def Bb2:=@BitVec.getLsbD_or
def Bb5:=@Nat.not_lt_zero
def Be9:=@BitVec.getLsbD_not
def Bh3:=@List.reverse_append
def Bi2:=@Classical.axiomOfChoice
def Bj2:=@Bool.or_eq_false_iff
def Bk7:=@List.length_filter_le
def Bm1:=@List.filter_cons_of_pos
def Bm2:=@List.filter_cons_of_neg
def Bm3:=@Nat.div_le_self
def Bn3:=@Bool.not_eq_true
def Bn4:=@List.mem_reverse
def Bo2:=@BitVec.getLsbD_zero
def Bp3:=@List.mem_range'_1
def Bp7:=@Nat.testBit_two_pow_mul
def Bq3:=@Nat.testBit_lt_two_pow
def Bq4:=@List.filter_eq_nil_iff
def Bq5:=@List.reverse_singleton
def Bq9:=@Bool.and_eq_false_iff
def Br0:=@List.singleton_append
def Br4:=@BitVec.getLsbD_of_ge
def Bs0:=@Nat.div_eq_zero_iff
def Bt0:=@Nat.lt_of_le_of_lt
def Bt1:=@List.cons.inj
open Go.Proofs
set_option maxRecDepth 10000
set_option maxHeartbeats 2000000
variable {S:Aj}(Z:H1 S Tryz.prog) (Y:Nk S)
include Z Y
def I8 (N:Nat)(d:A3)(b:Sl C9)(f:Sl Entry)(a:Int):Option ((Sl A2)×Int):= (W5 N d b f).bind fun y1=>if (y1 != 0) then some ((Sl.nil:Sl A2),y1) else if ((decide (a<0))||(decide (1073741824<a))) then some ((Sl.nil:Sl A2),2) else (I5 N d (-1)).bind fun y2=>(K7 N f).bind fun y3=>(D5 N y3).bind fun L1=>N8 L1 (fun c (x1:I3×(Sl Oh)) (z1:(Sl (List (Str×C9)))×(Sl A2))=>if ((0:Int)<=x1.1.entry/\x1.1.entry<(b.n:Int))then (F0 N (b.g x1.1.entry.toNat) x1.1.leaf z1.1 y2).bind fun y8=>if (!y8.2.1) then if ((z1.2.n+(Sl.of [(⟨x1.1.entry,x1.1.leaf,2,a⟩:A2)]:Sl A2).n)*32<=140737488355328/\z1.2.n+(Sl.of [(⟨x1.1.entry,x1.1.leaf,2,a⟩:A2)]:Sl A2).n<=140737488355328)then c (y8.2.2,z1.2.push (⟨x1.1.entry,x1.1.leaf,2,a⟩:A2)) else none else (P1 N y8.1 x1.2).bind fun y9=>if (!y9) then if ((z1.2.n+(Sl.of [(⟨x1.1.entry,x1.1.leaf,1,a⟩:A2)]:Sl A2).n)*32<=140737488355328/\z1.2.n+(Sl.of [(⟨x1.1.entry,x1.1.leaf,1,a⟩:A2)]:Sl A2).n<=140737488355328)then c (y8.2.2,z1.2.push (⟨x1.1.entry,x1.1.leaf,1,a⟩:A2)) else none else c (y8.2.2,z1.2) else none) (fun (z1:(Sl (List (Str×C9)))×(Sl A2))=>some (z1.2,0)) ((⟨y2.n,fun _=>[]⟩:Sl (List (Str×C9))),(Sl.nil:Sl A2))
theorem Cu {f:A3}{d:Sl C9}{l:Sl Entry}{b:Int}{y:(Sl A2)×Int}(h:I8 N f d l b=some y) :FunO S KT [.p (.agg (A7 f)),.p (vSl 2 B9 d),.p (vSl 2 B6 l),pN b] [] (.tup [.vec 0,pN y.2]) ([.vec E2 4 y.1.n (fun i=>B7 (y.1.g i)) false]) []:=by
 unfold I8 at h;refine A5 Z func17 ?_;refine N0 Z Lu 5 5000 (A7 f) ?_;refine N0 Z Lu 7 6000 [vSl 2 B9 d] ?_;refine N0 Z Lu 8 8000 [pI .i64 b] ?_;obtain⟨y1,e1,h⟩:=C4 h;refine D2 Z [] Ng (HS Z Y e1) ?_;apply kI Z h<;>intro h
 .obtain rfl:=D4 h;exact B1 Z Lu ⟨[(9,pN y1),(8,.vec 9700)],[(9700,.vec E2 4 (Sl.nil:Sl A2).n (fun i=>B7 ((Sl.nil:Sl A2).g i)) false)]⟩ [9700] (ids:=[]) ⟨rfl,rfl,rfl⟩
 refine kB Z (B3 Z) Lu Lu 3 (.o (.a (decide (b<0))) (.a (decide (1073741824<b)))) ?_;apply kI Z h<;>intro h
 .obtain rfl:=D4 h;exact B1 Z Lu ⟨[(9,pN 2),(8,.vec 9700)],[(9700,.vec E2 4 (Sl.nil:Sl A2).n (fun i=>B7 ((Sl.nil:Sl A2).g i)) false)]⟩ [9700] (ids:=[]) ⟨rfl,rfl,rfl⟩
 obtain⟨y2,e2,h⟩:=C4 h;refine D2 Z [] Ng (AP Z Y e2) ?_;refine kC Z h (Ah Z Y) (fun y3 h=>?_);obtain⟨L1,e4,h⟩:=C4 h;refine DU Z Lu [34000] [12,11,7,5] 901 (fun z1=>⟨[(12,.reg 13000 0),(11,.reg 12000 0),(7,.p (.ptr [pI .i64 b])),(5,.p (.ptr [vSl 2 B9 d]))],[(32001,.fam A8 z1.1.n 12500 none),(32000,.cells [.vec 32001]),(13500,.vec E2 4 z1.2.n (fun i=>B7 (z1.2.g i)) false),(13000,.cells [.vec 13500]),(12500,.rows z1.1.n fun i=>Gf (z1.1.g i)),(12000,.cells [.clo C0 [] [.reg 32000 0,.p (.ptr [vSl 1 (cL 18 B5) y2])]])]⟩) (idl:=[(12000,12000),(12500,32002),(13000,13000),(32000,32000),(32001,32001)]) h (U0 Z Y e4) (fun _=>by kernel_rfl) (fun _=>by kernel_rfl) (fun _=>by kernel_rfl) (fun _=>by kernel_rfl) (fun x1 _ m z1 j h=>?_) (fun z1 h=>?_)
 .refine N0 Z Lu 14 14000 [pI .i64 x1.1.entry,pI .i64 x1.1.leaf] ?_;refine Ie Z Lu ?_;refine L7 Z Lu [1,3,4,5,7] ?_;obtain⟨c9,h⟩:=H4 h;obtain⟨y8,e9,h⟩:=C4 h;refine SK [32000,32001,12500] (And.intro c9 Nf) (X0 Z Y e9) ?_;refine P3 Lu ?_;apply kI Z h<;>intro h
  .obtain⟨c11,h⟩:=H4 h;exact j _ [(901,901),(12000,12000),(12500,46002),(13000,13000),(13500,60000),(32000,32000),(32001,32001)] _ (y8.2.2,z1.2.push (⟨x1.1.entry,x1.1.leaf,2,b⟩:A2)) (And.intro Ob c11) h (hle:=klR [(1,.fn (z1.2.n+1) (z1.2.push (⟨x1.1.entry,x1.1.leaf,2,b⟩:A2)).n (BA z1.2.n (fun i=>B7 (z1.2.g i)) (E5 [pI .i64 0,pI .i64 0,pI .i64 0,pI .i64 0] [(0,B7 (⟨x1.1.entry,x1.1.leaf,2,b⟩:A2))])) (fun i=>B7 ((z1.2.push (⟨x1.1.entry,x1.1.leaf,2,b⟩:A2)).g i)))] (al1 ⟨rfl,Pm (c:=B7) (v:=z1.2) (x:=(⟨x1.1.entry,x1.1.leaf,2,b⟩:A2)) (z:=[(pI .i64 0),pI .i64 0,pI .i64 0,pI .i64 0]) same rfl rfl⟩ al0))
  refine kC Z h (DK Z Y) (fun y9 h=>?_);apply kI Z h<;>intro h
  .obtain⟨c13,h⟩:=H4 h;exact j _ [(901,901),(12000,12000),(12500,46002),(13000,13000),(13500,74000),(32000,32000),(32001,32001)] _ (y8.2.2,z1.2.push (⟨x1.1.entry,x1.1.leaf,1,b⟩:A2)) (And.intro Ob c13) h (hle:=klR [(1,.fn (z1.2.n+1) (z1.2.push (⟨x1.1.entry,x1.1.leaf,1,b⟩:A2)).n (BA z1.2.n (fun i=>B7 (z1.2.g i)) (E5 [pI .i64 0,pI .i64 0,pI .i64 0,pI .i64 0] [(0,B7 (⟨x1.1.entry,x1.1.leaf,1,b⟩:A2))])) (fun i=>B7 ((z1.2.push (⟨x1.1.entry,x1.1.leaf,1,b⟩:A2)).g i)))] (al1 ⟨rfl,Pm (c:=B7) (v:=z1.2) (x:=(⟨x1.1.entry,x1.1.leaf,1,b⟩:A2)) (z:=[(pI .i64 0),pI .i64 0,pI .i64 0,pI .i64 0]) same rfl rfl⟩ al0))
  exact j _ [(901,901),(12000,12000),(12500,46002),(13000,13000),(13500,13500),(32000,32000),(32001,32001)] _ (y8.2.2,z1.2) Lu h
 obtain rfl:=D4 h;exact B1 Z Lu ⟨[(9,pN 0),(8,.vec 13500)],[(13500,.vec E2 4 z1.2.n (fun i=>B7 (z1.2.g i)) false)]⟩ [13500] (ids:=[(13500,13500)]) ⟨rfl,rfl,rfl⟩
def U1 (N:Nat)(f:A3)(a:Sl C9)(d:Sl Entry):Option (Xf×Int):= (I8 N f a d 0).bind fun y1=>if (y1.2 != 0) then some ((⟨0,0⟩:Xf),y1.2) else (K7 N d).bind fun y2=>(D5 N y2).bind fun L1=>N8 L1 (fun b (x1:I3×(Sl Oh)) (z1:Int)=>b (wrap .i64 (z1+1))) (fun (z1:Int)=>if (z1==0) then some ((⟨0,1⟩:Xf),0) else Q3 N (fun c (x3:Int) (x4:Int)=>if (x4 != 0) then if x4≠0 then c x4 (x3.tmod x4) else none else if (x3≠0/\x3≠0)then some ((⟨wrap .i64 ((wrap .i64 (z1-(y1.1.n:Int))).tdiv x3),wrap .i64 (z1.tdiv x3)⟩:Xf),0) else none) z1 (wrap .i64 (z1-(y1.1.n:Int)))) 0
theorem Jy {b:A3}{a:Sl C9}{c:Sl Entry}{y:Xf×Int}(h:U1 N b a c=some y) :FunO S IY [.p (.agg (A7 b)),.p (vSl 2 B9 a),.p (vSl 2 B6 c)] [] (.tup [.p (.agg (AU9 y.1)),pN y.2]) ([]) []:=by
 unfold U1 at h;refine A5 Z func19 ?_;refine N0 Z Lu 6 4000 (A7 b) ?_;obtain⟨y1,e1,h⟩:=C4 h;refine D2 Z [] Ng (Cu Z Y e1) ?_;apply kI Z h<;>intro h
 .cases h;exact kR Z
 refine kC Z h (Ah Z Y) (fun y2 h=>?_);obtain⟨L1,e3,h⟩:=C4 h;refine DU Z Lu [27000] [10,8,6] 901 (fun z1=>⟨[(10,.reg 11000 0),(8,.vec 19000),(6,.reg 7000 0)],[(19000,.vec E2 4 y1.1.n (fun i=>B7 (y1.1.g i)) false),(11000,.cells [pN z1]),(7000,.cells [pN 0,pN 0])]⟩) (idl:=[(7000,7000),(11000,11000),(19000,19000)]) h (U0 Z Y e3) (fun _=>by kernel_rfl) (fun _=>by kernel_rfl) (fun _=>by kernel_rfl) (fun _=>by kernel_rfl) (fun x1 _ d z1 f h=>?_) (fun z1 h=>?_)
 .refine Ie Z Lu ?_;exact f _ [(901,901),(7000,7000),(11000,11000),(19000,19000)] _ (wrap .i64 (z1+1)) Lu h
 apply kI Z h<;>intro h
 .cases h;exact kR Z
 refine R4 Z Lu h (fun x3 x4=>⟨[(13,pN x4),(12,pN x3),(11,pN (wrap .i64 (z1-(y1.1.n:Int)))),(10,.reg 11000 0),(6,.reg 7000 0)],[(11000,.cells [pN z1]),(7000,.cells [pN 0,pN 0])]⟩) (ids:=[(7000,7000),(11000,11000)]) (fun _ _ _ _ _ j x3 x4 l h=>?_);apply kI Z h<;>intro h
 .refine DT Z Lu ?_;obtain⟨c8,h⟩:=H4 h;refine P3 c8 ?_;exact l _ [(7000,7000),(11000,11000)] _ x4 (x3.tmod x4) Lu h
 refine DT Z Lu ?_;obtain⟨c9,h⟩:=H4 h;refine P3 c9 ?_;cases h;exact kR Z
def Ee (N:Nat)(d:A3)(a:Sl C9)(o:Sl Entry):Option ((Sl Int)×Int):= (W5 N d a o).bind fun y1=>if (y1 != 0) then some (Oc,y1) else (I5 N d (-1)).bind fun y2=>if ((0:Int)<=(d.Laws.n:Int)/\(d.Laws.n:Int)<=(d.Laws.n:Int)/\(d.Laws.n:Int)*8<=140737488355328/\(d.Laws.n:Int)<=140737488355328)then YA N (fun m (s:Sl (List (Str×C9))) (q:Sl Int) (c:Int)=>if (decide (c<(d.Laws.n:Int))) then (I5 N d c).bind fun r=>(K7 N o).bind fun t=>(D5 N t).bind fun L3=>N8 L3 (fun i (f:I3×(Sl Oh)) (b:(Sl (List (Str×C9)))×(Sl Int)×(Sl (List (Str×C9))))=>if ((0:Int)<=f.1.entry/\f.1.entry<(a.n:Int))then (F0 N (a.g f.1.entry.toNat) f.1.leaf b.1 y2).bind fun j=>lt (fun (u:Bool)=>if u then i (j.2.2,b.2.1,b.2.2) else if ((0:Int)<=f.1.entry/\f.1.entry<(a.n:Int))then (F0 N (a.g f.1.entry.toNat) f.1.leaf b.2.2 r).bind fun l=>lt (fun (v:Bool)=>if v then if (((((0:Int)<=c/\c<(b.2.1.n:Int))/\c.toNat<b.2.1.n)/\((0:Int)<=c/\c<(b.2.1.n:Int)))/\c.toNat<b.2.1.n)then i (j.2.2,b.2.1.upd c.toNat (wrap .i64 ((b.2.1.g c.toNat)+1)),l.2.2) else none else i (j.2.2,b.2.1,l.2.2)) fun k18=>if (!l.2.1) then k18 true else (P1 N l.1 f.2).bind fun w=>k18 (!w) else none) fun k17=>if (!j.2.1) then k17 true else (P1 N j.1 f.2).bind fun x=>k17 (!x) else none) (fun (b:(Sl (List (Str×C9)))×(Sl Int)×(Sl (List (Str×C9))))=>m b.1 b.2.1 (wrap .i64 (c+1))) (s,q,(⟨r.n,fun _=>[]⟩:Sl (List (Str×C9)))) else some (q,0)) (⟨y2.n,fun _=>[]⟩:Sl (List (Str×C9))) (Sl.rep (d.Laws.n:Int).toNat 0:Sl Int) 0 else none
theorem OF {f:A3}{b:Sl C9}{m:Sl Entry}{y:(Sl Int)×Int}(h:Ee N f b m=some y) :FunO S HD [.p (.agg (A7 f)),.p (vSl 2 B9 b),.p (vSl 2 B6 m)] [] (.tup [.vec 0,pN y.2]) ([.vec F2 1 y.1.n (fun i=>cI .i64 (y.1.g i)) true]) []:=by
 unfold Ee at h;refine A5 Z func24 ?_;refine N0 Z Lu 4 4000 (A7 f) ?_;refine N0 Z Lu 6 5000 [vSl 2 B9 b] ?_;obtain⟨y1,e1,h⟩:=C4 h;refine D2 Z [] Ng (HS Z Y e1) ?_;apply kI Z h<;>intro h
 .obtain rfl:=D4 h;exact B1 Z Lu ⟨[(7,pN y1),(6,.vec 7700)],[(7700,.vec F2 1 Oc.n (fun i=>cI .i64 (Oc.g i)) true)]⟩ [7700] (ids:=[]) ⟨rfl,rfl,rfl⟩
 obtain⟨y2,e2,h⟩:=C4 h;refine D2 Z [] Ng (AP Z Y e2) ?_;obtain⟨c2,h⟩:=H4 h;refine Po Z c2 h (fun t o d=>⟨[(35,pN d),(34,pN (f.Laws.n:Int)),(10,.reg 11000 0),(9,.reg 10000 0),(4,.p (.ptr [vSl 2 B9 b])),(3,.p (.ptr (A7 f))),(2,.p (vSl 2 B6 m))],[(32000,.vec F2 1 o.n (fun i=>cI .i64 (o.g i)) false),(28001,.fam A8 t.n 10501 none),(28000,.cells [.vec 28001]),(11000,.cells [.vec 32000]),(10501,.rows t.n fun i=>Gf (t.g i)),(10000,.cells [.clo C0 [] [.reg 28000 0,.p (.ptr [vSl 1 (cL 18 B5) y2])]])]⟩) (ids:=[(10000,10000),(10501,28002),(11000,11000),(28000,28000),(28001,28001),(32000,32000)]) (fun _ _ _ _ _ a3 t o d a0 h=>?_);apply kI Z h<;>intro h
 .refine N0 Z Lu 38 12000 [pI .i64 d] ?_;obtain⟨z,e45,h⟩:=C4 h;refine D2 Z [] Ng (AP Z Y e45) ?_;refine kC Z h (Ah Z Y) (fun a7 h=>?_);obtain⟨L3,e47,h⟩:=C4 h;refine DU Z Lu [43000] [35,34,12,11,10,9,4,3,2] 905 (fun a=>⟨[(35,pN d),(34,pN (f.Laws.n:Int)),(12,.reg 13000 0),(11,.p (.ptr [pI .i64 d])),(10,.reg 11000 0),(9,.reg 10000 0),(4,.p (.ptr [vSl 2 B9 b])),(3,.p (.ptr (A7 f))),(2,.p (vSl 2 B6 m))],[(41001,.fam A8 a.2.2.n 13500 none),(41000,.cells [.vec 41001]),(32000,.vec F2 1 a.2.1.n (fun i=>cI .i64 (a.2.1.g i)) false),(28001,.fam A8 a.1.n 10500 none),(28000,.cells [.vec 28001]),(13500,.rows a.2.2.n fun i=>Gf (a.2.2.g i)),(13000,.cells [.clo C0 [] [.reg 41000 0,.p (.ptr [vSl 1 (cL 18 B5) z])]]),(11000,.cells [.vec 32000]),(10500,.rows a.1.n fun i=>Gf (a.1.g i)),(10000,.cells [.clo C0 [] [.reg 28000 0,.p (.ptr [vSl 1 (cL 18 B5) y2])]])]⟩) (idl:=[(10000,10000),(10500,10501),(11000,11000),(13000,13000),(13500,41002),(28000,28000),(28001,28001),(32000,32000),(41000,41000),(41001,41001)]) h (U0 Z Y e47) (fun _=>by kernel_rfl) (fun _=>by kernel_rfl) (fun _=>by kernel_rfl) (fun _=>by kernel_rfl) (fun q _ a4 a r h=>?_) (fun a h=>?_)
  .refine N0 Z Lu 14 14000 [pI .i64 q.1.entry,pI .i64 q.1.leaf] ?_;refine Ie Z Lu ?_;refine L7 Z Lu [1,3,4,5,7] ?_;obtain⟨c88,h⟩:=H4 h;obtain⟨j,e60,h⟩:=C4 h;refine SK [28000,28001,10500] (And.intro c88 Nf) (X0 Z Y e60) ?_;refine P3 Lu ?_;refine NR Z Lu (QC Z) h 0 (fun a1=>⟨[(64,pB a1),(14,.p (vSl 2 A0 q.2)),(13,.p (.ptr [pI .i64 q.1.entry,pI .i64 q.1.leaf])),(12,.reg 13000 0),(11,.p (.ptr [pI .i64 d])),(10,.reg 11000 0),(4,.p (.ptr [vSl 2 B9 b]))],[(55002,.rows j.2.2.n fun i=>Gf (j.2.2.g i)),(41001,.fam A8 a.2.2.n 13500 none),(41000,.cells [.vec 41001]),(32000,.vec F2 1 a.2.1.n (fun i=>cI .i64 (a.2.1.g i)) false),(28001,.fam A8 j.2.2.n 55002 none),(28000,.cells [.vec 28001]),(13500,.rows a.2.2.n fun i=>Gf (a.2.2.g i)),(13000,.cells [.clo C0 [] [.reg 41000 0,.p (.ptr [vSl 1 (cL 18 B5) z])]]),(11000,.cells [.vec 32000]),(10000,.cells [.clo C0 [] [.reg 28000 0,.p (.ptr [vSl 1 (cL 18 B5) y2])]]),(905,.ghost [pN d,pN (f.Laws.n:Int),.reg 13000 0,.p (.ptr [pI .i64 d]),.reg 11000 0,.reg 10000 0,.p (.ptr [vSl 2 B9 b]),.p (.ptr (A7 f)),.p (vSl 2 B6 m)])]⟩) (fun M17 k17 u h=>?_) (fun a1 h=>?_)
   .refine kG Z h (fun h=>?_) (fun h=>?_)
    .exact u _ [(905,905),(10000,10000),(11000,11000),(13000,13000),(13500,13500),(28000,28000),(28001,28001),(32000,32000),(41000,41000),(41001,41001),(55002,55002)] _ true Lu h
    refine kC Z h (DK Z Y) (fun a5 h=>?_);exact u _ [(905,905),(10000,10000),(11000,11000),(13000,13000),(13500,13500),(28000,28000),(28001,28001),(32000,32000),(41000,41000),(41001,41001),(55002,55002)] _ (!a5) Lu h
   apply kI Z h<;>intro h
   .exact r _ [(905,905),(10000,10000),(10500,55002),(11000,11000),(13000,13000),(13500,13500),(28000,28000),(28001,28001),(32000,32000),(41000,41000),(41001,41001)] _ (j.2.2,a.2.1,a.2.2) Lu h
   refine L7 Z Lu [1,3,4,5,7] ?_;obtain⟨c93,h⟩:=H4 h;obtain⟨s,e63,h⟩:=C4 h;refine SK [41000,41001,13500] (And.intro c93 Nf) (X0 Z Y e63) ?_;refine P3 Lu ?_;refine NR Z Lu (QC Z) h 0 (fun a2=>⟨[(84,pB a2),(11,.p (.ptr [pI .i64 d])),(10,.reg 11000 0)],[(75002,.rows s.2.2.n fun i=>Gf (s.2.2.g i)),(55002,.rows j.2.2.n fun i=>Gf (j.2.2.g i)),(41001,.fam A8 s.2.2.n 75002 none),(41000,.cells [.vec 41001]),(32000,.vec F2 1 a.2.1.n (fun i=>cI .i64 (a.2.1.g i)) false),(28001,.fam A8 j.2.2.n 55002 none),(28000,.cells [.vec 28001]),(13000,.cells [.clo C0 [] [.reg 41000 0,.p (.ptr [vSl 1 (cL 18 B5) z])]]),(11000,.cells [.vec 32000]),(10000,.cells [.clo C0 [] [.reg 28000 0,.p (.ptr [vSl 1 (cL 18 B5) y2])]]),(905,.ghost [pN d,pN (f.Laws.n:Int),.reg 13000 0,.p (.ptr [pI .i64 d]),.reg 11000 0,.reg 10000 0,.p (.ptr [vSl 2 B9 b]),.p (.ptr (A7 f)),.p (vSl 2 B6 m)])]⟩) (fun M18 k18 w h=>?_) (fun a2 h=>?_)
   .refine kG Z h (fun h=>?_) (fun h=>?_)
    .exact w _ [(905,905),(10000,10000),(11000,11000),(13000,13000),(28000,28000),(28001,28001),(32000,32000),(41000,41000),(41001,41001),(55002,55002),(75002,75002)] _ true Lu h
    refine kC Z h (DK Z Y) (fun a6 h=>?_);exact w _ [(905,905),(10000,10000),(11000,11000),(13000,13000),(28000,28000),(28001,28001),(32000,32000),(41000,41000),(41001,41001),(55002,55002),(75002,75002)] _ (!a6) Lu h
   apply kI Z h<;>intro h
   .obtain⟨c98,h⟩:=H4 h;exact r _ [(905,905),(10000,10000),(10500,55002),(11000,11000),(13000,13000),(13500,75002),(28000,28000),(28001,28001),(32000,32000),(41000,41000),(41001,41001)] _ (j.2.2,a.2.1.upd d.toNat (wrap .i64 ((a.2.1.g d.toNat)+1)),s.2.2) (And.intro (And.intro (And.intro c98.1.1.1 c98.1.1.2) c98.1.2) (And.intro (rfl:(1:Nat)=1) (And.intro c98.2 Lx))) h (hle:=klR [(1,.fn a.2.1.n (a.2.1.upd d.toNat (wrap .i64 ((a.2.1.g d.toNat)+1))).n (fun l=>if l=d.toNat then splice ((fun i=>cI .i64 (a.2.1.g i)) l) 0 [pI .i64 (wrap .i64 ((a.2.1.g d.toNat)+1))]else (fun i=>cI .i64 (a.2.1.g i)) l) (fun i=>cI .i64 ((a.2.1.upd d.toNat (wrap .i64 ((a.2.1.g d.toNat)+1))).g i)))] (al1 ⟨rfl,AS4 (c:=cI .i64) (v:=a.2.1) (x:=wrap .i64 ((a.2.1.g d.toNat)+1)) same (fun _=>by first|rfl|(dsimp only;split<;>rfl))⟩ al0))
   exact r _ [(905,905),(10000,10000),(10500,55002),(11000,11000),(13000,13000),(13500,75002),(28000,28000),(28001,28001),(32000,32000),(41000,41000),(41001,41001)] _ (j.2.2,a.2.1,s.2.2) Lu h
  exact a0 _ [(10000,10000),(10501,10500),(11000,11000),(28000,28000),(28001,28001),(32000,32000)] _ a.1 a.2.1 (wrap .i64 (d+1)) Lu h
 obtain rfl:=D4 h;exact B1 Z Lu ⟨[(7,pN 0),(6,.vec 32000)],[(32000,.vec F2 1 o.n (fun i=>cI .i64 (o.g i)) true)]⟩ [32000] (ids:=[(32000,32000)]) ⟨rfl,rfl,rfl⟩
def U2 (N:Nat)(j:A3)(l:Entry)(a:Sl (Sl Oh)):Option (Int×Int×Int):= (J4 N j).bind fun y1=>if (y1 != 0) then some (0,0,y1) else if (decide (256<(a.n:Int))) then some (0,0,12) else (M0 N j.Tree).bind fun y2=>(J7 N (Sl.of [l]:Sl Entry) (y2.1.n:Int)).bind fun y3=>if (y3 != 0) then some (0,0,y3) else (M8 N l.Forms).bind fun y4=>if (y4 != 0) then some (0,0,y4) else Q5 N (fun m (x1:Int)=>if (decide (x1<(a.n:Int))) then if ((0:Int)<=x1/\x1<(a.n:Int))then (J6 N (a.g x1.toNat)).bind fun y7=>if (y7 != 0) then some (0,0,y7) else m (wrap .i64 (x1+1)) else none else if ((a.n:Int)==0) then some (0,0,5) else (I5 N j (-1)).bind fun y8=>WM N (fun d (s:Sl (List (Str×C9))) (q:Int) (o:Int) (c:Int)=>if (decide (c<(a.n:Int))) then if ((0:Int)<=c/\c<(a.n:Int))then (K7 N (Sl.of [l]:Sl Entry)).bind fun t=>(D5 N t).bind fun L4=>N8 L4 (fun f (r:I3×(Sl Oh)) (b:(Sl (List (Str×C9)))×Int)=>(F0 N (⟨true,a.g c.toNat⟩:C9) r.1.leaf b.1 y8).bind fun i=>lt (fun (u:Bool)=>if u then f (i.2.2,wrap .i64 (b.2+1)) else f (i.2.2,b.2)) fun k12=>if i.2.1 then (P1 N i.1 r.2).bind fun v=>k12 v else k12 false) (fun (b:(Sl (List (Str×C9)))×Int)=>if (decide (o<b.2)) then d b.1 c b.2 (wrap .i64 (c+1)) else d b.1 q o (wrap .i64 (c+1))) (s,0) else none else some (q,o,0)) (⟨y8.n,fun _=>[]⟩:Sl (List (Str×C9))) 0 (-1) 0) 0
theorem Jz {m:A3}{b:Entry}{a:Sl (Sl Oh)}{y:Int×Int×Int}(h:U2 N m b a=some y) :FunO S Ja [.p (.agg (A7 m)),.p (.agg (B6 b)),.p (vSl 1 (cL 2 A0) a)] [] (.tup [pN y.1,pN y.2.1,pN y.2.2]) ([]) []:=by
 unfold U2 at h;refine A5 Z func27 ?_;refine N0 Z Lu 4 4000 (A7 m) ?_;refine N0 Z Lu 6 5000 [.str b.Gloss,vSl 2 B9 b.Forms] ?_;obtain⟨y1,e1,h⟩:=C4 h;refine D2 Z [] Ng (Bu Z Y e1) ?_;apply kI Z h<;>intro h
 .cases h;exact kR Z
 apply kI Z h<;>intro h
 .cases h;exact kR Z
 refine kC Z h (Bx Z Y) (fun y2 h=>?_);refine BF Z (And.intro Nf Ob) ⟨[(44,pN (y2.1.n:Int)),(42,.vec 43000),(4,.p (.ptr [.str b.Gloss,vSl 2 B9 b.Forms])),(3,.p (.ptr (A7 m))),(2,.p (vSl 1 (cL 2 A0) a))],[(43000,.vec T9 2 (Sl.of [b]:Sl Entry).n (fun i=>B6 ((Sl.of [b]:Sl Entry).g i)) false)]⟩ (ids:=[(43000,43000)]) ?_ (hle:=klR [(4,.fn 1 (Sl.of [b]:Sl Entry).n (E5 [.str [],M9] [(0,B6 b)]) (fun i=>B6 ((Sl.of [b]:Sl Entry).g i)))] (al1 ⟨rfl,(fun i t=>match i,t with|0,_=>rfl|_+1,t=>Lq t (by omega))⟩ al0));refine kC Z h (FZ Z Y) (fun y3 h=>?_);apply kI Z h<;>intro h
 .cases h;exact kR Z
 refine kC Z h (Ec Z Y) (fun y4 h=>?_);apply kI Z h<;>intro h
 .cases h;exact kR Z
 refine Ak Z Lu h (fun x1=>⟨[(57,pN x1),(56,pN (a.n:Int)),(55,.p (vSl 1 (cL 2 A0) a)),(4,.p (.ptr [.str b.Gloss,vSl 2 B9 b.Forms])),(3,.p (.ptr (A7 m))),(2,.p (vSl 1 (cL 2 A0) a))],[]⟩) (ids:=[]) (fun _ _ _ _ _ w x1 x h=>?_);apply kI Z h<;>intro h
 .obtain⟨c12,h⟩:=H4 h;obtain⟨y7,e7,h⟩:=C4 h;refine D2 Z [] c12 (Ba Z Y e7) ?_;apply kI Z h<;>intro h
  .cases h;exact kR Z
  exact x _ [] _ (wrap .i64 (x1+1)) Lu h
 apply kI Z h<;>intro h
 .cases h;exact kR Z
 obtain⟨y8,e8,h⟩:=C4 h;refine D2 Z [] Ng (AP Z Y e8) ?_;refine Az6 Z Lu h (fun f j l c=>⟨[(74,pN c),(73,pN (a.n:Int)),(72,.p (vSl 1 (cL 2 A0) a)),(19,pN l),(18,pN j),(17,.reg 18000 0),(4,.p (.ptr [.str b.Gloss,vSl 2 B9 b.Forms]))],[(72001,.fam A8 f.n 18502 none),(72000,.cells [.vec 72001]),(18502,.rows f.n fun i=>Gf (f.g i)),(18000,.cells [.clo C0 [] [.reg 72000 0,.p (.ptr [vSl 1 (cL 18 B5) y8])]])]⟩) (ids:=[(18000,18000),(18502,72002),(72000,72000),(72001,72001)]) (fun _ _ _ _ _ z f j l c q h=>?_);apply kI Z h<;>intro h
 .obtain⟨c61,h⟩:=H4 h;refine N0 Z c61 22 22000 [vSl 2 A0 (a.g c.toNat)] ?_;refine BF Z (And.intro Nf Ob) ⟨[(80,.vec 81000),(74,pN c),(73,pN (a.n:Int)),(72,.p (vSl 1 (cL 2 A0) a)),(22,.reg 23000 0),(21,.p (.ptr [vSl 2 A0 (a.g c.toNat)])),(20,pN c),(19,pN l),(18,pN j),(17,.reg 18000 0),(4,.p (.ptr [.str b.Gloss,vSl 2 B9 b.Forms]))],[(81000,.vec T9 2 (Sl.of [b]:Sl Entry).n (fun i=>B6 ((Sl.of [b]:Sl Entry).g i)) false),(72001,.fam A8 f.n 18502 none),(72000,.cells [.vec 72001]),(23000,.cells [pN 0]),(18502,.rows f.n fun i=>Gf (f.g i)),(18000,.cells [.clo C0 [] [.reg 72000 0,.p (.ptr [vSl 1 (cL 18 B5) y8])]])]⟩ (ids:=[(18000,18000),(18502,18502),(23000,23000),(72000,72000),(72001,72001),(81000,81000)]) ?_ (hle:=klR [(8,.fn 1 (Sl.of [b]:Sl Entry).n (E5 [.str [],M9] [(0,B6 b)]) (fun i=>B6 ((Sl.of [b]:Sl Entry).g i)))] (al1 ⟨rfl,(fun i t=>match i,t with|0,_=>rfl|_+1,t=>Lq t (by omega))⟩ al0));refine kC Z h (Ah Z Y) (fun a2 h=>?_);obtain⟨L4,e43,h⟩:=C4 h;refine DU Z Lu [82000] [74,73,72,22,21,20,19,18,17,4] 907 (fun d=>⟨[(74,pN c),(73,pN (a.n:Int)),(72,.p (vSl 1 (cL 2 A0) a)),(22,.reg 23000 0),(21,.p (.ptr [vSl 2 A0 (a.g c.toNat)])),(20,pN c),(19,pN l),(18,pN j),(17,.reg 18000 0),(4,.p (.ptr [.str b.Gloss,vSl 2 B9 b.Forms]))],[(72001,.fam A8 d.1.n 18500 none),(72000,.cells [.vec 72001]),(23000,.cells [pN d.2]),(18500,.rows d.1.n fun i=>Gf (d.1.g i)),(18000,.cells [.clo C0 [] [.reg 72000 0,.p (.ptr [vSl 1 (cL 18 B5) y8])]])]⟩) (idl:=[(18000,18000),(18500,18502),(23000,23000),(72000,72000),(72001,72001)]) h (U0 Z Y e43) (fun _=>by kernel_rfl) (fun _=>by kernel_rfl) (fun _=>by kernel_rfl) (fun _=>by kernel_rfl) (fun u _ a0 d r h=>?_) (fun d h=>?_)
  .refine N0 Z Lu 24 24000 [pI .i64 u.1.entry,pI .i64 u.1.leaf] ?_;refine Ie Z Lu ?_;obtain⟨o,e50,h⟩:=C4 h;refine D2 Z [72000,72001,18500] Lu (X0 Z Y e50) ?_;refine NR Z Lu (QC Z) h 0 (fun v=>⟨[(98,pB v),(22,.reg 23000 0)],[(91002,.rows o.2.2.n fun i=>Gf (o.2.2.g i)),(72001,.fam A8 o.2.2.n 91002 none),(72000,.cells [.vec 72001]),(23000,.cells [pN d.2]),(18000,.cells [.clo C0 [] [.reg 72000 0,.p (.ptr [vSl 1 (cL 18 B5) y8])]]),(907,.ghost [pN c,pN (a.n:Int),.p (vSl 1 (cL 2 A0) a),.reg 23000 0,.p (.ptr [vSl 2 A0 (a.g c.toNat)]),pN c,pN l,pN j,.reg 18000 0,.p (.ptr [.str b.Gloss,vSl 2 B9 b.Forms])])]⟩) (fun M12 k12 s h=>?_) (fun v h=>?_)
   .refine kG Z h (fun h=>?_) (fun h=>?_)
    .refine kC Z h (DK Z Y) (fun a1 h=>?_);exact s _ [(907,907),(18000,18000),(23000,23000),(72000,72000),(72001,72001),(91002,91002)] _ a1 Lu h
    exact s _ [(907,907),(18000,18000),(23000,23000),(72000,72000),(72001,72001),(91002,91002)] _ false Lu h
   apply kI Z h<;>intro h
   .exact r _ [(907,907),(18000,18000),(18500,91002),(23000,23000),(72000,72000),(72001,72001)] _ (o.2.2,wrap .i64 (d.2+1)) Lu h
   exact r _ [(907,907),(18000,18000),(18500,91002),(23000,23000),(72000,72000),(72001,72001)] _ (o.2.2,d.2) Lu h
  apply kI Z h<;>intro h
  .refine DT Z Lu ?_;refine P3 Lu ?_;exact q _ [(18000,18000),(18502,18500),(72000,72000),(72001,72001)] _ d.1 c d.2 (wrap .i64 (c+1)) Lu h
  exact q _ [(18000,18000),(18502,18500),(72000,72000),(72001,72001)] _ d.1 j l (wrap .i64 (c+1)) Lu h
 cases h;exact kR Z
end Go.AM
namespace Go.AM
open Go.Proofs
set_option maxRecDepth 10000
set_option maxHeartbeats 2000000
variable {S:Aj}(Z:H1 S Tryz.prog) (Y:Nk S)
include Z Y
def Z3 (N:Nat)  : Option Bool:= (FA N ).bind fun y1=>(Fz N ).bind fun y2=>(Nz N ).bind fun y3=>(Fz N ).bind fun y4=>(EI N (Sl.of [y2,y3,y4]:Sl Oh)).bind fun y5=>(Fz N ).bind fun y6=>(Rl N ).bind fun y7=>(EI N (Sl.of [y6,y7]:Sl Oh)).bind fun y8=>(FB N (Sl.of [y8,y5]:Sl C9)).bind fun y9=>(Fz N ).bind fun j=>(Nz N ).bind fun l=>(EI N (Sl.of [j,l]:Sl Oh)).bind fun m=>(FB N (Sl.of [m,y5]:Sl C9)).bind fun c=>(I8 N y1 (Sl.of [y5]:Sl C9) (Sl.of [y9]:Sl Entry) 5).bind fun d=>(I8 N y1 (Sl.of [y5]:Sl C9) (Sl.of [c]:Sl Entry) 5).bind fun f=>(U1 N y1 (Sl.of [y5]:Sl C9) (Sl.of [c]:Sl Entry)).bind fun a=>(Ee N y1 (Sl.of [y5]:Sl C9) (Sl.of [y9]:Sl Entry)).bind fun i=>if ((0:Int)<=0/\0<((Sl.of [y9]:Sl Entry).n:Int))then (Nz N ).bind fun o=>(Fz N ).bind fun q=>(Fz N ).bind fun r=>(Rl N ).bind fun s=>(Fz N ).bind fun t=>(U2 N y1 ((Sl.of [y9]:Sl Entry).g 0) (Sl.of [(Sl.of [o,q]:Sl Oh),y5.W,(Sl.of [r,s,t]:Sl Oh)]:Sl (Sl Oh))).bind fun b=>lt (fun (z1:Bool)=>some z1) fun k1=>if (d.2==0) then if (f.2==0) then if (a.2==0) then if (i.2==0) then if (b.2.2==0) then if ((d.1.n:Int)==0) then (Kq N f.1 (Sl.of [(⟨0,0,1,5⟩:A2)]:Sl A2)).bind fun u=>if u then if (((a.1.N==1)&&(a.1.D==2)) != false) then (Fy N i.1 (Sl.of [1,1]:Sl Int)).bind fun v=>if v then if (b.1==1) then k1 (b.2.1==2) else k1 false else k1 false else k1 false else k1 false else k1 false else k1 false else k1 false else k1 false else k1 false else k1 false else none
theorem Ip {N:Nat}    {y:Bool}(h:Z3 N  = some y) :FunO S ML [] [] (pB y) ([]) []:=by
 unfold Z3 at h;refine A5 Z Tryz.func16 ?_;refine kC Z h (Rm Z Y) (fun y1 h=>?_);refine N0 Z Lu 17 2000 (A7 y1) ?_;refine kC Z h (Io Z Y) (fun y2 h=>?_);refine kC Z h (VG Z Y) (fun y3 h=>?_);refine kC Z h (Io Z Y) (fun y4 h=>?_);refine BF Z Ob ⟨[(20,.vec 21000),(1,.p (.ptr (A7 y1)))],[(21000,.vec E3 2 (Sl.of [y2,y3,y4]:Sl Oh).n (fun i=>A0 ((Sl.of [y2,y3,y4]:Sl Oh).g i)) false)]⟩ (ids:=[(21000,21000)]) ?_ (hle:=klR [(1,.fn 3 (Sl.of [y2,y3,y4]:Sl Oh).n (E5 [pI .u32 0,pI .u32 0] [(0,A0 y2),(1,A0 y3),(2,A0 y4)]) (fun i=>A0 ((Sl.of [y2,y3,y4]:Sl Oh).g i)))] (al1 ⟨rfl,(fun i a=>match i,a with|0,_=>rfl|1,_=>rfl|2,_=>rfl|_+3,a=>Lq a (by omega))⟩ al0));refine kC Z h (Kr Z Y) (fun y5 h=>?_);refine AH5 Z Lu 3000 [.bb y5.Has,vSl 2 A0 y5.W] ?_;refine L7 Z Lu [0,1,3,4,6,8,9,11,12,14] ?_;obtain⟨y6,e6,h⟩:=C4 h;refine O0 Lu (Io Z Y e6) ?_;obtain⟨y7,e7,h⟩:=C4 h;refine O0 Lu (Ae0 Z Y e7) ?_;refine X9 Lu (x:=.sl true 2 2 (E5 [pI .u32 0,pI .u32 0] [(0,A0 y6),(1,A0 y7)])) ?_;obtain⟨y8,e8,h⟩:=C4 h;refine O0 Lu (FunO.le Z (args:=[.p (.sl true 2 2 (E5 [pI .u32 0,pI .u32 0] [(0,A0 y6),(1,A0 y7)]))]) (by exact⟨Mf rfl (fun i a=>match i,a with|0,_=>rfl|1,_=>rfl|_+2,a=>Lq a (by omega)),trivial⟩) (Kr Z Y e8)) ?_;refine X9 Nf (x:=.sl true 2 2 (E5 [.v (.bool false),M9] [(0,B9 y8),(1,B9 y5)])) ?_;obtain⟨y9,e9,h⟩:=C4 h;refine O0 Lu (FunO.le Z (args:=[.p (.sl true 2 2 (E5 [.v (.bool false),M9] [(0,B9 y8),(1,B9 y5)]))]) (by exact⟨Mf rfl (fun i a=>match i,a with|0,_=>rfl|1,_=>rfl|_+2,a=>Lq a (by omega)),trivial⟩) (NA Z Y e9)) ?_;refine X9 Lu (x:=.sl true 2 1 (E5 [.str [],M9] [(0,B6 y9)])) ?_;obtain⟨w,e10,h⟩:=C4 h;refine O0 Lu (Io Z Y e10) ?_;obtain⟨z,e11,h⟩:=C4 h;refine O0 Lu (VG Z Y e11) ?_;refine X9 Lu (x:=.sl true 2 2 (E5 [pI .u32 0,pI .u32 0] [(0,A0 w),(1,A0 z)])) ?_;obtain⟨a0,e12,h⟩:=C4 h;refine O0 Lu (FunO.le Z (args:=[.p (.sl true 2 2 (E5 [pI .u32 0,pI .u32 0] [(0,A0 w),(1,A0 z)]))]) (by exact⟨Mf rfl (fun i a=>match i,a with|0,_=>rfl|1,_=>rfl|_+2,a=>Lq a (by omega)),trivial⟩) (Kr Z Y e12)) ?_;refine X9 Nf (x:=.sl true 2 2 (E5 [.v (.bool false),M9] [(0,B9 a0),(1,B9 y5)])) ?_;obtain⟨j,e13,h⟩:=C4 h;refine O0 Lu (FunO.le Z (args:=[.p (.sl true 2 2 (E5 [.v (.bool false),M9] [(0,B9 a0),(1,B9 y5)]))]) (by exact⟨Mf rfl (fun i a=>match i,a with|0,_=>rfl|1,_=>rfl|_+2,a=>Lq a (by omega)),trivial⟩) (NA Z Y e13)) ?_;refine X9 Lu (x:=.sl true 2 1 (E5 [.str [],M9] [(0,B6 j)])) ?_;refine P3 Lu ?_;refine BF Z (And.intro (And.intro Ng Nf) Ob) ⟨[(42,.p (vSl 2 B6 (Sl.of [y9]:Sl Entry))),(41,.vec 42000),(39,.p (.agg (A7 y1))),(4,.p (vSl 2 B6 (Sl.of [j]:Sl Entry))),(3,.p (vSl 2 B6 (Sl.of [y9]:Sl Entry))),(2,.p (.ptr [.bb y5.Has,vSl 2 A0 y5.W])),(1,.p (.ptr (A7 y1)))],[(42000,.vec Q7 2 (Sl.of [y5]:Sl C9).n (fun i=>B9 ((Sl.of [y5]:Sl C9).g i)) false)]⟩ (ids:=[(42000,42000)]) ?_ (hle:=klR [(0,.fn 1 (Sl.of [y9]:Sl Entry).n (E5 [.str [],M9] [(0,B6 y9)]) (fun i=>B6 ((Sl.of [y9]:Sl Entry).g i))),(2,.fn 1 (Sl.of [j]:Sl Entry).n (E5 [.str [],M9] [(0,B6 j)]) (fun i=>B6 ((Sl.of [j]:Sl Entry).g i))),(3,.fn 1 (Sl.of [y9]:Sl Entry).n (E5 [.str [],M9] [(0,B6 y9)]) (fun i=>B6 ((Sl.of [y9]:Sl Entry).g i))),(6,.fn 1 (Sl.of [y5]:Sl C9).n (E5 [.v (.bool false),M9] [(0,B9 y5)]) (fun i=>B9 ((Sl.of [y5]:Sl C9).g i)))] (al1 ⟨rfl,(fun i a=>match i,a with|0,_=>rfl|_+1,a=>Lq a (by omega))⟩ (al1 ⟨rfl,(fun i a=>match i,a with|0,_=>rfl|_+1,a=>Lq a (by omega))⟩ (al1 ⟨rfl,(fun i a=>match i,a with|0,_=>rfl|_+1,a=>Lq a (by omega))⟩ (al1 ⟨rfl,(fun i a=>match i,a with|0,_=>rfl|_+1,a=>Lq a (by omega))⟩ al0)))));refine kC Z h (Cu Z Y) (fun d h=>?_);refine BF Z (And.intro (And.intro Ng Nf) Ob) ⟨[(50,.p (vSl 2 B6 (Sl.of [j]:Sl Entry))),(49,.vec 50000),(47,.p (.agg (A7 y1))),(6,pN d.2),(5,.vec 44000),(4,.p (vSl 2 B6 (Sl.of [j]:Sl Entry))),(3,.p (vSl 2 B6 (Sl.of [y9]:Sl Entry))),(2,.p (.ptr [.bb y5.Has,vSl 2 A0 y5.W])),(1,.p (.ptr (A7 y1)))],[(50000,.vec Q7 2 (Sl.of [y5]:Sl C9).n (fun i=>B9 ((Sl.of [y5]:Sl C9).g i)) false),(44000,.vec E2 4 d.1.n (fun i=>B7 (d.1.g i)) false)]⟩ (ids:=[(44000,44000),(50000,50000)]) ?_ (hle:=klR [(7,.fn 1 (Sl.of [y5]:Sl C9).n (E5 [.v (.bool false),M9] [(0,B9 y5)]) (fun i=>B9 ((Sl.of [y5]:Sl C9).g i)))] (al1 ⟨rfl,(fun i a=>match i,a with|0,_=>rfl|_+1,a=>Lq a (by omega))⟩ al0));refine kC Z h (Cu Z Y) (fun l h=>?_);refine BF Z (And.intro (And.intro Ng Nf) Ob) ⟨[(58,.p (vSl 2 B6 (Sl.of [j]:Sl Entry))),(57,.vec 58000),(55,.p (.agg (A7 y1))),(8,pN l.2),(7,.vec 52000),(6,pN d.2),(5,.vec 44000),(3,.p (vSl 2 B6 (Sl.of [y9]:Sl Entry))),(2,.p (.ptr [.bb y5.Has,vSl 2 A0 y5.W])),(1,.p (.ptr (A7 y1)))],[(58000,.vec Q7 2 (Sl.of [y5]:Sl C9).n (fun i=>B9 ((Sl.of [y5]:Sl C9).g i)) false),(52000,.vec E2 4 l.1.n (fun i=>B7 (l.1.g i)) false),(44000,.vec E2 4 d.1.n (fun i=>B7 (d.1.g i)) false)]⟩ (ids:=[(44000,44000),(52000,52000),(58000,58000)]) ?_ (hle:=klR [(7,.fn 1 (Sl.of [y5]:Sl C9).n (E5 [.v (.bool false),M9] [(0,B9 y5)]) (fun i=>B9 ((Sl.of [y5]:Sl C9).g i)))] (al1 ⟨rfl,(fun i a=>match i,a with|0,_=>rfl|_+1,a=>Lq a (by omega))⟩ al0));refine kC Z h (Jy Z Y) (fun f h=>?_);refine N0 Z Lu 10 10000 [pI .i64 f.1.N,pI .i64 f.1.D] ?_;refine BF Z (And.intro (And.intro Ng Nf) Ob) ⟨[(66,.p (vSl 2 B6 (Sl.of [y9]:Sl Entry))),(65,.vec 66000),(63,.p (.agg (A7 y1))),(10,pN f.2),(9,.p (.ptr [pI .i64 f.1.N,pI .i64 f.1.D])),(8,pN l.2),(7,.vec 52000),(6,pN d.2),(5,.vec 44000),(3,.p (vSl 2 B6 (Sl.of [y9]:Sl Entry))),(2,.p (.ptr [.bb y5.Has,vSl 2 A0 y5.W])),(1,.p (.ptr (A7 y1)))],[(66000,.vec Q7 2 (Sl.of [y5]:Sl C9).n (fun i=>B9 ((Sl.of [y5]:Sl C9).g i)) false),(52000,.vec E2 4 l.1.n (fun i=>B7 (l.1.g i)) false),(44000,.vec E2 4 d.1.n (fun i=>B7 (d.1.g i)) false)]⟩ (ids:=[(44000,44000),(52000,52000),(66000,66000)]) ?_ (hle:=klR [(9,.fn 1 (Sl.of [y5]:Sl C9).n (E5 [.v (.bool false),M9] [(0,B9 y5)]) (fun i=>B9 ((Sl.of [y5]:Sl C9).g i)))] (al1 ⟨rfl,(fun i a=>match i,a with|0,_=>rfl|_+1,a=>Lq a (by omega))⟩ al0));refine kC Z h (OF Z Y) (fun o h=>?_);refine L7 Z Lu [0,2,3,4,5,8,9,10,11,14] ?_;obtain⟨c1,h⟩:=H4 h;obtain⟨q,e18,h⟩:=C4 h;refine O0 (And.intro (And.intro Ng c1) Nf) (VG Z Y e18) ?_;obtain⟨r,e19,h⟩:=C4 h;refine O0 Lu (Io Z Y e19) ?_;refine X9 Lu (x:=.sl true 2 2 (E5 [pI .u32 0,pI .u32 0] [(0,A0 q),(1,A0 r)])) ?_;obtain⟨s,e20,h⟩:=C4 h;refine O0 Lu (Io Z Y e20) ?_;obtain⟨t,e21,h⟩:=C4 h;refine O0 Lu (Ae0 Z Y e21) ?_;obtain⟨u,e22,h⟩:=C4 h;refine O0 Lu (Io Z Y e22) ?_;refine X9 Lu (x:=.sl true 2 3 (E5 [pI .u32 0,pI .u32 0] [(0,A0 s),(1,A0 t),(2,A0 u)])) ?_;refine X9 Lu (x:=.sl true 1 3 (E5 [M9] [(0,[.sl true 2 2 (E5 [pI .u32 0,pI .u32 0] [(0,A0 q),(1,A0 r)])]),(1,[vSl 2 A0 y5.W]),(2,[.sl true 2 3 (E5 [pI .u32 0,pI .u32 0] [(0,A0 s),(1,A0 t),(2,A0 u)])])])) ?_;obtain⟨m,e23,h⟩:=C4 h;refine O0 Lu (FunO.le Z (args:=[(.p (.agg (A7 y1))),.p (.agg (B6 ((Sl.of [y9]:Sl Entry).g 0))),.p (.sl true 1 3 (E5 [M9] [(0,[.sl true 2 2 (E5 [pI .u32 0,pI .u32 0] [(0,A0 q),(1,A0 r)])]),(1,[vSl 2 A0 y5.W]),(2,[.sl true 2 3 (E5 [pI .u32 0,pI .u32 0] [(0,A0 s),(1,A0 t),(2,A0 u)])])]))]) (by exact⟨.inl rfl,⟨.inl rfl,⟨AQ3 rfl (fun i a=>match i,a with|0,_=>leC1 rfl (fun i a=>match i,a with|0,_=>rfl|1,_=>rfl|_+2,a=>Lq a (by omega))|1,_=>leC1 rfl (fun _ _=>rfl)|2,_=>leC1 rfl (fun i a=>match i,a with|0,_=>rfl|1,_=>rfl|2,_=>rfl|_+3,a=>Lq a (by omega))|_+3,a=>Lq a (by omega)),trivial⟩⟩⟩) (Jz Z Y e23)) ?_;refine P3 Lu ?_;refine NR Z Lu (B3 Z) h 0 (fun z1=>⟨[(0,pB z1)],[]⟩) (fun M1 k1 c h=>?_) (fun z1 h=>?_)
 .refine kG Z h (fun h=>?_) (fun h=>?_)
  .refine kG Z h (fun h=>?_) (fun h=>?_)
   .refine kG Z h (fun h=>?_) (fun h=>?_)
    .refine kG Z h (fun h=>?_) (fun h=>?_)
     .refine kG Z h (fun h=>?_) (fun h=>?_)
      .refine kG Z h (fun h=>?_) (fun h=>?_)
       .refine BF Z Ob ⟨[(115,.vec 116000),(113,.vec 52000),(112,.p (.v (.bool true))),(14,pN m.2.1),(13,pN m.1),(11,.vec 68000),(9,.p (.ptr [pI .i64 f.1.N,pI .i64 f.1.D]))],[(116000,.vec E2 4 (Sl.of [(⟨0,0,1,5⟩:A2)]:Sl A2).n (fun i=>B7 ((Sl.of [(⟨0,0,1,5⟩:A2)]:Sl A2).g i)) false),(68000,.vec F2 1 o.1.n (fun i=>cI .i64 (o.1.g i)) true),(52000,.vec E2 4 l.1.n (fun i=>B7 (l.1.g i)) false)]⟩ (ids:=[(52000,52000),(68000,68000),(116000,116000)]) ?_ (hle:=klR [(4,.fn 1 (Sl.of [(⟨0,0,1,5⟩:A2)]:Sl A2).n (E5 [pI .i64 0,pI .i64 0,pI .i64 0,pI .i64 0] [(0,B7 (⟨0,0,1,5⟩:A2))]) (fun i=>B7 ((Sl.of [(⟨0,0,1,5⟩:A2)]:Sl A2).g i)))] (al1 ⟨rfl,(fun i a=>match i,a with|0,_=>rfl|_+1,a=>Lq a (by omega))⟩ al0));refine kC Z h (YR Z Y) (fun a1 h=>?_);refine kG Z h (fun h=>?_) (fun h=>?_)
        .refine Cz Z (And.intro Nf (by decide +kernel:XW Tryz.prog Py=true)) (b:=((f.1.N==1)&&(f.1.D==2)) != false) (fun c25=>?_) (fun c25=>?_)
         .replace h:=itT c25 h;refine BF Z Ob ⟨[(125,.vec 126000),(124,.vec 68000),(123,.p (.v (.bool true))),(14,pN m.2.1),(13,pN m.1)],[(126000,.vec F2 1 (Sl.of [1,1]:Sl Int).n (fun i=>cI .i64 ((Sl.of [1,1]:Sl Int).g i)) false),(68000,.vec F2 1 o.1.n (fun i=>cI .i64 (o.1.g i)) true)]⟩ (ids:=[(68000,68000),(126000,126000)]) ?_ (hle:=klR [(3,.fn 2 (Sl.of [1,1]:Sl Int).n (E5 [pI .i64 0] [(0,cI .i64 1),(1,cI .i64 1)]) (fun i=>cI .i64 ((Sl.of [1,1]:Sl Int).g i)))] (al1 ⟨rfl,(fun i a=>match i,a with|0,_=>rfl|1,_=>rfl|_+2,a=>Lq a (by omega))⟩ al0));refine kC Z h (Rk Z Y) (fun a2 h=>?_);refine kG Z h (fun h=>?_) (fun h=>?_)
          .refine kG Z h (fun h=>?_) (fun h=>?_)
           .exact c _ [] _ (m.2.1==2) Lu h
           exact c _ [] _ false Lu h
          exact c _ [] _ false Lu h
         replace h:=itF c25 h;exact c _ [] _ false Lu h
        exact c _ [] _ false Lu h
       exact c _ [] _ false Lu h
      exact c _ [] _ false Lu h
     exact c _ [] _ false Lu h
    exact c _ [] _ false Lu h
   exact c _ [] _ false Lu h
  exact c _ [] _ false Lu h
 cases h;exact kR Z
end Go.AM
namespace Go.AM
open Go.Proofs.Tryz
variable {N:Nat}
open IntKind (wrap)
open Go.Proofs
set_option maxRecDepth 10000
set_option maxHeartbeats 2000000
variable {S:Aj}(Z:H1 S Tryz.prog) (Y:Nk S)
abbrev U3 (a b:I3):Bool:=((a.entry==b.entry)&&(a.leaf==b.leaf))
abbrev AJ9 (es:List (I3×Bool)):Obj:=.map (IU (fun x=>.agg (Al x)) PV.bb es)
abbrev AO7 (es:List (I3×Bool)):List Obj:=[.cells [.mref 1],AJ9 es]
include Z Y
def I6 (N:Nat)(x:A2)(es:List (I3×Bool)):Option Bool:= Az3 (W7 U3 (⟨x.Entry,x.Leaf⟩:I3) es) (some true) fun v=>some (!v)
theorem Iq {x:A2}{es:List (I3×Bool)}{y:Bool}(h:I6 N x es=some y) :FunO S P7 [.p (.agg (B7 x)),.reg 0 0] (AO7 es) (pB y) (AO7 es) [true,true]:=by
 unfold I6 at h;refine A5 Z func64 ?_;rcases o1:W7 U3 (⟨x.Entry,x.Leaf⟩:I3) es with _|v1
 .replace h:=AY6 o1 h;refine GY Z Lu (kt:=V9) (e:=Xh) (key:=(fun x=>.agg (Al x)) (⟨x.Entry,x.Leaf⟩:I3)) (es:=IU (fun x=>.agg (Al x)) PV.bb es) (x:=.v (.bool false)) (b:=false) (fd:=none) ((Bl (kP:=fun x=>.agg (Al x)) (vP:=PV.bb) (eq:=U3) (fun _ _=>by kernel_rfl) (⟨x.Entry,x.Leaf⟩:I3) es).trans (by rw[o1];rfl)) (by decide +kernel:XW Tryz.prog V9=true) ?_;obtain rfl:=D4 h;exact B1 Z Lu ⟨[(3,pB true)],[(1,AJ9 es),(0,.cells [.mref 1])]⟩ [0,1] (ids:=[(0,0),(1,1)]) ⟨rfl,rfl,rfl⟩
 replace h:=AY7 o1 h;refine GY Z Lu (kt:=V9) (e:=Xh) (key:=(fun x=>.agg (Al x)) (⟨x.Entry,x.Leaf⟩:I3)) (es:=IU (fun x=>.agg (Al x)) PV.bb es) (x:=PV.bb v1) (b:=true) (fd:=some (PV.bb v1)) ((Bl (kP:=fun x=>.agg (Al x)) (vP:=PV.bb) (eq:=U3) (fun _ _=>by kernel_rfl) (⟨x.Entry,x.Leaf⟩:I3) es).trans (by rw[o1];rfl)) (by decide +kernel:XW Tryz.prog V9=true) ?_;obtain rfl:=D4 h;exact B1 Z Lu ⟨[(3,pB (!v1))],[(1,AJ9 es),(0,.cells [.mref 1])]⟩ [0,1] (ids:=[(0,0),(1,1)]) ⟨rfl,rfl,rfl⟩
def B8 (N:Nat)(a:Sl A2)(c:A2->Option Bool):Option Int:= Q5 N (fun b (x1:Int)=>if (decide (x1<(a.n:Int))) then if ((0:Int)<=x1/\x1<(a.n:Int))then (c (a.g x1.toNat)).bind fun y3=>if y3 then some x1 else b (wrap .i64 (x1+1)) else none else some (-1)) 0
theorem Rn {a:Sl A2}{es:List (I3×Bool)}{y:Int}(h:B8 N a (fun x=>I6 N x es)=some y) :FunO S H5 [.p (vSl 4 B7 a),.clo P7 [] [.reg 0 0]] (AO7 es) (pN y) (AO7 es) [true,true]:=by
 unfold B8 at h;refine A5 Z func95 ?_;refine Ak Z Lu h (fun x1=>⟨[(8,pN x1),(7,pN (a.n:Int)),(1,.clo P7 [] [.reg 0 0]),(0,.p (vSl 4 B7 a))],[(1,AJ9 es),(0,.cells [.mref 1])]⟩) (ids:=[(0,0),(1,1)]) (fun _ _ _ _ _ b x1 c h=>?_);apply kI Z h<;>intro h
 .obtain⟨c8,h⟩:=H4 h;obtain⟨y3,e3,h⟩:=C4 h;refine D2 Z [0,1] (And.intro c8 Nh) (Iq Z Y e3) ?_;apply kI Z h<;>intro h
  .obtain rfl:=D4 h;exact B1 Z Lu ⟨[(4,pN x1)],[(1,AJ9 es),(0,.cells [.mref 1])]⟩ [0,1] (ids:=[(0,0),(1,1)]) ⟨rfl,rfl,rfl⟩
  exact c _ [(0,0),(1,1)] _ (wrap .i64 (x1+1)) Lu h
 obtain rfl:=D4 h;exact B1 Z Lu ⟨[(4,pN (-1))],[(1,AJ9 es),(0,.cells [.mref 1])]⟩ [0,1] (ids:=[(0,0),(1,1)]) ⟨rfl,rfl,rfl⟩
def V6 (N:Nat)(a:Sl A2)(es:List (I3×Bool)):Option Bool:= (B8 N a (fun x=>I6 N x es)).bind fun y1=>some (decide (0<=y1))
theorem LF {a:Sl A2}{es:List (I3×Bool)}{y:Bool}(h:V6 N a es=some y) :FunO S G4 [.p (vSl 4 B7 a),.clo P7 [] [.reg 0 0]] (AO7 es) (pB y) (AO7 es) [true,true]:=by unfold V6 at h;refine A5 Z func63 ?_;obtain⟨y1,e1,h⟩:=C4 h;refine D2 Z [0,1] Lu (Rn Z Y e1) ?_;obtain rfl:=D4 h;exact B1 Z Lu ⟨[(4,pB (decide (0<=y1)))],[(1,AJ9 es),(0,.cells [.mref 1])]⟩ [0,1] (ids:=[(0,0),(1,1)]) ⟨rfl,rfl,rfl⟩
end Go.AM
namespace Go.AM
open IntKind (wrap)
open Go.Proofs
set_option maxRecDepth 10000
set_option maxHeartbeats 2000000
variable {S:Aj}(Z:H1 S Tryz.prog) (Y:Nk S)
include Z Y
def K8 (N:Nat)(d:A3)(b:Sl C9)(f:Sl Entry)(a:Sl A2):Option (Bool×Int):= (I8 N d b f 0).bind fun y1=>if (y1.2 != 0) then some (false,y1.2) else (M0 N d.Tree).bind fun y2=>Q3 N (fun c (x1:List (I3×Bool)) (x2:Int)=>if (decide (x2<(a.n:Int))) then if ((0:Int)<=x2/\x2<(a.n:Int))then if ((((decide ((a.g x2.toNat).Entry<0))||(decide ((f.n:Int)<=(a.g x2.toNat).Entry)))||(decide ((a.g x2.toNat).Leaf<0)))||(decide ((y2.1.n:Int)<=(a.g x2.toNat).Leaf))) then some (false,3) else c (Hq U3 (⟨(a.g x2.toNat).Entry,(a.g x2.toNat).Leaf⟩:I3) true x1) (wrap .i64 (x2+1)) else none else (V6 N y1.1 x1).bind fun y3=>some (!y3,0)) [] 0
theorem Ks {N:Nat}{f:A3}{c:Sl C9}{d:Sl Entry}{b:Sl A2}{y:Bool×Int}(h:K8 N f c d b=some y) :FunO S Ez [.p (.agg (A7 f)),.p (vSl 2 B9 c),.p (vSl 2 B6 d),.p (vSl 4 B7 b)] [] (.tup [pB y.1,pN y.2]) ([]) []:=by
 unfold K8 at h;refine A5 Z Tryz.func33 ?_;refine kC Z h (Cu Z Y) (fun y1 h=>?_);apply kI Z h<;>intro h
 .cases h;exact kR Z
 refine kC Z h (Bx Z Y) (fun y2 h=>?_);refine R4 Z Lu h (fun x1 x2=>⟨[(36,pN x2),(35,pN (b.n:Int)),(34,.p (vSl 4 B7 b)),(14,.reg 15000 0),(12,.vec 31000),(10,.vec 22000),(2,.p (vSl 2 B6 d))],[(34000,.map (IU (fun x=>.agg (Al x)) PV.bb x1)),(31000,.vec F2 1 y2.1.n (fun i=>cI .i64 (y2.1.g i)) true),(22000,.vec E2 4 y1.1.n (fun i=>B7 (y1.1.g i)) false),(15000,.cells [.mref 34000])]⟩) (ids:=[(15000,15000),(22000,22000),(31000,31000),(34000,34000)]) (fun _ _ _ _ _ j x1 x2 l h=>?_);apply kI Z h<;>intro h
 .obtain⟨c9,h⟩:=H4 h;refine kB Z (B3 Z) (And.intro c9 Nh) Lu 18 (.o (.o (.o (.a (decide ((b.g x2.toNat).Entry<0))) (.a (decide ((d.n:Int)<=(b.g x2.toNat).Entry)))) (.a (decide ((b.g x2.toNat).Leaf<0)))) (.a (decide ((y2.1.n:Int)<=(b.g x2.toNat).Leaf)))) ?_;apply kI Z h<;>intro h
  .cases h;exact kR Z
  refine LN Z Lu (kt:=V9) (key:=(fun x=>.agg (Al x)) (⟨(b.g x2.toNat).Entry,(b.g x2.toNat).Leaf⟩:I3)) (y:=PV.bb true) (es:=IU (fun x=>.agg (Al x)) PV.bb x1) (GX (kP:=fun x=>.agg (Al x)) (vP:=PV.bb) (eq:=U3) (fun _ _=>by kernel_rfl) (⟨(b.g x2.toNat).Entry,(b.g x2.toNat).Leaf⟩:I3) true x1) (by decide +kernel:XW Tryz.prog V9=true) ?_;exact l _ [(15000,15000),(22000,22000),(31000,31000),(34000,34000)] _ (Hq U3 (⟨(b.g x2.toNat).Entry,(b.g x2.toNat).Leaf⟩:I3) true x1) (wrap .i64 (x2+1)) Lu h
 obtain⟨y3,e3,h⟩:=C4 h;refine D2 Z [15000,34000] Lu (LF Z Y e3) ?_;cases h;exact kR Z
end Go.AM
namespace Go.AM
open Go.Proofs
set_option maxRecDepth 10000
set_option maxHeartbeats 2000000
variable {S:Aj}(Z:H1 S Tryz.prog) (Y:Nk S)
include Z Y
end Go.AM
namespace Go.AM
open IntKind (wrap)
open Go.Proofs
set_option maxRecDepth 10000
set_option maxHeartbeats 2000000
variable {S:Aj}(Z:H1 S Tryz.prog) (Y:Nk S)
include Z Y
def AQ (N:Nat)(d:A3)(a:Sl (Sl Oh)):Option Bool:= (Du N d).bind fun y1=>lt (fun (z1:Bool)=>if z1 then (Z3 N ).bind fun y4=>some y4 else (M0 N d.Tree).bind fun y5=>if (y5.2 != 0) then some false else WM N (fun o (x6:Sl C9) (x7:Sl Entry) (x8:Int) (x9:Int)=>if (decide (x9<(a.n:Int))) then if ((0:Int)<=x9/\x9<(a.n:Int))then lt (fun (z4:Bool)=>if z4 then (Z3 N ).bind fun x=>some x else YA N (fun j (q:Int) (c:Sl C9) (f:Int)=>if (decide (f<(y5.1.n:Int))) then if ((((0:Int)<=x9/\x9<(a.n:Int))/\((0:Int)<=f/\f<(y5.1.n:Int)))/\f.toNat<y5.1.n)then (Co N d (a.g x9.toNat) (y5.1.g f.toNat)).bind fun m=>if (m.2==0) then if ((c.n+(Sl.of [(⟨true,m.1⟩:C9)]:Sl C9).n)*32<=140737488355328/\c.n+(Sl.of [(⟨true,m.1⟩:C9)]:Sl C9).n<=140737488355328)then j (wrap .i64 (q+1)) (c.push (⟨true,m.1⟩:C9)) (wrap .i64 (f+1)) else none else if ((c.n+(Sl.of [(⟨false,Od⟩:C9)]:Sl C9).n)*32<=140737488355328/\c.n+(Sl.of [(⟨false,Od⟩:C9)]:Sl C9).n<=140737488355328)then j q (c.app (Sl.of [(⟨false,Od⟩:C9)]:Sl C9)) (wrap .i64 (f+1)) else none else none else if (((0:Int)<=x9/\x9<(a.n:Int))/\((x6.n+(Sl.of [(⟨true,a.g x9.toNat⟩:C9)]:Sl C9).n)*32<=140737488355328/\x6.n+(Sl.of [(⟨true,a.g x9.toNat⟩:C9)]:Sl C9).n<=140737488355328))then if ((x7.n+(Sl.of [(⟨[103],c⟩:Entry)]:Sl Entry).n)*40<=140737488355328/\x7.n+(Sl.of [(⟨[103],c⟩:Entry)]:Sl Entry).n<=140737488355328)then o (x6.push (⟨true,a.g x9.toNat⟩:C9)) (x7.push (⟨[103],c⟩:Entry)) q (wrap .i64 (x9+1)) else none else none) x8 (Sl.nil:Sl C9) 0) fun k4=>if (decide (100<((a.g x9.toNat).n:Int))) then k4 true else if ((0:Int)<=x9/\x9<(a.n:Int))then (J6 N (a.g x9.toNat)).bind fun y=>k4 (y != 0) else none else none else (I8 N d x6 x7 1).bind fun v=>(U1 N d x6 x7).bind fun r=>(K8 N d x6 x7 (Sl.nil:Sl A2)).bind fun w=>if ((((((v.2 != 0)||(r.2 != 0))||(w.2 != 0))||((v.1.n:Int) != 0))||(!w.1))||((decide (0<x8))&&(((r.1.N==1)&&(r.1.D==1)) != true))) then some false else Q5 N (fun s (b:Int)=>if (decide (b<(x7.n:Int))) then Q3 N (fun l (t:Int) (i:Int)=>if (decide (i<(y5.1.n:Int))) then if ((((0:Int)<=b/\b<(x7.n:Int))/\b.toNat<x7.n)/\((0:Int)<=i/\i<((x7.g b.toNat).Forms.n:Int)))then if ((x7.g b.toNat).Forms.g i.toNat).Has then l (wrap .i64 (t+1)) (wrap .i64 (i+1)) else l t (wrap .i64 (i+1)) else none else if (((((0:Int)<=b/\b<(x7.n:Int))/\b.toNat<x7.n)/\((0:Int)<=b/\b<(a.n:Int)))/\((0:Int)<=0/\0<(a.n:Int)))then (U2 N d (x7.g b.toNat) (Sl.of [a.g b.toNat,a.g 0]:Sl (Sl Oh))).bind fun u=>if (((u.2.2 != 0)||(u.1 != 0))||(u.2.1 != t)) then some false else s (wrap .i64 (b+1)) else none) 0 0 else (Z3 N ).bind fun z=>some z) 0) (Sl.nil:Sl C9) (Sl.nil:Sl Entry) 0 0) fun k1=>if (!y1) then k1 true else (J4 N d).bind fun y3=>if (y3 != 0) then k1 true else k1 (decide (6<(a.n:Int)))
theorem Ln {N:Nat}{j:A3}{d:Sl (Sl Oh)}{y:Bool}(h:AQ N j d=some y) :FunO S Cw [.p (.agg (A7 j)),.p (vSl 1 (cL 2 A0) d)] [] (pB y) ([]) []:=by
 unfold AQ at h;refine A5 Z FJ ?_;refine N0 Z Lu 4 3000 (A7 j) ?_;obtain⟨y1,e1,h⟩:=C4 h;refine D2 Z [] Ng (VF Z Y e1) ?_;refine NR Z Lu (B3 Z) h 0 (fun z1=>⟨[(39,pB z1),(2,.p (.ptr (A7 j))),(1,.p (vSl 1 (cL 2 A0) d))],[]⟩) (fun M1 k1 a5 h=>?_) (fun z1 h=>?_)
 .refine kG Z h (fun h=>?_) (fun h=>?_)
  .exact a5 _ [] _ true Lu h
  obtain⟨y3,e3,h⟩:=C4 h;refine D2 Z [] Ng (Bu Z Y e3) ?_;refine kG Z h (fun h=>?_) (fun h=>?_)
  .exact a5 _ [] _ true Lu h
  exact a5 _ [] _ (decide (6<(d.n:Int))) Lu h
 apply kI Z h<;>intro h
 .refine kC Z h (Ip Z Y) (fun y4 h=>?_);cases h;exact kR Z
 refine kC Z h (Bx Z Y) (fun y5 h=>?_);apply kI Z h<;>intro h
 .cases h;exact kR Z
 refine Az6 Z Lu h (fun x6 x7 x8 x9=>⟨[(10,pN x9),(9,pN x8),(8,.vec 9500),(7,.vec 8500),(5,.vec 45000),(2,.p (.ptr (A7 j))),(1,.p (vSl 1 (cL 2 A0) d))],[(45000,.vec F2 1 y5.1.n (fun i=>cI .i64 (y5.1.g i)) true),(9500,.vec T9 2 x7.n (fun i=>B6 (x7.g i)) false),(8500,.vec Q7 2 x6.n (fun i=>B9 (x6.g i)) false)]⟩) (ids:=[(45000,45000)]) (fun _ _ _ _ _ self3 x6 x7 x8 x9 hb6 h=>?_);apply kI Z h<;>intro h
 .obtain⟨c49,h⟩:=H4 h;refine NR Z c49 (B3 Z) h 0 (fun z4=>⟨[(68,pB z4),(10,pN x9),(9,pN x8),(8,.vec 9500),(7,.vec 8500),(5,.vec 45000),(2,.p (.ptr (A7 j))),(1,.p (vSl 1 (cL 2 A0) d))],[(45000,.vec F2 1 y5.1.n (fun i=>cI .i64 (y5.1.g i)) true),(9500,.vec T9 2 x7.n (fun i=>B6 (x7.g i)) false),(8500,.vec Q7 2 x6.n (fun i=>B9 (x6.g i)) false)]⟩) (fun M4 k4 hb7 h=>?_) (fun z4 h=>?_)
  .refine kG Z h (fun h=>?_) (fun h=>?_)
   .exact hb7 _ [(8500,8500),(9500,9500),(45000,45000)] _ true Lu h
   obtain⟨c54,h⟩:=H4 h;obtain⟨y19,e19,h⟩:=C4 h;refine D2 Z [] c54 (Ba Z Y e19) ?_;exact hb7 _ [(8500,8500),(9500,9500),(45000,45000)] _ (y19 != 0) Lu h
  apply kI Z h<;>intro h
  .refine kC Z h (Ip Z Y) (fun y20 h=>?_);cases h;exact kR Z
  refine Po Z Lu h (fun s f a1=>⟨[(12,pN a1),(11,.reg 12000 0),(10,pN x9),(9,pN s),(8,.vec 9500),(7,.vec 8500),(5,.vec 45000),(2,.p (.ptr (A7 j))),(1,.p (vSl 1 (cL 2 A0) d))],[(45000,.vec F2 1 y5.1.n (fun i=>cI .i64 (y5.1.g i)) true),(12500,.vec Q7 2 f.n (fun i=>B9 (f.g i)) false),(12000,.cells [.p (.str [103]),.vec 12500]),(9500,.vec T9 2 x7.n (fun i=>B6 (x7.g i)) false),(8500,.vec Q7 2 x6.n (fun i=>B9 (x6.g i)) false)]⟩) (ids:=[(8500,8500),(9500,9500),(12000,12000),(45000,45000)]) (fun _ _ _ _ _ self4 s f a1 hb8 h=>?_);apply kI Z h<;>intro h
  .refine L7 Z Lu [0,3,4,9] ?_;obtain⟨c63,h⟩:=H4 h;obtain⟨t,e23,h⟩:=C4 h;refine O0 (And.intro (And.intro (And.intro Ng c63.1.1) c63.1.2) c63.2) (Tz Z Y e23) ?_;refine P3 Lu ?_;apply kI Z h<;>intro h
   .obtain⟨c65,h⟩:=H4 h;exact hb8 _ [(8500,8500),(9500,9500),(12000,12000),(12500,98000),(45000,45000)] _ (wrap .i64 (s+1)) (f.push (⟨true,t.1⟩:C9)) (wrap .i64 (a1+1)) (And.intro Ob c65) h (hle:=klR [(6,.fn (f.n+1) (f.push (⟨true,t.1⟩:C9)).n (BA f.n (fun i=>B9 (f.g i)) (E5 [.v (.bool false),M9] [(0,B9 (⟨true,t.1⟩:C9))])) (fun i=>B9 ((f.push (⟨true,t.1⟩:C9)).g i)))] (al1 ⟨rfl,Pm (c:=B9) (v:=f) (x:=(⟨true,t.1⟩:C9)) (z:=[(.v (.bool false)),M9]) same rfl rfl⟩ al0))
   refine Ac2 Z Ob 105 105000 (k:=2) (n:=1) (e:=Q7) (vw:=false) (E5 [.v (.bool false),M9] [(0,[.v (.bool false),M9])]) (fun i=>B9 ((Sl.of [(⟨false,Od⟩:C9)]:Sl C9).g i)) (fun i hi=>match i,hi with|0,_=>(leCc lePT (leCc lePN leC0))|_+1,hi=>Lq hi (by omega)) ?_;obtain⟨c66,h⟩:=H4 h;exact hb8 _ [(8500,8500),(9500,9500),(12000,12000),(12500,106000),(45000,45000)] _ s (f.app (Sl.of [(⟨false,Od⟩:C9)]:Sl C9)) (wrap .i64 (a1+1)) c66 h (hle:=klR [(6,.fn (f.n+(Sl.of [(⟨false,Od⟩:C9)]:Sl C9).n) (f.app (Sl.of [(⟨false,Od⟩:C9)]:Sl C9)).n (BA f.n (fun i=>B9 (f.g i)) (fun i=>B9 ((Sl.of [(⟨false,Od⟩:C9)]:Sl C9).g i))) (fun i=>B9 ((f.app (Sl.of [(⟨false,Od⟩:C9)]:Sl C9)).g i)))] (al1 ⟨rfl,AY5 (c:=B9) (v:=f) (w:=(Sl.of [(⟨false,Od⟩:C9)]:Sl C9)) same rfl same rfl⟩ al0))
  obtain⟨c67,h⟩:=H4 h;refine AS Z (And.intro (And.intro c67.1 Ob) c67.2) 116 ⟨[(115,.vec 9500),(11,.reg 12000 0),(10,pN x9),(9,pN s),(7,.vec 115000),(5,.vec 45000),(2,.p (.ptr (A7 j))),(1,.p (vSl 1 (cL 2 A0) d))],[(115000,.vec Q7 2 (x6.push (⟨true,d.g x9.toNat⟩:C9)).n (fun i=>B9 ((x6.push (⟨true,d.g x9.toNat⟩:C9)).g i)) false),(45000,.vec F2 1 y5.1.n (fun i=>cI .i64 (y5.1.g i)) true),(12000,.cells [.p (.str [103]),.p (vSl 2 B9 f)]),(9500,.vec T9 2 x7.n (fun i=>B6 (x7.g i)) false)]⟩ (ids:=[(9500,9500),(12000,12000),(45000,45000),(115000,115000)]) ?_ (hle:=klR [(4,.fn (x6.n+1) (x6.push (⟨true,d.g x9.toNat⟩:C9)).n (BA x6.n (fun i=>B9 (x6.g i)) (E5 [.v (.bool false),M9] [(0,B9 (⟨true,d.g x9.toNat⟩:C9))])) (fun i=>B9 ((x6.push (⟨true,d.g x9.toNat⟩:C9)).g i)))] (al1 ⟨rfl,Pm (c:=B9) (v:=x6) (x:=(⟨true,d.g x9.toNat⟩:C9)) (z:=[(.v (.bool false)),M9]) same rfl rfl⟩ al0));obtain⟨c68,h⟩:=H4 h;exact hb6 _ [(8500,115000),(9500,119000),(45000,45000)] _ (x6.push (⟨true,d.g x9.toNat⟩:C9)) (x7.push (⟨[103],f⟩:Entry)) s (wrap .i64 (x9+1)) (And.intro Ob c68) h (hle:=klR [(5,.fn (x7.n+1) (x7.push (⟨[103],f⟩:Entry)).n (BA x7.n (fun i=>B6 (x7.g i)) (E5 [.str [],M9] [(0,B6 (⟨[103],f⟩:Entry))])) (fun i=>B6 ((x7.push (⟨[103],f⟩:Entry)).g i)))] (al1 ⟨rfl,Pm (c:=B6) (v:=x7) (x:=(⟨[103],f⟩:Entry)) (z:=[(.str []),M9]) same rfl rfl⟩ al0))
 obtain⟨a2,e24,h⟩:=C4 h;refine D2 Z [] Ng (Cu Z Y e24) ?_;obtain⟨l,e25,h⟩:=C4 h;refine D2 Z [] Ng (Jy Z Y e25) ?_;refine N0 Z Lu 18 18000 [pI .i64 l.1.N,pI .i64 l.1.D] ?_;obtain⟨a3,e26,h⟩:=C4 h;refine D2 Z [] Ng (FunO.le Z (args:=[(.p (.agg (A7 j))),.p (vSl 2 B9 x6),.p (vSl 2 B6 x7),.p M9]) (by exact⟨.inl rfl,⟨.inl rfl,⟨.inl rfl,⟨AU8,trivial⟩⟩⟩⟩) (Ks Z Y e26)) ?_;obtain⟨t1,m⟩:∃x:Bool,x=((((((a2.2 != 0)||(l.2 != 0))||(a3.2 != 0))||((a2.1.n:Int) != 0))||(!a3.1))||((decide (0<x8))&&(((l.1.N==1)&&(l.1.D==1)) != true))):=⟨_,rfl⟩;refine YD Z Lu (B3 Z) 0 ⟨[(167,pB t1),(8,.vec 9500),(5,.vec 45000),(2,.p (.ptr (A7 j))),(1,.p (vSl 1 (cL 2 A0) d))],[(45000,.vec F2 1 y5.1.n (fun i=>cI .i64 (y5.1.g i)) true),(9500,.vec T9 2 x7.n (fun i=>B6 (x7.g i)) true)]⟩ (fun M5 r=>?_) ?_
 .refine Cz Z Lu (b:=a2.2 != 0) (fun c75=>?_) (fun c75=>?_)
  .exact r _ [(9500,9500),(45000,45000)] _ Lu (hle:=klR [(0,.eq (.bb true) (.bb t1))] (al1 (by simp only[m,c75,Leaf.ok,pm,Lr,Ls]) al0))
  refine Cz Z Lu (b:=l.2 != 0) (fun c76=>?_) (fun c76=>?_)
  .exact r _ [(9500,9500),(45000,45000)] _ Lu (hle:=klR [(0,.eq (.bb true) (.bb t1))] (al1 (by simp only[m,c75,c76,Leaf.ok,pm,Lr,Ls]) al0))
  refine Cz Z Lu (b:=a3.2 != 0) (fun c77=>?_) (fun c77=>?_)
  .exact r _ [(9500,9500),(45000,45000)] _ Lu (hle:=klR [(0,.eq (.bb true) (.bb t1))] (al1 (by simp only[m,c75,c76,c77,Leaf.ok,pm,Lr,Ls]) al0))
  refine Cz Z Lu (b:=(a2.1.n:Int) != 0) (fun c78=>?_) (fun c78=>?_)
  .exact r _ [(9500,9500),(45000,45000)] _ Lu (hle:=klR [(0,.eq (.bb true) (.bb t1))] (al1 (by simp only[m,c75,c76,c77,c78,Leaf.ok,pm,Lr,Ls]) al0))
  refine Cz Z Lu (b:=!a3.1) (fun c79=>?_) (fun c79=>?_)
  .exact r _ [(9500,9500),(45000,45000)] _ Lu (hle:=klR [(0,.eq (.bb true) (.bb t1))] (al1 (by simp only[m,c75,c76,c77,c78,c79,Leaf.ok,pm,Lr,Ls]) al0))
  refine Cz Z Lu (b:=decide (0<x8)) (fun c80=>?_) (fun c80=>?_)
  .exact r _ [(9500,9500),(45000,45000)] _ (And.intro Nf (by decide +kernel:XW Tryz.prog Py=true)) (hle:=klR [(0,.eq (.bb (((l.1.N==1)&&(l.1.D==1)) != true)) (.bb t1))] (al1 (by simp only[m,c75,c76,c77,c78,c79,c80,Leaf.ok,pm,Lr,Ls]) al0))
  exact r _ [(9500,9500),(45000,45000)] _ Lu (hle:=klR [(0,.eq (.bb false) (.bb t1))] (al1 (by simp only[m,c75,c76,c77,c78,c79,c80,Leaf.ok,pm,Lr,Ls]) al0))
 subst m;apply kI Z h<;>intro h
 .cases h;exact kR Z
 refine Ak Z Lu h (fun q=>⟨[(21,pN q),(8,.vec 9500),(5,.vec 45000),(2,.p (.ptr (A7 j))),(1,.p (vSl 1 (cL 2 A0) d))],[(45000,.vec F2 1 y5.1.n (fun i=>cI .i64 (y5.1.g i)) true),(9500,.vec T9 2 x7.n (fun i=>B6 (x7.g i)) true)]⟩) (ids:=[(9500,9500),(45000,45000)]) (fun _ _ _ _ _ self7 q hb12 h=>?_);apply kI Z h<;>intro h
 .refine R4 Z Lu h (fun u a0=>⟨[(23,pN a0),(22,pN u),(21,pN q),(8,.vec 9500),(5,.vec 45000),(2,.p (.ptr (A7 j))),(1,.p (vSl 1 (cL 2 A0) d))],[(45000,.vec F2 1 y5.1.n (fun i=>cI .i64 (y5.1.g i)) true),(9500,.vec T9 2 x7.n (fun i=>B6 (x7.g i)) true)]⟩) (ids:=[(9500,9500),(45000,45000)]) (fun _ _ _ _ _ self8 u a0 a4 h=>?_);apply kI Z h<;>intro h
  .obtain⟨c114,h⟩:=H4 h;refine F4 Z c114 (b:=((x7.g q.toNat).Forms.g a0.toNat).Has) (fun c115=>?_) (fun c115=>?_)
   .replace h:=itT c115 h;exact a4 _ [(9500,9500),(45000,45000)] _ (wrap .i64 (u+1)) (wrap .i64 (a0+1)) Lu h
   replace h:=itF c115 h;exact a4 _ [(9500,9500),(45000,45000)] _ u (wrap .i64 (a0+1)) Lu h
  refine L7 Z Lu [0,7,8,10,11,13] ?_;obtain⟨c116,h⟩:=H4 h;refine X9 (And.intro (And.intro (And.intro (And.intro (And.intro Ng c116.1.1.1) Nf) c116.1.1.2) c116.1.2) c116.2) (x:=.sl true 1 2 (E5 [M9] [(0,cL 2 A0 (d.g q.toNat)),(1,cL 2 A0 (d.g 0))])) ?_;obtain⟨y29,e29,h⟩:=C4 h;refine O0 Lu (FunO.le Z (args:=[(.p (.agg (A7 j))),.p (.agg (B6 (x7.g q.toNat))),.p (.sl true 1 2 (E5 [M9] [(0,cL 2 A0 (d.g q.toNat)),(1,cL 2 A0 (d.g 0))]))]) (by exact⟨.inl rfl,⟨.inl rfl,⟨Mf rfl (fun i hi=>match i,hi with|0,_=>rfl|1,_=>rfl|_+2,hi=>Lq hi (by omega)),trivial⟩⟩⟩) (Jz Z Y e29)) ?_;refine P3 Lu ?_;refine kB Z (B3 Z) Lu Lu 8 (.o (.o (.a (y29.2.2 != 0)) (.a (y29.1 != 0))) (.a (y29.2.1 != u))) ?_;apply kI Z h<;>intro h
  .cases h;exact kR Z
  exact hb12 _ [(9500,9500),(45000,45000)] _ (wrap .i64 (q+1)) Lu h
 refine kC Z h (Ip Z Y) (fun y30 h=>?_);cases h;exact kR Z
end Go.AM
namespace Go.AM
open Go.Proofs
set_option maxRecDepth 100000
def XV:Z3 4194304=some true:=by decide +kernel
end Go.AM
namespace Go.AM
open IntKind (wrap)
open Go.Proofs
def Ae1 {A R:Type}{body:(A->Option R)->A->Option R}(I:Nat->A->Prop)(n:Nat)(J8:R->Prop)
 (b:∀self i a,i<=n->I i a->(i<n->∀a',I (i+1) a' -> ∃r,self a' = some r/\J8 r)->∃r,body self a=some r/\J8 r) :
 ∀(N i:Nat) (a:A),i<=n->I i a->n-i<N->∃r,Q5 N body a=some r/\J8 r
 |0,_,_,_,_,h=>by omega
 |N+1,i,a,hi,hI,h=>by rw[P6];exact b _ i a hi hI fun c a' d=>Ae1 I n J8 b N (i+1) a' c d (by omega)
def Av {A R:Type}{body:(A->Option R)->A->Option R}(I:Nat->A->Prop)(n:Nat)(J8:R->Prop){N:Nat}(c:n<N){a:A}(d:I 0 a)
 (b:∀self i a,i<=n->I i a->(i<n->∀a',I (i+1) a' -> ∃r,self a' = some r/\J8 r)->∃r,body self a=some r/\J8 r):∃r,Q5 N body a=some r/\J8 r:=
 Ae1 I n J8 b N 0 a (Bi0 _) d c
def O8 {A B R:Type}{body:(A->B->Option R)->A->B->Option R}(I:Nat->A->B->Prop)(n:Nat)(J8:R->Prop){N:Nat}(g:n<N){a:A}{b:B}(j:I 0 a b)
 (d:∀c i a b,i<=n->I i a b->(i<n->∀a' b',I (i+1) a' b' -> ∃r,c a' b' = some r/\J8 r)->∃r,body c a b=some r/\J8 r):∃r,Q3 N body a b=some r/\J8 r:=
 Ae1 (fun i x=>I i x.1 x.2) n J8 (fun c i x l m h=>d (fun a b=>c (a,b)) i x.1 x.2 l m fun hl a' b' f=>h hl (a',b') f) N 0 (a,b) (Bi0 _) j g
def Ro {A B C R:Type}{body:(A->B->C->Option R)->A->B->C->Option R}(I:Nat->A->B->C->Prop)(n:Nat)(J8:R->Prop){N:Nat}(j:n<N){a:A}{b:B}{c:C}(l:I 0 a b c)
 (f:∀d i a b c,i<=n->I i a b c->(i<n->∀a' b' c',I (i+1) a' b' c' -> ∃r,d a' b' c' = some r/\J8 r)->∃r,body d a b c=some r/\J8 r):∃r,YA N body a b c=some r/\J8 r:=
 Ae1 (fun i x=>I i x.1 x.2.1 x.2.2) n J8 (fun d i x m o h=>f (fun a b c=>d (a,b,c)) i x.1 x.2.1 x.2.2 m o fun hl a' b' c' g=>h hl (a',b',c') g) N 0 (a,b,c) (Bi0 _) l j
def AV9 {A B C D R:Type}{body:(A->B->C->D->Option R)->A->B->C->D->Option R}(I:Nat->A->B->C->D->Prop)(n:Nat)(J8:R->Prop){N:Nat}(l:n<N){a:A}{b:B}{c:C}{d:D}(m:I 0 a b c d)
 (g:∀f i a b c d,i<=n->I i a b c d->(i<n->∀a' b' c' d',I (i+1) a' b' c' d' -> ∃r,f a' b' c' d' = some r/\J8 r)->∃r,body f a b c d=some r/\J8 r):∃r,WM N body a b c d=some r/\J8 r:=
 Ae1 (fun i x=>I i x.1 x.2.1 x.2.2.1 x.2.2.2) n J8 (fun f i x o q h=>g (fun a b c d=>f (a,b,c,d)) i x.1 x.2.1 x.2.2.1 x.2.2.2 o q fun hl a' b' c' d' j=>h hl (a',b',c',d') j) N 0 (a,b,c,d) (Bi0 _) m l
def B0 {X R:Type}{Q:R->Prop}{o:Option X}{f:X->Option R}{x:X}(h:o=some x)(a:∃r,f x=some r/\Q r):∃r,o.bind f=some r/\Q r:=by subst h;exact a
def ltX {R A:Type}{Q:R->Prop}{k:A->Option R}{f:(A->Option R)->Option R}(h:∃r,f k=some r/\Q r):∃r,lt k f=some r/\Q r:=h
def ifT {R:Type}{Q:R->Prop}{p:Prop}[Decidable p]{a b:Option R}(h:p)(c:∃r,a=some r/\Q r):∃r,(if p then a else b)=some r/\Q r:=by rw[Kc h];exact c
def Az{R:Type}{Q:R->Prop}{p:Prop}[Decidable p]{a b:Option R}(h2:∃ r,a=some r/\Q r)(h:p:=by decide):∃ r,(if p then a else b)=some r/\Q r:=ifT h h2
def Ap{R:Type}{Q:R->Prop}{p:Prop}[Decidable p]{a b:Option R}(h2:∃ r,a=some r/\Q r)(h:p:=by simp):∃ r,(if p then a else b)=some r/\Q r:=ifT h h2
def Ao{R:Type}{Q:R->Prop}{p:Prop}[Decidable p]{a b:Option R}(h2:∃ r,a=some r/\Q r)(h:p:=by simp;omega):∃ r,(if p then a else b)=some r/\Q r:=ifT h h2
def Am{R:Type}{Q:R->Prop}{p:Prop}[Decidable p]{a b:Option R}(h2:∃ r,a=some r/\Q r)(h:p:=by omega):∃ r,(if p then a else b)=some r/\Q r:=ifT h h2
def ifF {R:Type}{Q:R->Prop}{p:Prop}[Decidable p]{a b:Option R}(h:¬p)(c:∃r,b=some r/\Q r):∃r,(if p then a else b)=some r/\Q r:=by rw[Ke h];exact c
def Gv{R:Type}{Q:R->Prop}{p:Prop}[Decidable p]{a b:Option R}(h2:∃ r,b=some r/\Q r)(h:¬p:=by decide):∃ r,(if p then a else b)=some r/\Q r:=ifF h h2
def Dg{R:Type}{Q:R->Prop}{p:Prop}[Decidable p]{a b:Option R}(h2:∃ r,b=some r/\Q r)(h:¬p:=by simp):∃ r,(if p then a else b)=some r/\Q r:=ifF h h2
def Df{R:Type}{Q:R->Prop}{p:Prop}[Decidable p]{a b:Option R}(h2:∃ r,b=some r/\Q r)(h:¬p:=by simp;omega):∃ r,(if p then a else b)=some r/\Q r:=ifF h h2
def Bn{R:Type}{Q:R->Prop}{p:Prop}[Decidable p]{a b:Option R}(h2:∃ r,b=some r/\Q r)(h:¬p:=by omega):∃ r,(if p then a else b)=some r/\Q r:=ifF h h2
def E4 {n:Int}(h : -9223372036854775808<=n)(h' : n<=9223372036854775807):IntKind.i64.wrap n=n:=by
 by_cases a:0<=n
 .have h1:n % (2 ^ 64:Int)=n:=Bk8 a (by omega);unfold wrap;simp only[IntKind.bits,IntKind.signed,h1];rw[Ke];simp;omega
 have h1:n % (2 ^ 64:Int)=n+2 ^ 64:=by rw[<- Int.add_emod_right];exact Bk8 (by omega) (by omega)
 unfold wrap;simp only[IntKind.bits,IntKind.signed,h1];rw[Kc]
 .omega
 simp;omega
def B2 {i:Nat}(h:i<1000000000000000000):IntKind.i64.wrap ((i:Int)+1)=((i+1:Nat):Int):=by rw[E4 (by omega) (by omega)];rfl
def Gx{i:Nat}(h:i<1000000000000000000:=by omega):IntKind.i64.wrap ((i:Int)+1)=((i+1:Nat):Int):=B2 h
def AW0 {i:Nat}(a:1<=i)(h:i<1000000000000000000):IntKind.i64.wrap ((i:Int)-1)=((i-1:Nat):Int):=by rw[E4 (by omega) (by omega)];omega
def Dy {i j:Nat}(h:i+j<1000000000000000000):IntKind.i64.wrap ((i:Int)+(j:Int))=((i+j:Nat):Int):=by rw[E4 (by omega) (by omega)];rfl
def Xl {N n:Nat}(hn:n<=32)(f:1000<=N):∃s,Hb N (n:Int)=some s/\s.n=n+1/\TabR n (fun a b=>a=b) s.g:=by
 unfold Hb;rw[Gx];refine Am ?_;refine O8 (fun i x1 x2=>x2=(i:Int)/\x1.n=n+1/\∀a,a<i->x1.g a=U (1#64 <<< a)) (n+1) _ (by omega) ⟨rfl,by show ((n+1:Nat):Int).toNat=n+1;omega,fun a ha=>Lq ha (by omega)⟩ ?_;rintro c i x1 x2 j ⟨rfl,h1,d⟩ hs;by_cases hl:i<=n
 .refine Ao (ifT ⟨⟨by omega,by omega,by omega⟩,by omega⟩ (hs (by omega) _ _ ⟨Gx,h1,fun a ha=>?_⟩));show (if a=(i:Int).toNat then shI .shl .u64 1 (i:Int)else x1.g a)=_;by_cases e:a=i
  .subst e;rw[Ig,Tn _ (by omega)]
  rw[Jo];exact d a (by omega)
 refine Df ⟨x1,rfl,h1,fun a ha=>⟨1#64 <<< a,d a (by omega),fun b hb=>?_⟩⟩;rw[Gz (by omega) hb,Lt];omega
def At0 {n:Nat}{f:Nat->Int}(h:∀a,a<=n->f a=0):TabR n (fun _ _=>False) f:=fun a ha=>⟨0#64,h a ha,fun b hb=>by simp⟩
def Xm {N n:Nat}{R S:Nat->Nat->Prop}{x y:Sl Int}(hn:n<=32)(f:1000<=N)(hx:x.n=n+1)(hy:y.n=n+1)(hR:TabR n R x.g)(Z:TabR n S y.g) :∃s,Hc N x y=some s/\s.n=n+1/\TabR n (fun a b=>R a b \/ S a b) s.g:=by
 unfold Hc;refine Am ?_;refine O8 (fun i x1 x2=>x2=(i:Int)/\x1.n=n+1/\∀a,a<i->x1.g a=H0 .or .u64 (x.g a) (y.g a)) (n+1) _ (by omega) ⟨rfl,by show (x.n:Int).toNat=n+1;omega,fun a ha=>Lq ha (by omega)⟩ ?_;rintro d i x1 x2 j ⟨rfl,h1,c⟩ hs;by_cases hl:i<=n
 .refine Ao (Am (hs (by omega) _ _ ⟨Gx,h1,fun a ha=>?_⟩));show (if a=(i:Int).toNat then _ else x1.g a)=_;by_cases e:a=i
  .subst e;rw[Ig,AZ2]
  rw[Jo];exact c a (by omega)
 refine Df ⟨x1,rfl,h1,fun a ha=>?_⟩;obtain⟨u,e1,g1⟩:=hR a ha;obtain⟨v,e2,g2⟩:=Z a ha;refine⟨u ||| v,by rw[c a (by omega),e1,e2,AY9],fun b hb=>?_⟩;rw[Bb2,Bc2,g1 b hb,g2 b hb];constructor
 .rintro (⟨h1,c⟩ | ⟨h1,c⟩)
  .exact⟨h1,.inl c⟩
  exact⟨h1,.inr c⟩
 rintro⟨h1,c|c⟩
 .exact .inl ⟨h1,c⟩
 exact .inr ⟨h1,c⟩
def Ae2 {N n:Nat}{x y:Sl Int}(hn:n<=32)(f:1000<=N)(hx:x.n=n+1)(hy:y.n=n+1) :∃b,Ii N x y=some b/\(b=true ↔ ∀a,a<=n->x.g a=y.g a):=by
 unfold Ii;refine Av (fun i x1=>x1=(i:Int)/\∀a,a<i->x.g a=y.g a) (n+1) _ (by omega) ⟨rfl,fun a ha=>Lq ha (by omega)⟩ ?_;rintro c i x1 j ⟨rfl,d⟩ hs;by_cases hl:i<=n
 .refine Ao (Am ?_);rw[AZ2];by_cases e:x.g i=y.g i
  .refine ifF (by simp[e]) (hs (by omega) _ ⟨Gx,fun a ha=>?_⟩);by_cases h:a=i
   .subst h;exact e
   exact d a (by omega)
  refine ifT (by simp[e]) ⟨false,rfl,by simp;exact⟨i,hl,e⟩⟩
 exact Df ⟨true,rfl,by simp;exact fun a ha=>d a (by omega)⟩
def PD {N n:Nat}{R S:Nat->Nat->Prop}{x y:Sl Int}(hn:n<=32)(w:1000<=N)(hx:x.n=n+1)(hy:y.n=n+1)(hR:TabR n R x.g)(Z:TabR n S y.g) :∃s,Cf N x y=some s/\s.n=n+1/\TabR n (fun a b=>∃c,c<=n/\R a c/\S c b) s.g:=by
 unfold Cf;refine Am ?_
 let Row (z:BitVec 64) (a j:Nat):Prop:=∀b,b<64->(z.getLsbD b=true↔b<=n/\∃c,c<j/\c<=n/\R a c/\S c b)
 refine O8 (fun i x1 x2=>x2=(i:Int)/\x1.n=n+1/\(∀a,a<i->∃z,x1.g a=U z/\Row z a (n+1))/\∀a,i<=a->x1.g a=0) (n+1) _ (by omega) ⟨rfl,by show (x.n:Int).toNat=n+1;omega,fun a ha=>Lq ha (by omega),fun a _=>rfl⟩ ?_;rintro q i x1 x2 hi ⟨rfl,h1,r,t⟩ hs;by_cases hl:i<=n
 .refine Ao ?_;refine O8 (fun j x7 x8=>x8=(j:Int)/\x7.n=n+1/\(∀a,a<i->∃z,x7.g a=U z/\Row z a (n+1))/\(∃z,x7.g i=U z/\Row z i j)/\∀a,i<a->x7.g a=0) (n+1) _ (by omega)
   ⟨rfl,h1,r,⟨0#64,t i (Ba0 _),fun b hb=>by simp⟩,fun a ha=>t a (by omega)⟩ ?_
  rintro m j x7 x8 hj ⟨rfl,g1,g2,⟨z,g3,g4⟩,g5⟩ l;by_cases f:j<=n
  .refine Ao (Am ?_);rw[AZ2,AZ2];have d:=hR.bit hl (b:=j) (by omega);by_cases hc:R i j
   .refine ifT (d.2 ⟨f,hc⟩) (Am (l (by omega) _ _ ⟨Gx,g1,fun a ha=>?_,?_,fun a ha=>?_⟩))
    .obtain⟨z',e,o⟩:=g2 a ha;exact⟨z',by show (if a=i then _ else x7.g a)=_;rw[Jo];exact e,o⟩
    .obtain⟨v,e,u⟩:=Z j f;refine⟨z ||| v,by show (if i=i then _ else _)=_;rw[Kc rfl,g3,e,AY9],fun b hb=>?_⟩;rw[Bb2,Bc2,g4 b hb,u b hb];constructor
     .rintro (⟨k1,c,k2,k3⟩ | ⟨k1,k2⟩)
      .exact⟨k1,c,by omega,k3⟩
      exact⟨k1,j,by omega,f,hc,k2⟩
     rintro⟨k1,c,k2,k3,k4,k5⟩;by_cases e:c=j
     .subst e;exact .inr ⟨k1,k5⟩
     exact .inl ⟨k1,c,by omega,k3,k4,k5⟩
    show (if a=i then _ else x7.g a)=_;rw[Jo];exact g5 a ha
   refine ifF (fun h=>hc (d.1 h).2) (l (by omega) _ _ ⟨Gx,g1,g2,⟨z,g3,fun b hb=>?_⟩,g5⟩);rw[g4 b hb];constructor
   .rintro⟨k1,c,k2,k3⟩;exact⟨k1,c,by omega,k3⟩
   rintro⟨k1,c,k2,k3,k4,k5⟩;by_cases e:c=j
   .subst e;exact Lq k4 hc
   exact⟨k1,c,by omega,k3,k4,k5⟩
  refine Df (hs (by omega) _ _ ⟨Gx,g1,fun a ha=>?_,fun a ha=>g5 a (by omega)⟩);by_cases e:a=i
  .subst e;obtain rfl:j=n+1:=by omega
   exact⟨z,g3,g4⟩
  exact g2 a (by omega)
 refine Df ⟨x1,rfl,h1,fun a ha=>?_⟩;obtain⟨z,e,o⟩:=r a (by omega);refine⟨z,e,fun b hb=>(o b hb).trans ⟨fun⟨k1,c,_,k3⟩=>⟨k1,c,k3⟩,fun⟨k1,c,k3⟩=>⟨k1,c,by omega,k3⟩⟩⟩
end Go.AM
namespace Go.AM
open Go.Proofs
def okP:Nat->Pat->Prop
 |0,_=>False
 |d+1,p=>p.L.n<=40/\(p.Kind=5->p.L.n=1/\0<=p.Min/\p.Min<=32/\(p.Max = -1 \/ (p.Min<=p.Max/\p.Max<=32)))/\∀i,i<p.L.n->okP d (p.L.g i)
def LG (w:Sl Oh)(p:Pat)(a b:Nat):PR w p a b↔(if p.Kind=0 then a=b
 else if p.Kind=1 then a<w.n/\b=a+1/\(Vs (w.g a) p.Is != p.Not)=true
 else if p.Kind=2 then a=0/\b=0
 else if p.Kind=6 then a=w.n/\b=w.n
 else if p.Kind=3 then YO w.n (fun i=>PR w (p.L.g i)) p.L.n a b
 else if p.Kind=4 then ∃i,i<p.L.n/\PR w (p.L.g i) a b
 else if p.Kind=5 then ∃k:Nat,p.Min<=k/\(p.Max = -1 \/ (k:Int)<=p.Max)/\HP w.n (PR w (p.L.g 0)) k a b
 else False):=by
 cases p with
 |nil=>simp[PR,Pat.Kind]
 |mk kind is no mn mx m g=>exact Bj3
def R0 (w:Sl Oh)(p:Pat)(a b:Nat):Prop:=if p.Kind=0 then a=b else if p.Kind=1 then a<w.n/\b=a+1/\(Vs (w.g a) p.Is != p.Not)=true else if p.Kind=2 then a=0/\b=0 else if p.Kind=6 then a=w.n/\b=w.n else False
def AA3 {n:Nat}{R:Nat->Nat->Prop}(hR:Fwd n R){mn k:Nat}(hk:mn<k)(h:∀a b,a<=n->b<=n->HP n R k a b->∃j,mn<=j/\j<k/\HP n R j a b){a:Nat}(ha:a<=n) :∀m b,mn<=m->HP n R m a b->∃j,mn<=j/\j<k/\HP n R j a b
 |0,b,hm,hp=>⟨0,hm,by omega,hp⟩
 |m+1,b,hm,hp=>by
  by_cases d:m+1<k
  .exact⟨m+1,hm,d,hp⟩
  obtain⟨c,hc,h1,f⟩:=hp;have hb:=(hR c b hc f).2;obtain⟨j,g1,g2,g3⟩:=AA3 hR hk h ha m c (by omega) h1;by_cases e:j+1<k
  .exact⟨j+1,by omega,e,c,hc,g3,f⟩
  obtain rfl:k=j+1:=by omega
  exact h a b ha hb ⟨c,hc,g3,f⟩
def NB {N:Nat}(hN:1000<=N){w:Sl Oh}(hw:w.n<=32):∀(d:Nat) (p:Pat),okP d p->∀M,N+d<=M->∃t,Dm M p w=some t/\t.n=w.n+1/\TabR w.n (PR w p) t.g
 |0,p,h,M,hM=>h.elim
 |d+1,p,⟨hc,h5,hch⟩,0,hM=>by omega
 |d+1,p,⟨hc,h5,hch⟩,M+1,hM=>by
  have ih:=fun i hi=>NB hN hw d (p.L.g i) (hch i hi) M (by omega);show ∃t,Fs (Dm M) M p w=some t/\_;unfold Fs;rw[Gx];refine Am ?_;refine O8 (fun i x1 x2=>x2=(i:Int)/\x1.n=w.n+1/\(∀a,a<i->∃z:BitVec 64,x1.g a=U z/\∀b,b<64->(z.getLsbD b=true↔b<=w.n/\R0 w p a b))/\∀a,i<=a->x1.g a=0) (w.n+1) _ (by omega)
   ⟨rfl,by show ((w.n+1:Nat):Int).toNat=w.n+1;omega,fun a ha=>Lq ha (by omega),fun _ _=>rfl⟩ ?_
  rintro self i x1 x2 hi ⟨rfl,h1,l,c⟩ hs;have keep:(∀b,b<=w.n->¬R0 w p i b)->(∀a,a<i+1->∃z:BitVec 64,x1.g a=U z/\∀b,b<64->(z.getLsbD b=true↔b<=w.n/\R0 w p a b)):=by
   intro h a ha;by_cases e:a=i
   .subst e;exact⟨0#64,c a (Ba0 _),fun b hb=>by simp;exact h b⟩
   exact l a (by omega)
  have put:∀(z:BitVec 64) (v:Int),v=U z->(∀b,b<64->(z.getLsbD b=true↔b<=w.n/\R0 w p i b)) ->
   (∀a,a<i+1->∃z:BitVec 64,(x1.upd (i:Int).toNat v).g a=U z/\∀b,b<64->(z.getLsbD b=true↔b<=w.n/\R0 w p a b))/\∀a,i+1<=a->(x1.upd (i:Int).toNat v).g a=0:=by
   intro z v hv hz;refine⟨fun a ha=>?_,fun a ha=>?_⟩
   .by_cases e:a=i
    .subst e;exact⟨z,by show (if a=(a:Int).toNat then v else _)=_;rw[Ig,hv],hz⟩
    obtain⟨z',e1,e2⟩:=l a (by omega);exact⟨z',by show (if a=(i:Int).toNat then v else x1.g a)=_;rw[Jo];exact e1,e2⟩
   show (if a=(i:Int).toNat then v else x1.g a)=0;rw[Jo];exact c a (by omega)
  by_cases hl:i<=w.n
  .refine Ao ?_;by_cases k0:p.Kind=0
   .refine ifT (by simp[k0]) (Am ?_);obtain⟨p1,p2⟩:=put (1#64 <<< i) _ (Tn i (by omega)) (fun b hb=>by rw[Gz (by omega) hb,Lt];simp only[R0,k0,Lr];omega);exact hs (by omega) _ _ ⟨Gx,h1,p1,p2⟩
   refine ifF (by simp[k0]) ?_;by_cases k1:p.Kind=1
   .refine ifT (by simp[k1]) ?_;have e0:∀b,R0 w p i b↔i<w.n/\b=i+1/\(Vs (w.g i) p.Is != p.Not)=true:=fun b=>by simp only[R0,k1];simp
    by_cases hlt:i<w.n
    .refine Ao (Am ?_);refine B0 (x:=Vs (w.g i) p.Is) (by rw[AZ2];rfl) ?_;by_cases hb:Vs (w.g i) p.Is=p.Not
     .refine ifF (by simp[hb]) (hs (by omega) _ _ ⟨Gx,h1,keep fun b _=>?_,fun a ha=>c a (by omega)⟩);rw[e0];simp[hb]
     refine ifT (by simp[hb]) ?_;rw[Gx];refine Am ?_;obtain⟨p1,p2⟩:=put (1#64 <<< (i+1)) _ (Tn (i+1) (by omega)) (fun b a0=>by
      rw[Gz (by omega) a0,Lt,e0]
      have:(Vs (w.g i) p.Is != p.Not)=true:=by simp[hb]
      simp only[this,and_true];omega)
     exact hs (by omega) _ _ ⟨rfl,h1,p1,p2⟩
    refine Df (hs (by omega) _ _ ⟨Gx,h1,keep fun b _=>?_,fun a ha=>c a (by omega)⟩);rw[e0];omega
   refine ifF (by simp[k1]) ?_;by_cases k2:p.Kind=2
   .refine ifT (by simp[k2]) ?_;have e0:∀b,R0 w p i b↔i=0/\b=0:=fun b=>by simp only[R0,k2];simp
    by_cases hz:i=0
    .refine Ao (Am ?_);obtain⟨p1,p2⟩:=put 1#64 _ AV4 (fun b a0=>by rw[Vr,Lt,e0];omega);exact hs (by omega) _ _ ⟨Gx,h1,p1,p2⟩
    refine Df (hs (by omega) _ _ ⟨Gx,h1,keep fun b _=>?_,fun a ha=>c a (by omega)⟩);rw[e0];omega
   refine ifF (by simp[k2]) ?_;by_cases k6:p.Kind=6
   .refine ifT (by simp[k6]) ?_;have e0:∀b,R0 w p i b↔i=w.n/\b=w.n:=fun b=>by simp only[R0,k6];simp
    by_cases hz:i=w.n
    .refine Ao (Am ?_);obtain⟨p1,p2⟩:=put (1#64 <<< i) _ (Tn i (by omega)) (fun b hb=>by rw[Gz (by omega) hb,Lt,e0];omega);exact hs (by omega) _ _ ⟨Gx,h1,p1,p2⟩
    refine Df (hs (by omega) _ _ ⟨Gx,h1,keep fun b _=>?_,fun a ha=>c a (by omega)⟩);rw[e0];omega
   refine ifF (by simp[k6]) (hs (by omega) _ _ ⟨Gx,h1,keep fun b _=>?_,fun a ha=>c a (by omega)⟩);simp[R0,k0,k1,k2,k6]
  refine Df ?_;have t0:TabR w.n (R0 w p) x1.g:=fun a ha=>l a (by omega);by_cases k3:p.Kind=3
  .refine ifT (by simp[k3]) ?_;obtain⟨s,es,a8,a9⟩:=Xl (N:=M) hw (by omega);refine B0 es ?_;refine O8 (fun i (x3:Sl Int) x4=>x4=(i:Int)/\x3.n=w.n+1/\TabR w.n (YO w.n (fun i=>PR w (p.L.g i)) i) x3.g) p.L.n _ (by omega) ⟨rfl,a8,a9.congr fun a b _ _=>Bj3⟩ ?_;rintro a2 j x3 x4 hj ⟨rfl,g1,g2⟩ m;by_cases a3:j<p.L.n
   .obtain⟨t,et,b0,b1⟩:=ih j a3;refine Ao (Am (B0 (by rw[AZ2];exact et) ?_));obtain⟨f,ef,o,a4⟩:=PD (N:=M) hw (by omega) g1 b0 g2 b1;exact B0 ef (m a3 _ _ ⟨Gx,o,a4⟩)
   obtain rfl:j=p.L.n:=by omega
   exact Dg ⟨x3,rfl,g1,g2.congr fun a b _ _=>by rw[LG];simp[k3]⟩
  refine ifF (by simp[k3]) ?_;by_cases k4:p.Kind=4
  .refine ifT (by simp[k4]) ?_;refine O8 (fun i x3 x4=>x4=(i:Int)/\x3.n=w.n+1/\TabR w.n (fun a b=>∃q,q<i/\PR w (p.L.g q) a b) x3.g) p.L.n _ (by omega) ⟨rfl,h1,t0.congr fun a b _ _=>by simp[R0,k4]⟩ ?_;rintro a2 j x3 x4 hj ⟨rfl,g1,g2⟩ m;by_cases a3:j<p.L.n
   .obtain⟨t,et,b0,b1⟩:=ih j a3;refine Ao (Am (B0 (by rw[AZ2];exact et) ?_));obtain⟨f,ef,o,a4⟩:=Xm (N:=M) hw (by omega) g1 b0 g2 b1;refine B0 ef (m a3 _ _ ⟨Gx,o,a4.congr fun a b _ _=>⟨?_,?_⟩⟩)
    .rintro (⟨q,h1,l⟩ | h)
     .exact⟨q,by omega,l⟩
     exact⟨j,by omega,h⟩
    rintro⟨q,h1,l⟩;by_cases e:q=j
    .subst e;exact .inr l
    exact .inl ⟨q,by omega,l⟩
   obtain rfl:j=p.L.n:=by omega
   exact Dg ⟨x3,rfl,g1,g2.congr fun a b _ _=>by rw[LG];simp[k4]⟩
  refine ifF (by simp[k4]) ?_;by_cases k5:p.Kind=5
  .obtain⟨hn1,hm0,hm1,hmx⟩:=h5 k5;refine ifT (by simp[k5]) (Am ?_);obtain⟨one,eo,ho1,ho2⟩:=ih 0 (by omega);obtain⟨s,es,a8,a9⟩:=Xl (N:=M) hw (by omega);refine B0 eo (B0 es ?_);have hF:=Tq w (p.L.g 0);have fin:∀(t:Sl Int) (k:Nat),t.n=w.n+1->TabR w.n (fun a b=>∃j:Nat,p.Min<=j/\j<k/\HP w.n (PR w (p.L.g 0)) j a b) t.g ->
    (∀a b,a<=w.n->b<=w.n->((∃j:Nat,p.Min<=j/\j<k/\HP w.n (PR w (p.L.g 0)) j a b) ↔ ∃j:Nat,p.Min<=j/\(p.Max = -1 \/ (j:Int)<=p.Max)/\HP w.n (PR w (p.L.g 0)) j a b)) ->
    ∃r,some t=some r/\r.n=w.n+1/\TabR w.n (PR w p) r.g:=by
    intro t k e1 e2 e3;exact⟨t,rfl,e1,e2.congr fun a b ha hb=>(e3 a b ha hb).trans (by rw[LG];simp[k5])⟩
   refine Ro (fun k (x8 x9:Sl Int) b2=>b2=(k:Int)/\x8.n=w.n+1/\x9.n=w.n+1/\TabR w.n (fun a b=>∃j:Nat,p.Min<=j/\j<k/\HP w.n (PR w (p.L.g 0)) j a b) x8.g/\TabR w.n (HP w.n (PR w (p.L.g 0)) k) x9.g/\(p.Max = -1 \/ (k:Int)<=p.Max)) 33 _ (by omega)
    ⟨rfl,h1,a8,t0.congr fun a b _ _=>by simp[R0,k5],a9.congr fun a b _ _=>Bj3,by omega⟩ ?_
   rintro a2 k x8 x9 b2 hk ⟨rfl,g1,g2,g3,g4,g5⟩ m;obtain⟨f,ef,o,a4⟩:=PD (N:=M) hw (by omega) g2 ho1 g4 ho2;have next:TabR w.n (HP w.n (PR w (p.L.g 0)) (k+1)) f.g:=a4
   by_cases u:p.Min<=(k:Int)
   .refine ifT (by simpa using u) ?_;obtain⟨j,ej,a5,hj2⟩:=Xm (N:=M) hw (by omega) g1 g2 g3 g4;have a1:TabR w.n (fun a b=>∃j:Nat,p.Min<=j/\j<k+1/\HP w.n (PR w (p.L.g 0)) j a b) j.g:=hj2.congr fun a b _ _=>by
     constructor
     .rintro (⟨q,h1,l,c⟩ | h)
      .exact⟨q,h1,by omega,c⟩
      exact⟨k,u,by omega,h⟩
     rintro⟨q,h1,l,c⟩;by_cases e:q=k
     .subst e;exact .inr c
     exact .inl ⟨q,h1,by omega,c⟩
    refine B0 ej (ltX ?_);by_cases a6:(k:Int)=p.Max
    .refine ifT (by simp[a6]) (ifT rfl (fin j (k+1) a5 a1 fun a b _ _=>⟨?_,?_⟩))
     .rintro⟨q,h1,l,c⟩;exact⟨q,h1,.inr (by omega),c⟩
     rintro⟨q,h1,l,c⟩;exact⟨q,h1,by omega,c⟩
    refine ifF (by simp[a6]) ?_;by_cases b3:p.Min<(k:Int)
    .refine ifT (by simpa using b3) ?_;obtain⟨b,eb,hb⟩:=Ae2 (N:=M) (x:=x8) (y:=j) hw (by omega) g1 a5;refine B0 eb ?_;by_cases a7:b=true
     .refine ifT a7 (fin j (k+1) a5 a1 fun a b ha a0=>⟨?_,?_⟩)
      .rintro⟨q,h1,l,c⟩;exact⟨q,h1,by omega,c⟩
      rintro⟨q,h1,l,c⟩;have heq:=hb.1 a7;obtain⟨q',k1,k2,k3⟩:=AA3 hF (mn:=p.Min.toNat) (k:=k) (by omega) (fun a b ha a0 hp=>by have e1:=a1.bit ha (b:=b) (by omega);have e2:=g3.bit ha (b:=b) (by omega);rw[<- heq a ha]at e1;obtain⟨_,q,k1,k2,k3⟩:=e2.1 (e1.2 ⟨a0,k,u,by omega,hp⟩);exact⟨q,by omega,k2,k3⟩) ha q b (by omega) c
      exact⟨q',by omega,by omega,k3⟩
     refine ifF a7 (B0 ef ?_);have b4:k<33:=by
      refine Nat.lt_of_le_of_ne hk fun e=>a7 (hb.2 fun a ha=>?_);subst e;refine g3.uniq (a1.congr fun a b ha a0=>⟨?_,?_⟩) ha
      .rintro⟨q,h1,l,c⟩;by_cases e:q=33
       .subst e;exact⟨32,by omega,by omega,To hF ha hw c⟩
       exact⟨q,h1,by omega,c⟩
      rintro⟨q,h1,l,c⟩;exact⟨q,h1,by omega,c⟩
     exact m b4 _ _ _ ⟨Gx,a5,o,a1,next,by omega⟩
    refine ifF (by simpa using b3) (Dg (B0 ef (m (by omega) _ _ _ ⟨Gx,a5,o,a1,next,by omega⟩)))
   refine ifF (by simpa using u) (B0 ef (m (by omega) _ _ _ ⟨Gx,g1,o,g3.congr fun a b _ _=>⟨?_,?_⟩,next,by omega⟩))
   .rintro⟨q,h1,l,c⟩;omega
   rintro⟨q,h1,l,c⟩;omega
  refine ifF (by simp[k5]) ⟨x1,rfl,h1,t0.congr fun a b _ _=>?_⟩;rw[LG];simp[R0,k3,k4,k5]
end Go.AM
namespace Go.AM
variable {N:Nat}
open IntKind (wrap)
open Go.Proofs
abbrev sOf (x y:BitVec 32):Oh:=⟨(x.toNat:Int),(y.toNat:Int)⟩
def okS (s:Oh):Prop:=∃p m:BitVec 32,s=sOf p m
def eq0 (x:BitVec 32):((x.toNat:Int)==0)=decide (x=0#32):=by
 rw[Bd2];simp only[beq_iff_eq,Lt];constructor
 .intro h;apply Bd0;show x.toNat=0;omega
 rintro rfl;rfl
def z32 (x:BitVec 32):x=0#32 ↔ ∀i,i<32->x.getLsbD i=false:=by
 constructor
 .rintro rfl i a;simp
 intro h;apply Bf3;intro i a;rw[h i a];simp
def JA {x y:BitVec 32}(h:∀b,b<32->x.getLsbD b=y.getLsbD b):x=y:=Bf3 h
def Xn (x:BitVec 32)(i:Nat):(H0 .and .u32 (shI .shr .u32 (x.toNat:Int) (i:Int)) 1==1)=x.getLsbD i:=by
 rw[Ab3,show (1:Int)=((1#32).toNat:Int) from rfl,Fd];have h:(x >>> i &&& 1#32)=(BitVec.ofBool (x.getLsbD i)).setWidth 32:=by
  apply Bf3;intro j b;simp only[Bb3,Bo6,Bp6,Bq8];by_cases a:j=0
  .subst a;simp
  have:(1#32).getLsbD j=false:=by rw[Bo7];simp[a]
  simp[this,a]
 rw[h];cases x.getLsbD i<;>rfl
def AK0 (i:Nat):shI .shl .u32 1 (i:Int)=((1#32 <<< i).toNat:Int):=by rw[show (1:Int)=((1#32).toNat:Int) from rfl,AS0]
def Ae3 {i j:Nat}(a:j<32):(1#32 <<< i).getLsbD j=decide (j=i):=by
 rw[Bp2,Bo7];by_cases h:j=i
 .subst h;simp[a]
 by_cases b:j<i
 .simp[h,b]
 have:j-i≠0:=by omega
 simp[h,this]
def GG (x:BitVec 32):x.toNat<16777216 ↔ ∀i,24<=i->i<32->x.getLsbD i=false:=by
 constructor
 .intro h i a b;exact Bq3 (Bc0 h (Bj1 (n:=2) (i:=24) (by omega) a))
 intro h;refine Nat.lt_pow_two_of_testBit (n:=24) _ fun i a=>?_;by_cases c:i<32
 .exact h i a c
 exact Bq3 (Bc0 x.isLt (Bj1 (by omega) (by omega)))
def vB (p m:BitVec 32):Bool:=decide (∀i:Fin 32,¬(p.getLsbD i=true/\m.getLsbD i=true)/\(24<=i.1->p.getLsbD i=false/\m.getLsbD i=false))
def Ga (p m:BitVec 32):vB p m=true ↔ ∀i,i<32->¬(p.getLsbD i=true/\m.getLsbD i=true)/\(24<=i->p.getLsbD i=false/\m.getLsbD i=false):=by rw[vB,Lt];exact⟨fun h i a=>h ⟨i,a⟩,fun h i=>h i.1 i.2⟩
def Xo (p m:BitVec 32):p &&& m=0#32 ↔ ∀i,i<32->¬(p.getLsbD i=true/\m.getLsbD i=true):=by rw[z32];refine forall_congr' fun i=>forall_congr' fun a=>?_;rw[Bb3,Bq9];cases p.getLsbD i<;>cases m.getLsbD i<;>simp
def AW1 (p m:BitVec 32):vB p m=true↔p &&& m=0#32/\(p ||| m).toNat<16777216:=by
 rw[Ga,Xo,GG];constructor
 .intro h;refine⟨fun i a=>(h i a).1,fun i h1 b=>?_⟩
  have:=(h i b).2 h1
  rw[Bb2,this.1,this.2];rfl
 rintro⟨h1,b⟩ i a;refine⟨h1 i a,fun c=>?_⟩
 have:=b i c a
 rw[Bb2,Bj2]at this;exact this
def Ae4 (p m:BitVec 32):vB p m=true↔p &&& m=0#32/\p.toNat<16777216/\m.toNat<16777216:=by rw[Ga,Xo,GG,GG];exact⟨fun h=>⟨fun i a=>(h i a).1,fun i h1 b=>((h i b).2 h1).1,fun i h1 b=>((h i b).2 h1).2⟩,fun⟨h1,b,d⟩ i a=>⟨h1 i a,fun c=>⟨b i c a,d i c a⟩⟩⟩
def By (p m:BitVec 32):H3 N (sOf p m)=some (vB p m):=by unfold H3;rw[Fd,KR,eq0];congr 1;rw[Bd2,AW1];simp only[AZ9,Lt];exact⟨fun h=>⟨h.1,by have:=h.2;omega⟩,fun h=>⟨h.1,by have:=h.2;omega⟩⟩
def shr24 (x:BitVec 32):(shI .shr .u32 (x.toNat:Int) 24==0)=decide (x.toNat<16777216):=by
 rw[show (24:Int)=((24:Nat):Int) from rfl,Ab3,Bd2];simp only[beq_iff_eq,Lt,Bj5,Bi9]
 have:=Bs0 (a:=x.toNat) (b:=2 ^ 24)
 omega
def TB (p m:BitVec 32):AZ N (sOf p m)=some (vB p m):=by unfold AZ;rw[Fd,KR,eq0,shr24];congr 1;rw[Bd2,AW1];simp only[AZ9,Lt]
def TC (p m:BitVec 32):P2 N (sOf p m)=some (vB p m):=TB (N:=N) p m
def PF (p m:BitVec 32):Y4 N (sOf p m)=some (vB p m):=by unfold Y4;rw[Fd,eq0];congr 1;rw[Bd2,Ae4];simp only[AZ9,Lt];exact⟨fun h=>⟨h.1.1,by have:=h.1.2;omega,by have:=h.2;omega⟩,fun h=>⟨⟨h.1,by have:=h.2.1;omega⟩,by have:=h.2.2;omega⟩⟩
def Ai (p m:BitVec 32)(n:1000<=N):K6 N (sOf p m)=some (vB p m):=by
 suffices h:∃r,K6 N (sOf p m)=some r/\r=vB p m by obtain⟨r,h,rfl⟩:=h;exact h
 unfold K6;refine Av (fun i x1=>x1=(i:Int)/\∀j,j<i->¬(p.getLsbD j=true/\m.getLsbD j=true)/\(24<=j->p.getLsbD j=false/\m.getLsbD j=false)) 32 _ (by omega) ⟨rfl,fun j d=>Lq d (by omega)⟩ ?_;rintro g i x1 o ⟨rfl,h1⟩ hs;by_cases hl:i<32
 .refine Ao (Am ?_);simp only[Xn];have e24:decide ((24:Int)<=(i:Int))=decide (24<=i):=decide_eq_decide.2 (by omega);rw[e24];by_cases hb:¬(p.getLsbD i=true/\m.getLsbD i=true)/\(24<=i->p.getLsbD i=false/\m.getLsbD i=false)
  .refine ifF ?_ (hs hl _ ⟨Gx,fun j d=>?_⟩)
   .intro h;obtain⟨l,f⟩:=hb;revert h l f;by_cases c:24<=i
    .intro h l f;obtain⟨a,b⟩:=f c;simp[a,b]at h
    cases p.getLsbD i<;>cases m.getLsbD i<;>simp[c]
   by_cases e:j=i
   .subst e;exact hb
   exact h1 j (by omega)
  refine ifT ?_ ⟨false,rfl,?_⟩
  .revert hb;by_cases c:24<=i
   .cases p.getLsbD i<;>cases m.getLsbD i<;>simp[c]
   cases p.getLsbD i<;>cases m.getLsbD i<;>simp[c]
  symm;rw[<- Bn3,Ga];exact fun h=>hb (h i hl)
 refine Df ⟨true,rfl,?_⟩;symm;rw[Ga];exact fun j d=>h1 j (by omega)
def gB (p m:BitVec 32)(f:Nat):Int:=if p.getLsbD f then 1 else if m.getLsbD f then -1 else 0
def Xp (p m:BitVec 32)(a:vB p m=true)(f:Nat)(c:f<24)(b:1000<=N):Bo N (sOf p m) (f:Int)=some (gB p m f):=by
 unfold Bo;rw[Ai p m b];simp only[AZ6,lt,Jr,Xn,gB,a];rw[Kc (by omega:(0:Int)<=(f:Int)),Kc (by omega:(0:Int)<=(f:Int))];have e:(decide ((0:Int)<=(f:Int))&&decide ((f:Int)<24))=true:=by simp;omega
 rw[e];cases h1:p.getLsbD f<;>cases d:m.getLsbD f<;>simp
def gB_eq {p m a b:BitVec 32}(g:vB p m=true)(c : vB a b=true)(f:Nat)(d:f<32):(gB a b f≠0->gB p m f=gB a b f)↔((a.getLsbD f=true->p.getLsbD f=true)/\(b.getLsbD f=true->m.getLsbD f=true)):=by have h1:=((Ga p m).1 g f d).1;have i:=((Ga a b).1 c f d).1;revert h1 i;simp only[gB];cases a.getLsbD f<;>cases b.getLsbD f<;>cases p.getLsbD f<;>cases m.getLsbD f<;>simp
def Zt (p m a b:BitVec 32):Bool:=vB p m&&(vB a b&&decide (∀i:Fin 32,(a.getLsbD i=true->p.getLsbD i=true)/\(b.getLsbD i=true->m.getLsbD i=true)))
def AK1 (a p:BitVec 32):a &&& ~~~ p=0#32 ↔ ∀i,i<32->(a.getLsbD i=true->p.getLsbD i=true):=by rw[z32];refine forall_congr' fun i=>forall_congr' fun b=>?_;rw[Bb3,Be9];cases a.getLsbD i<;>cases p.getLsbD i<;>simp[b]
def AK2 (p m a b:BitVec 32):K5 N (sOf p m) (sOf a b)=some (Zt p m a b):=by
 unfold K5;rw[By];simp only[AZ6,lt,By,Ew,eq0,Zt];cases h1:vB p m
 .simp
 cases d:vB a b
 .simp
 simp only[Lr,Bl9];have key:(decide (∀i:Fin 32,(a.getLsbD i=true->p.getLsbD i=true)/\(b.getLsbD i=true->m.getLsbD i=true)))=(decide (a &&& ~~~ p=0#32)&&decide (b &&& ~~~ m=0#32)):=by rw[Bd2];simp only[AZ9,Lt,AK1];exact⟨fun h=>⟨fun i c=>(h ⟨i,c⟩).1,fun i c=>(h ⟨i,c⟩).2⟩,fun h i=>⟨h.1 i.1 i.2,h.2 i.1 i.2⟩⟩
 rw[key];by_cases h:a &&& ~~~ p=0#32
 .simp[h]
 simp[h]
def AK3 (p m a b:BitVec 32)(f:1000<=N):Y2 N (sOf p m) (sOf a b)=some (Zt p m a b):=by
 suffices h:∃r,Y2 N (sOf p m) (sOf a b)=some r/\r=Zt p m a b by obtain⟨r,h,rfl⟩:=h;exact h
 unfold Y2;rw[Ai p m f];refine B0 rfl (ltX ?_);cases h1:vB p m
 .exact Ap (ifT rfl ⟨false,rfl,by simp[Zt,h1]⟩)
 refine Dg ?_;rw[Ai a b f];refine B0 rfl ?_;cases c:vB a b
 .exact Ap ⟨false,rfl,by simp[Zt,c]⟩
 refine Dg ?_;refine Av (fun i x3=>x3=(i:Int)/\∀j,j<i->((a.getLsbD j=true->p.getLsbD j=true)/\(b.getLsbD j=true->m.getLsbD j=true))) 24 _ (by omega) ⟨rfl,fun j n=>Lq n (by omega)⟩ ?_;rintro d i x3 q ⟨rfl,o⟩ hs;by_cases hl:i<24
 .refine Ao (B0 (Xp a b c i hl f) (ltX ?_));have key:=gB_eq h1 c i (by omega);have fin:(¬(gB a b i≠0->gB p m i=gB a b i))->false=Zt p m a b:=fun hn=>by symm;simp only[Zt,h1,c,Bl9];rw[<- Bn3,Lt];intro h;exact hn (key.2 (h ⟨i,by omega⟩))
  have go:(gB a b i≠0->gB p m i=gB a b i)->∃r,d (wrap .i64 ((i:Int)+1))=some r/\r=Zt p m a b:=fun hp=>hs hl _ ⟨Gx,fun j n=>by
   by_cases e:j=i
   .subst e;exact key.1 hp
   exact o j (by omega)⟩
  by_cases g:gB a b i=0
  .exact ifF (by simp[g]) (Dg (go fun h=>Lq g h))
  refine ifT (by simp[g]) (B0 (Xp p m h1 i hl f) ?_);by_cases l:gB p m i=gB a b i
  .exact ifF (by simp[l]) (go fun _=>l)
  exact ifT (by simp[l]) ⟨false,rfl,fin fun h=>l (h g)⟩
 refine Df ⟨true,rfl,?_⟩;symm;simp only[Zt,h1,c,Bl9,Lt];intro j;by_cases n:j.1<24
 .exact o j.1 (by omega)
 have:=((Ga a b).1 c j.1 j.2).2 (by omega)
 exact⟨fun h=>by rw[this.1]at h;exact Lq h (by simp),fun h=>by rw[this.2]at h;exact Lq h (by simp)⟩
def RK (x y s:BitVec 32):BitVec 32:=(x &&& ~~~ s) ||| (y &&& s)
def AA4 (p m a b s:BitVec 32):BJ N (sOf p m) (sOf a b) (s.toNat:Int)=some (sOf (RK p a s) (RK m b s)):=by unfold BJ;simp only[Ew,Fd,KR,RK]
def AW2 (x:BitVec 32)(f:Nat)(on:Bool):BitVec 32:=if on then (x &&& ~~~ (1#32 <<< f)) ||| (1#32 <<< f)else x &&& ~~~ (1#32 <<< f)
def Hh (x:BitVec 32)(f:Nat)(on:Bool){j:Nat}(a:j<32):(AW2 x f on).getLsbD j=if j=f then on else x.getLsbD j:=by
 unfold AW2;cases on
 .rw[Ke (by simp),Bb3,Be9,Ae3 a];by_cases e:j=f<;>simp[e,a]
 rw[Kc rfl,Bb2,Bb3,Be9,Ae3 a];by_cases e:j=f<;>simp[e,a]
def Ae5 (p m:BitVec 32)(f:Nat)(v:Int):ED N (sOf p m) (f:Int) v=some (sOf (AW2 p f (v==1)) (AW2 m f (v == -1))):=by unfold ED;rw[Ig];simp only[AK0,Ew,KR];cases h1:v==1<;>cases a:v == -1<;>simp[AW2]
def At1 (p m c a b:BitVec 32):Oh×Int:=if vB p m=true/\vB a b then (if c.toNat<16777216/\c &&& (a ||| b)=0#32 then (sOf (RK p a (c ||| (a ||| b))) (RK m b (c ||| (a ||| b))),0)else (⟨0,0⟩,2))else (⟨0,0⟩,14)
def YS (p m c a b:BitVec 32):P0 N (sOf p m) (c.toNat:Int) (sOf a b)=some (At1 p m c a b):=by
 unfold P0 At1;rw[By];simp only[AZ6,lt,By,Dj,KR,Fd,AA4];cases h1:vB p m
 .simp
 cases g:vB a b
 .simp
 by_cases d:c.toNat<16777216
 .have e:((c &&& (a ||| b)).toNat:Int) != 0 ↔ ¬(c &&& (a ||| b)=0#32):=by
   have:=eq0 (c &&& (a ||| b))
   simp only[bne_iff_ne,ne_eq];rw[<- Lt (p:=c &&& (a ||| b)=0#32),<- this];simp
  by_cases f:c &&& (a ||| b)=0#32
  .simp[d,f];omega
  have e':=e.2 f;rw[Ke (by simp<;>omega),e'];simp[d,f]
 simp[d];omega
def YT (p m c a b:BitVec 32)(t:1000<=N):Y3 N (sOf p m) (c.toNat:Int) (sOf a b)=some (At1 p m c a b):=by
 suffices h:∃r,Y3 N (sOf p m) (c.toNat:Int) (sOf a b)=some r/\r=At1 p m c a b by obtain⟨r,h,rfl⟩:=h;exact h
 unfold Y3;rw[Ai p m t];refine B0 rfl (ltX ?_);cases h1:vB p m
 .exact Ap (ifT rfl ⟨_,rfl,by simp[At1,h1]⟩)
 refine Dg ?_;rw[Ai a b t];refine B0 rfl ?_;cases o:vB a b
 .exact Ap ⟨_,rfl,by simp[At1,o]⟩
 refine Dg ?_;rw[KR,Fd];by_cases hc:c.toNat<16777216/\c &&& (a ||| b)=0#32
 .obtain⟨q,n⟩:=hc;refine ifF (by rw[n];simp;omega) ?_;have y:∀j,j<32->¬(c.getLsbD j=true/\(a.getLsbD j=true \/ b.getLsbD j=true)):=fun j d=>by
   have:=(z32 _).1 n j d
   rw[Bb3,Bb2]at this;revert this;cases c.getLsbD j<;>cases a.getLsbD j<;>cases b.getLsbD j<;>simp
  refine Ro (fun i x2 x3 x4=>x4=(i:Int)/\∃P M:BitVec 32,x2=(P.toNat:Int)/\x3=(M.toNat:Int)/\∀j,j<32 ->
   P.getLsbD j=(if j<i/\(c.getLsbD j=true \/ a.getLsbD j=true \/ b.getLsbD j=true)then a.getLsbD j else p.getLsbD j)/\M.getLsbD j=(if j<i/\(c.getLsbD j=true \/ a.getLsbD j=true \/ b.getLsbD j=true)then b.getLsbD j else m.getLsbD j)) 24 _ (by omega)
   ⟨rfl,p,m,rfl,rfl,fun j d=>by simp⟩ ?_
  rintro w i x2 x3 x4 hi ⟨rfl,P,M,rfl,rfl,f⟩ hs;by_cases hl:i<24
  .refine Ao (Am ?_);rw[Xn];have u:=Xp (N:=N) a b o i hl t;have v:=((Ga a b).1 o i (by omega)).1;have z:=y i (by omega);by_cases l:c.getLsbD i=true
   .refine ifT l (B0 (Ae5 P M i 0) (B0 u ?_));have ea:a.getLsbD i=false:=by cases e:a.getLsbD i<;>simp_all
    have eb:b.getLsbD i=false:=by cases e:b.getLsbD i<;>simp_all
    refine ifF (by simp[gB,ea,eb]) (hs hl _ _ _ ⟨Gx,_,_,rfl,rfl,fun j d=>?_⟩);rw[Hh _ _ _ d,Hh _ _ _ d];by_cases e:j=i
    .subst e;simp[l,ea,eb]
    have:=f j d
    have e2:j<i+1↔j<i:=by omega
    simp only[e,Ls,e2];exact this
   refine ifF l (B0 u ?_);by_cases s:gB a b i=0
   .have ea:a.getLsbD i=false:=by revert s;simp only[gB];cases a.getLsbD i<;>simp
    have eb:b.getLsbD i=false:=by revert s;simp only[gB,ea];cases b.getLsbD i<;>simp
    refine ifF (by simp[s]) (hs hl _ _ _ ⟨Gx,P,M,rfl,rfl,fun j d=>?_⟩);by_cases e:j=i
    .subst e;have:=f j d;simpa[l,ea,eb]using this
    have:=f j d
    have e2:j<i+1↔j<i:=by omega
    simp only[e2];exact this
   refine ifT (by simp[s]) (B0 u (B0 (Ae5 P M i _) (hs hl _ _ _ ⟨Gx,_,_,rfl,rfl,fun j d=>?_⟩)));rw[Hh _ _ _ d,Hh _ _ _ d];by_cases e:j=i
   .subst e;revert s v;simp only[gB];cases a.getLsbD j<;>cases b.getLsbD j<;>simp
   have:=f j d
   have e2:j<i+1↔j<i:=by omega
   simp only[e,Ls,e2];exact this
  obtain rfl:i=24:=by omega
  refine Dg ⟨_,rfl,?_⟩;simp only[At1,h1,o,q,n,and_self,Lr];have hp:=(Ga p m).1 h1;have x:=(Ga a b).1 o;have a0:=(GG c).1 q;have eP:P=RK p a (c ||| (a ||| b)):=JA fun j d=>by
   rw[(f j d).1,RK,Bb2,Bb3,Bb3,Be9,Bb2,Bb2];by_cases g:j<24
   .cases c.getLsbD j<;>cases a.getLsbD j<;>cases b.getLsbD j<;>cases p.getLsbD j<;>simp[g,d]
   have g1:=(hp j d).2 (by omega);have g2:=(x j d).2 (by omega);simp[g,g1.1,g2.1]
  have eM:M=RK m b (c ||| (a ||| b)):=JA fun j d=>by
   rw[(f j d).2,RK,Bb2,Bb3,Bb3,Be9,Bb2,Bb2];by_cases g:j<24
   .cases c.getLsbD j<;>cases a.getLsbD j<;>cases b.getLsbD j<;>cases m.getLsbD j<;>simp[g,d]
   have g1:=(hp j d).2 (by omega);have g2:=(x j d).2 (by omega);simp[g,g1.2,g2.2]
  rw[eP,eM]
 refine ifT ?_ ⟨_,rfl,?_⟩
 .rw[Bc2,Lt,bne_iff_ne];by_cases h:c.toNat<16777216
  .right
   intro h0;exact hc ⟨h,Bd0 (by show _=0;omega)⟩
  left;omega
 simp only[At1,h1,o,and_self,Lr];rw[Ke hc]
def At2 (p m a b s:BitVec 32):Oh×Int:=if vB p m=true/\vB a b then (if s.toNat<16777216 then (sOf (RK p a s) (RK m b s),0)else (⟨0,0⟩,2))else (⟨0,0⟩,14)
def At3 (p m a b s:BitVec 32):T4 N (sOf p m) (sOf a b) (s.toNat:Int)=some (At2 p m a b s):=by
 unfold T4 At2;rw[By];simp only[AZ6,lt,By,AA4];cases h1:vB p m
 .simp
 cases d:vB a b
 .simp
 by_cases c:s.toNat<16777216
 .simp[c];omega
 simp[c];omega
def At4 (p m a b s:BitVec 32)(o:1000<=N):BK N (sOf p m) (sOf a b) (s.toNat:Int)=some (At2 p m a b s):=by
 suffices h:∃r,BK N (sOf p m) (sOf a b) (s.toNat:Int)=some r/\r=At2 p m a b s by obtain⟨r,h,rfl⟩:=h;exact h
 unfold BK;rw[Ai p m o];refine B0 rfl (ltX ?_);cases h1:vB p m
 .exact Ap (ifT rfl ⟨_,rfl,by simp[At2,h1]⟩)
 refine Dg ?_;rw[Ai a b o];refine B0 rfl ?_;cases l:vB a b
 .exact Ap ⟨_,rfl,by simp[At2,l]⟩
 refine Dg ?_;by_cases hc:s.toNat<16777216
 .refine Df ?_;refine Ro (fun i x2 x3 x4=>x4=(i:Int)/\∃P M:BitVec 32,x2=(P.toNat:Int)/\x3=(M.toNat:Int)/\∀j,j<32 ->
   P.getLsbD j=(if j<i/\s.getLsbD j then a.getLsbD j else p.getLsbD j)/\M.getLsbD j=(if j<i/\s.getLsbD j then b.getLsbD j else m.getLsbD j)) 24 _ (by omega)
   ⟨rfl,p,m,rfl,rfl,fun j c=>by simp⟩ ?_
  rintro t i x2 x3 x4 u ⟨rfl,P,M,rfl,rfl,d⟩ hs;by_cases hl:i<24
  .refine Ao (Am ?_);rw[Xn];have q:=((Ga a b).1 l i (by omega)).1;by_cases g:s.getLsbD i=true
   .refine ifT g (B0 (Xp (N:=N) a b l i hl o) (B0 (Ae5 P M i _) (hs hl _ _ _ ⟨Gx,_,_,rfl,rfl,fun j c=>?_⟩)));rw[Hh _ _ _ c,Hh _ _ _ c];by_cases e:j=i
    .subst e;revert q;simp only[gB,g];cases a.getLsbD j<;>cases b.getLsbD j<;>simp
    have:=d j c
    have e2:j<i+1↔j<i:=by omega
    simp only[e,Ls,e2];exact this
   refine ifF g (hs hl _ _ _ ⟨Gx,P,M,rfl,rfl,fun j c=>?_⟩);by_cases e:j=i
   .subst e;have:=d j c;simpa[g]using this
   have:=d j c
   have e2:j<i+1↔j<i:=by omega
   simp only[e2];exact this
  obtain rfl:i=24:=by omega
  refine Dg ⟨_,rfl,?_⟩;simp only[At2,h1,l,hc,and_self,Lr];have n:=(GG s).1 hc;have eP:P=RK p a s:=JA fun j c=>by
   rw[(d j c).1,RK,Bb2,Bb3,Bb3,Be9];by_cases f:j<24
   .cases s.getLsbD j<;>cases a.getLsbD j<;>cases p.getLsbD j<;>simp[f,c]
   rw[Ke (by simp[f]),n j (by omega) c];simp[c]
  have eM:M=RK m b s:=JA fun j c=>by
   rw[(d j c).2,RK,Bb2,Bb3,Bb3,Be9];by_cases f:j<24
   .cases s.getLsbD j<;>cases b.getLsbD j<;>cases m.getLsbD j<;>simp[f,c]
   rw[Ke (by simp[f]),n j (by omega) c];simp[c]
  rw[eP,eM]
 exact Ao ⟨_,rfl,by simp[At2,h1,l,hc]⟩
end Go.AM
namespace Go.AM
open Go.Proofs
def vS (s:Oh):Prop:=∃p m:BitVec 32,s=sOf p m/\vB p m=true
def Hr (p:Pat):Prop:= (0<=p.Kind/\p.Kind<=6)/\(p.Kind≠1->(p.Is.Plus=0/\p.Is.Minus=0)/\p.Not=false)/\(p.Kind≠3->p.Kind≠4->p.Kind≠5->p.L.n=0)/\(p.Kind≠5->p.Min=0/\p.Max=0) /\ (p.Kind=5->p.L.n=1/\0<=p.Min/\p.Min<=32/\(p.Max = -1 \/ (p.Min<=p.Max/\p.Max<=32)))/\vS p.Is
def VK {s:Oh}{p m:BitVec 32}(h:s=sOf p m):vS s↔vB p m=true:=by
 constructor
 .rintro⟨q,r,e,a⟩;rw[h]at e;have e1:(p.toNat:Int)=q.toNat:=congrArg Oh.Plus e;have e2:(m.toNat:Int)=r.toNat:=congrArg Oh.Minus e;rw[Bd0 (show p.toNat=q.toNat by omega),Bd0 (show m.toNat=r.toNat by omega)];exact a
 exact fun a=>⟨p,m,h,a⟩
def okPS:Pat->Prop
 |.nil=>True
 |.mk _ is _ _ _ n g=>okS is/\∀i,i<n->okPS (g i)
def okPS.is {p:Pat}(h:okPS p):okS p.Is:=by
 cases p with
 |nil=>exact⟨0#32,0#32,rfl⟩
 |mk _ is _ _ _ n g=>exact h.1
def okPS.L {p:Pat}(h:okPS p){i:Nat}(a:i<p.L.n):okPS (p.L.g i):=by
 cases p with
 |nil=>exact Lq a (by show ¬i<0;omega)
 |mk _ is _ _ _ n g=>exact h.2 i a
def chk:Nat->List Pat->Prop
 |0,l=>l=[]
 |_+1,[]=>True
 |k+1,p::l=>Hr p/\chk k (p.L.toList++l)
def Ae6:∀k,chk k []
 |0=>rfl
 |_+1=>trivial
def NC:∀(k:Nat) (l:List Pat),chk k l->l.length<=k
 |0,l,h=>by rw[show l=[] from h];exact Ba0 _
 |k+1,[],_=>Bi0 _
 |k+1,p::l,⟨_,h⟩=>by
  have:=NC k _ h
  rw[Ba7]at this;simp only[Bd3];omega
def Xq:∀(d:Nat) (p:Pat),okP d p->okP (d+1) p
 |0,_,h=>h.elim
 |d+1,p,⟨h1,h2,h3⟩=>⟨h1,h2,fun i a=>Xq d _ (h3 i a)⟩
def PG {α : Type}{s:Sl α}{i:Nat}(h:i<s.n):s.g i∈s.toList:=Bd5.2 ⟨i,Bc3.2 h,rfl⟩
def Bc {α : Type}(s:Sl α):s.toList.length=s.n:=by simp[Sl.toList]
def ND:∀(k:Nat) (l:List Pat),k<=40->chk k l->∀p∈l,okP k p
 |0,l,_,h,p,hp=>by rw[show l=[] from h]at hp;cases hp
 |k+1,[],_,_,p,hp=>by cases hp
 |k+1,q::l,hk,⟨hn,h⟩,p,hp=>by
  have ih:=ND k _ (by omega) h;rcases Bd1.1 hp with rfl|hp
  .have hl:=NC k _ h;rw[Ba7,Bc]at hl;exact⟨by omega,fun a=>hn.2.2.2.2.1 a,fun i b=>ih _ (Bc6 _ (PG b))⟩
  exact Xq k p (ih p (Bb0 _ hp))
def At5 {N:Nat}{p:Pat}(hp:okS p.Is):∃e,Kh N p=some e/\(e=0↔Hr p):=by
 obtain⟨a,b,f⟩:=hp;have i:=VK f;unfold Kh Hr;by_cases h1:0<=p.Kind/\p.Kind<=6
 case neg=>exact Ao ⟨2,rfl,by simp;omega⟩
 refine Df ?_;have e0:((p.Is.Plus==0)&&(p.Is.Minus==0))=decide (p.Is.Plus=0/\p.Is.Minus=0):=by rw[Bd2];simp
 rw[e0];by_cases c:p.Kind≠1->(p.Is.Plus=0/\p.Is.Minus=0)/\p.Not=false
 case neg=>
  refine ifT ?_ ⟨2,rfl,by simp[c]⟩;simp only[AZ9,Bc2,bne_iff_ne,ne_eq,Bn3,decide_eq_false_iff_not];rw[Classical.not_imp]at c;refine⟨c.1,?_⟩;by_cases h:p.Is.Plus=0/\p.Is.Minus=0
  .right
   cases hn:p.Not
   .exact Lq ⟨h,hn⟩ c.2
   rfl
  exact .inl h
 refine ifF ?_ (ltX ?_)
 .simp only[AZ9,Bc2,bne_iff_ne,ne_eq,Bn3,decide_eq_false_iff_not];rintro⟨g1,g2⟩;obtain⟨g3,g4⟩:=c g1;rcases g2 with g2|g2
  .exact g2 g3
  rw[g4]at g2;cases g2
 have rest:(p.Kind≠3->p.Kind≠4->p.Kind≠5->p.L.n=0)->∃e,(if ((p.Kind != 5)&&((p.Min != 0)||(p.Max != 0))) then some (2:Int)else
  lt (fun (z2:Bool)=>if z2 then some 2 else (Y4 N p.Is).bind fun y1=>if (!y1) then some 14 else some 0) fun k2=>
   if (p.Kind==5) then if (((p.L.n:Nat):Int) != 1) then k2 true else if (decide (p.Min<0)) then k2 true else if (decide (32<p.Min)) then k2 true else
    if (p.Max != (-1)) then if (decide (p.Max<p.Min)) then k2 true else k2 (decide (32<p.Max))else k2 false else k2 false)=some e /\
  (e=0↔(0<=p.Kind/\p.Kind<=6)/\(p.Kind≠1->(p.Is.Plus=0/\p.Is.Minus=0)/\p.Not=false)/\(p.Kind≠3->p.Kind≠4->p.Kind≠5->p.L.n=0)/\(p.Kind≠5->p.Min=0/\p.Max=0) /\
   (p.Kind=5->p.L.n=1/\0<=p.Min/\p.Min<=32/\(p.Max = -1 \/ (p.Min<=p.Max/\p.Max<=32)))/\vS p.Is):=by
  intro j;by_cases d:p.Kind≠5->p.Min=0/\p.Max=0
  case neg=>refine ifT ?_ ⟨2,rfl,by simp[d]⟩;rw[Classical.not_imp]at d;simp only[AZ9,Bc2,bne_iff_ne,ne_eq];omega
  refine ifF ?_ (ltX ?_)
  .simp only[AZ9,Bc2,bne_iff_ne,ne_eq];rintro⟨g1,g2⟩
   have:=d g1
   omega
  have last:(p.Kind=5->p.L.n=1/\0<=p.Min/\p.Min<=32/\(p.Max = -1 \/ (p.Min<=p.Max/\p.Max<=32)))->∃e,(if false then some (2:Int)else (Y4 N p.Is).bind fun y1=>if (!y1) then some 14 else some 0)=some e /\
   (e=0↔(0<=p.Kind/\p.Kind<=6)/\(p.Kind≠1->(p.Is.Plus=0/\p.Is.Minus=0)/\p.Not=false)/\(p.Kind≠3->p.Kind≠4->p.Kind≠5->p.L.n=0)/\(p.Kind≠5->p.Min=0/\p.Max=0) /\
    (p.Kind=5->p.L.n=1/\0<=p.Min/\p.Min<=32/\(p.Max = -1 \/ (p.Min<=p.Max/\p.Max<=32)))/\vS p.Is):=by
   intro g;refine Dg ?_;rw[i,f,PF];refine B0 rfl ?_;cases l:vB a b
   .exact ifT rfl ⟨14,rfl,by simp⟩
   exact Dg ⟨0,rfl,by rw[<- f];exact⟨fun _=>⟨h1,c,j,d,g,rfl⟩,fun _=>rfl⟩⟩
  have bad:¬(p.Kind=5->p.L.n=1/\0<=p.Min/\p.Min<=32/\(p.Max = -1 \/ (p.Min<=p.Max/\p.Max<=32)))->∃e,(if true then some (2:Int)else (Y4 N p.Is).bind fun y1=>if (!y1) then some 14 else some 0)=some e /\
   (e=0↔(0<=p.Kind/\p.Kind<=6)/\(p.Kind≠1->(p.Is.Plus=0/\p.Is.Minus=0)/\p.Not=false)/\(p.Kind≠3->p.Kind≠4->p.Kind≠5->p.L.n=0)/\(p.Kind≠5->p.Min=0/\p.Max=0) /\
    (p.Kind=5->p.L.n=1/\0<=p.Min/\p.Min<=32/\(p.Max = -1 \/ (p.Min<=p.Max/\p.Max<=32)))/\vS p.Is):=fun g=>ifT rfl ⟨2,rfl,⟨fun h=>Lq h (by decide),fun h=>Lq h.2.2.2.2.1 g⟩⟩
  by_cases k5:p.Kind=5
  .refine ifT (by simp[k5]) ?_;by_cases g1:p.L.n=1
   case neg=>exact Ao (bad fun h=>g1 (h k5).1)
   refine Df ?_;by_cases g2:p.Min<0
   .exact ifT (by simpa using g2) (bad fun h=>by have:=h k5;omega)
   refine ifF (by simpa using g2) ?_;by_cases g3:32<p.Min
   .exact ifT (by simpa using g3) (bad fun h=>by have:=h k5;omega)
   refine ifF (by simpa using g3) ?_;by_cases g4:p.Max = -1
   .exact ifF (by simp[g4]) (last fun _=>⟨g1,by omega,by omega,.inl g4⟩)
   refine ifT (by simp[g4]) ?_;by_cases g5:p.Max<p.Min
   .exact ifT (by simpa using g5) (bad fun h=>by have:=h k5;omega)
   refine ifF (by simpa using g5) ?_;by_cases g6:32<p.Max
   .rw[decide_eq_true g6];exact bad fun h=>by have:=h k5;omega
   rw[decide_eq_false g6];exact last fun _=>⟨g1,by omega,by omega,.inr ⟨by omega,by omega⟩⟩
  exact ifF (by simp[k5]) (last fun h=>Lq h k5)
 by_cases k3:p.Kind=3
 .exact ifF (by simp[k3]) (Dg (rest fun h=>Lq k3 h))
 refine ifT (by simp[k3]) ?_;by_cases k4:p.Kind=4
 .exact ifF (by simp[k4]) (Dg (rest fun _ h=>Lq k4 h))
 refine ifT (by simp[k4]) ?_;by_cases k5:p.Kind=5
 .exact ifF (by simp[k5]) (Dg (rest fun _ _ h=>Lq k5 h))
 refine ifT (by simp[k5]) ?_;by_cases hn:p.L.n=0
 .exact Df (rest fun _ _ _=>hn)
 exact Ao ⟨2,rfl,⟨fun h=>Lq h (by decide),fun h=>Lq (h.2.2.1 k3 k4 k5) hn⟩⟩
def FC {α : Type}(s:Sl α){i:Nat}(h:i<s.n):s.toList.drop i=s.g i::s.toList.drop (i+1):=by
 have hl:i<s.toList.length:=by rw[Bc];exact h
 rw[Bl1 hl];simp[Sl.toList]
def Dv {α : Type}(s:Sl α):s.toList.drop s.n=[]:=Bh2 (by rw[Bc];exact Ba0 _)
def Ae7 {N:Nat}(o:1000<=N):∀(d:Nat),d<=40->∀(p:Pat),okPS p->∀M,N+d+1<=M->∃r,EE M p ((40-d:Nat):Int)=some r /\
 ∃k:Nat,r.1=(k:Int)/\40-d<=k/\k<=40/\(r.2=0->40-d<k/\∀l,chk d (p::l)↔chk (40-k) l)/\(r.2≠0->∀l,¬chk d (p::l))
 |d,hd,p,hp,0,hM=>by omega
 |0,hd,p,hp,M+1,hM=>by show ∃r,Cg (EE M) M p _=some r/\_;unfold Cg;exact Ap ⟨_,rfl,40,rfl,by omega,by omega,fun h=>Lq h (by decide),fun _ l h=>by cases h⟩
 |d+1,hd,p,hp,M+1,hM=>by
  show ∃r,Cg (EE M) M p _=some r/\_;unfold Cg;refine Df ?_;obtain⟨e,q,hn⟩:=At5 (N:=M) hp.is;refine B0 q ?_;by_cases c:e=0
  case neg=>exact ifT (by simp[c]) ⟨_,rfl,40-(d+1),rfl,Ba0 _,by omega,fun h=>Lq h c,fun _ l h=>c (hn.2 h.1)⟩
  refine ifF (by simp[c]) ?_;have a:=hn.1 c;rw[Gx];refine O8 (fun i x1 x2=>x2=(i:Int)/\∃k:Nat,x1=(k:Int)/\40-(d+1)+1+i<=k/\k<=40/\i<=p.L.n/\∀l,chk (d+1) (p::l)↔chk (40-k) (p.L.toList.drop i++l)) 41 _ (by omega)
   ⟨rfl,40-(d+1)+1,rfl,by omega,by omega,by omega,fun l=>by rw[show 40-(40-(d+1)+1)=d by omega];exact⟨fun h=>h.2,fun h=>⟨a,h⟩⟩⟩ ?_
  rintro j i x1 x2 t ⟨rfl,k,rfl,h1,s,u,f⟩ hs;by_cases hl:i<p.L.n
  .refine Ao (Am ?_);obtain⟨r,m,k',r1,r2,r3,r4,r5⟩:=Ae7 o (40-k) (by omega) (p.L.g i) (hp.L hl) M (by omega);rw[show ((40-(40-k):Nat):Int)=(k:Int) by omega]at m;refine B0 (by rw[AZ2];exact m) ?_;by_cases b:r.2=0
   .refine ifF (by simp[b]) (hs (by omega) _ _ ⟨Gx,k',r1,by have:=(r4 b).1;omega,r3,by omega,fun l=>?_⟩);rw[f,FC _ hl,Be1];exact (r4 b).2 _
   refine ifT (by simp[b]) ⟨_,rfl,k',r1,by omega,r3,fun h=>Lq h b,fun _ l hc=>?_⟩;rw[f,FC _ hl,Be1]at hc;exact r5 b _ hc
  obtain rfl:i=p.L.n:=by omega
  refine Dg ⟨_,rfl,k,rfl,by omega,s,fun _=>⟨by omega,fun l=>?_⟩,fun h=>Lq rfl h⟩;rw[f,Dv];rfl
def NE {N:Nat}(f:2000<=N){p:Pat}(hp:okPS p):∃e,Dl N p=some e/\(e=0↔chk 40 [p]):=by
 obtain⟨r,b,k,h1,g,i,c,d⟩:=Ae7 (N:=1500) (by omega) 40 (Ba0 _) p hp N (by omega);unfold Dl;refine B0 b ⟨_,rfl,fun h=>?_,fun h=>?_⟩
 .exact ((c h).2 []).2 (Ae6 _)
 by_cases a:r.2=0
 .exact a
 exact Lq h (d a [])
end Go.AM
namespace Go.AM
open Go.Proofs
def Ae8 (x:BitVec 64)(h:x≠0#64):Lib.ctz 64 x.toNat<64/\x.getLsbD (Lib.ctz 64 x.toNat)=true/\∀j,j<Lib.ctz 64 x.toNat->x.getLsbD j=false:=by
 have b:x.toNat≠0:=fun e=>h (Bd0 (by simpa using e));obtain⟨m,hm,a⟩:=Lib.ctzFrom_spec 64 x.toNat (by omega) x.isLt;have e:Lib.ctz 64 x.toNat=Lib.ctzFrom 64 x.toNat:=by unfold Lib.ctz;rw[Ke b]
 rw[e];refine⟨a,?_,fun j c=>?_⟩
 .show x.toNat.testBit _=true;rw[hm,Bp7];simp[<- hm,Nat.testBit_zero]
 show x.toNat.testBit _=false;rw[hm,Bp7];simp[<- hm];omega
def FD (x:BitVec 64)(i:Nat):List Int:=((List.range' i (64-i)).filter fun j=>x.getLsbD j).map fun (j:Nat)=>(j:Int)
def Kt {x:BitVec 64}{i:Nat}(h:∀j,j<64->x.getLsbD j=false):FD x i=[]:=by
 unfold FD;rw[Bq4.2 fun j a=>by
  have:=List.mem_range'.1 a
  simp;exact h j (by omega)]
 rfl
def PH {x:BitVec 64}{t:Nat}:∀(k i:Nat),t=i+k->t<64->x.getLsbD t=true->(∀j,j<t->x.getLsbD j=false)->FD x i=(t:Int)::FD x (t+1)
 |0,i,h,ht,hb,hl=>by
  obtain rfl:t=i:=by omega
  unfold FD;rw[show 64-t=(64-(t+1))+1 by omega,Bi6,Bm1 hb];rfl
 |k+1,i,h,ht,hb,hl=>by rw[<- PH k (i+1) (by omega) ht hb hl];unfold FD;rw[show 64-i=(64-(i+1))+1 by omega,Bi6,Bm2 (by simp;exact hl i (by omega))]
def VL {x y:BitVec 64}{i:Nat}(h:∀j,i<=j->x.getLsbD j=y.getLsbD j):FD x i=FD y i:=by unfold FD;rw[List.filter_congr fun j a=>h j (by have:=List.mem_range'.1 a;omega)]
def AZ0 (M:Nat)(a:Int->Option (List Int))(x1:Int):Option (List Int):= if (x1 != 0) then (G7 M x1).bind fun y3=>if (0:Int)<=y3 then X1 y3 (a (H0 .andNot .u64 x1 (shI .shl .u64 1 y3))) else none else some []
def Ae9 {x:BitVec 64}{M:Nat}{a:Int->Option (List Int)}(hx:x≠0#64):AZ0 M a (U x)=X1 ((Lib.ctz 64 x.toNat:Nat):Int) (a (U (x &&& ~~~(1#64 <<< Lib.ctz 64 x.toNat)))):=by
 have c:x.toNat≠0:=fun e=>hx (Bd0 (by simpa using e));have b:=x.isLt;unfold AZ0;rw[Kc (by simp;omega)]
 have:G7 M (U x)=some ((Lib.ctz 64 x.toNat:Nat):Int):=by unfold G7;rw[Kc ⟨show (0:Int)<=(x.toNat:Int) by omega,show (x.toNat:Int)<18446744073709551616 by omega⟩];rfl
 rw[this,AZ6,Ig,Tn _ (Ae8 x hx).1,As5]
def TD {M:Nat}{a:Int->Option (List Int)}:AZ0 M a (U 0#64)=some []:=rfl
def AK4 (M:Nat):∀(k i:Nat) (x:BitVec 64),64-i<=k->(∀j,j<i->x.getLsbD j=false)->∀N,k<N->Q5 N (AZ0 M) (U x)=some (FD x i):=by
 intro k
 induction k with
 |zero=>
  intro i x hk hl N b;have g:x=0#64:=Bf3 fun j a=>by simp;exact hl j (by omega)
  subst g
  match N,b with
  |N+1,_=>rw[Kt fun j a=>by simp,P6,TD]
 |succ k ih=>
  intro i x hk hl N b
  match N,b with
  |N+1,b=>
   by_cases hx:x=0#64
   .subst hx;rw[Kt fun j a=>by simp,P6,TD]
   obtain⟨h1,c,d⟩:=Ae8 x hx;have l:i<=Lib.ctz 64 x.toNat:=by
    by_cases m:Lib.ctz 64 x.toNat<i
    .rw[hl _ m]at c;cases c
    omega
   rw[PH (Lib.ctz 64 x.toNat-i) i (by omega) h1 c d,P6,Ae9 hx];generalize Lib.ctz 64 x.toNat=t at h1 c d l;have hb:∀j,j<64->(x &&& ~~~(1#64 <<< t)).getLsbD j=(x.getLsbD j && !decide (j=t)):=fun j a=>by rw[Bb3,Be9,Gz h1 a];simp[a]
   have hc:FD x (t+1)=FD (x &&& ~~~(1#64 <<< t)) (t+1):=VL fun j a=>by
    by_cases f:j<64
    .rw[hb j f];have:¬j=t:=by omega
     simp[this]
    rw[Br4 _ _ (by omega),Br4 _ _ (by omega)]
   rw[ih (t+1) (x &&& ~~~(1#64 <<< t)) (by omega) (fun j a=>by
    rw[hb j (by omega)];by_cases e:j=t
    .simp[e]
    rw[d j (by omega)];rfl) N (by omega),<- hc]
   rfl
def Ir (x:BitVec 64){N:Nat}(b:100<=N):Q8 N (U x)=some (FD x 0):=
 AK4 N 64 0 x (by omega) (fun j a=>Lq a (by omega)) N (by omega)
def mem_bitsF {x:BitVec 64}{i:Nat}{y:Int}:y∈FD x i ↔ ∃j:Nat,y=(j:Int)/\i<=j/\j<64/\x.getLsbD j=true:=by
 unfold FD;simp only[Bd5,Bj4,Bp3];constructor
 .rintro⟨j,⟨h1,a⟩,rfl⟩;exact⟨j,rfl,h1.1,by omega,a⟩
 rintro⟨j,rfl,h1,a,b⟩;exact⟨j,⟨⟨h1,by omega⟩,b⟩,rfl⟩
def YU {T A R:Type}{body:(A->Option R)->T->A->Option R}{k:A->Option R}{J8:R->Prop}(J:List T->A->Prop)(c:∀a,J [] a->∃r,k a=some r/\J8 r)
 (b:∀t L a self,J (t::L) a->(∀a',J L a' -> ∃r,self a' = some r/\J8 r)->∃r,body self t a=some r/\J8 r):∀(L:List T) (a:A),J L a->∃r,N8 L body k a=some r/\J8 r
 |[],a,h=>c a h
 |t::L,a,h=>b t L a _ h fun a' h'=>YU J c b L a' h'
def TabA (n:Nat)(R:Nat->Nat->Prop)(f:Nat->Int):Prop:=TabR n R f/\∀a,n<a->f a=0
def TabA.congr {n:Nat}{R R' : Nat->Nat->Prop}{f:Nat->Int}(h:TabA n R f)(c:∀a b,a<=n->b<=n->(R a b↔R' a b)):TabA n R' f:=⟨h.1.congr c,h.2⟩
def zeroA (n:Nat):TabA n (fun _ _=>False) (fun _=>0):=⟨At0 fun _ _=>rfl,fun _ _=>rfl⟩
def DP (f:Nat->Int)(i:Nat)(v:Int)(a:Nat):MH f i v a=if a=i then v else f a:=rfl
def AA5 {N n:Nat}{R S:Nat->Nat->Prop}{x y:Nat->Int}(hn:n<=32)(f:1000<=N)(hR:TabA n R x)(Z:TabA n S y) :∃s,N6 N x y=some s/\TabA n (fun a b=>R a b \/ S a b) s:=by
 unfold N6;refine O8 (fun i x1 x2=>x2=(i:Int)/\∀a,x1 a=if a<i then H0 .or .u64 (x a) (y a)else x a) 33 _ (by omega) ⟨rfl,fun a=>by rw[Jo]⟩ ?_;rintro d i x1 x2 g ⟨rfl,c⟩ hs;by_cases hl:i<33
 .refine Ao (Am (Am (hs (by omega) _ _ ⟨Gx,fun a=>?_⟩)));rw[DP,AZ2,Bd4,Bf1];by_cases e:a=i
  .subst e;rw[Kc rfl,Ig,c a,Jo]
  rw[Ke e,c a];by_cases e2:a<i
  .rw[Kc e2,Ig]
  rw[Ke e2,Jo]
 refine Df ⟨x1,rfl,fun a ha=>?_,fun a ha=>?_⟩
 .obtain⟨u,e1,g1⟩:=hR.1 a ha;obtain⟨v,e2,g2⟩:=Z.1 a ha;refine⟨u ||| v,by rw[c a,Ig,e1,e2,AY9],fun b hb=>?_⟩;rw[Bb2,Bc2,g1 b hb,g2 b hb];constructor
  .rintro (⟨h1,c⟩ | ⟨h1,c⟩)
   .exact⟨h1,.inl c⟩
   exact⟨h1,.inr c⟩
  rintro⟨h1,c|c⟩
  .exact .inl ⟨h1,c⟩
  exact .inr ⟨h1,c⟩
 rw[c a];split
 .rw[hR.2 a ha,Z.2 a ha];rfl
 exact hR.2 a ha
def GH {N n:Nat}(hn:n<=32)(f:1000<=N):∃s,Q0 N (n:Int)=some s/\TabA n (fun a b=>a=b) s:=by
 unfold Q0;rw[Gx];refine O8 (fun i x1 x2=>x2=(i:Int)/\∀a,x1 a=if a<i then U (1#64 <<< a)else 0) (n+1) _ (by omega) ⟨rfl,fun a=>rfl⟩ ?_;rintro d i x1 x2 g ⟨rfl,c⟩ hs;by_cases hl:i<=n
 .refine Ao (Am (hs (by omega) _ _ ⟨Gx,fun a=>?_⟩));rw[DP,AZ2,Bd4,Bf1];by_cases e:a=i
  .subst e;rw[Kc rfl,Ig,Tn _ (by omega)]
  rw[Ke e,c a];by_cases e2:a<i
  .rw[Kc e2,Ig]
  rw[Ke e2,Jo]
 refine Df ⟨x1,rfl,fun a ha=>⟨1#64 <<< a,by rw[c a,Ig],fun b hb=>?_⟩,fun a ha=>by rw[c a,Jo]⟩;rw[Gz (by omega) hb,Lt];omega
def LQ {N n:Nat}{R S:Nat->Nat->Prop}{x y:Nat->Int}(hn:n<=32)(hN:1000<=N)(hR:TabA n R x)(Z:TabA n S y) :∃s,E7 N x y=some s/\TabA n (fun a b=>∃c,c<=n/\R a c/\S c b) s:=by
 unfold E7;refine O8 (fun i x3 x4=>x4=(i:Int)/\(∀a,a<i->a<=n->∃z:BitVec 64,x3 a=U z/\∀b,b<64->(z.getLsbD b=true↔b<=n/\∃c,c<=n/\R a c/\S c b))/\∀a,i<=a \/ n<a->x3 a=0) 33 _ (by omega)
  ⟨rfl,fun a ha=>Lq ha (by omega),fun a _=>rfl⟩ ?_
 rintro a1 i x3 x4 hi ⟨rfl,q,m⟩ hs;by_cases hl:i<33
 .refine Ao (Am ?_);rw[AZ2,Bd4,Bf1];refine B0 (x:=x i) rfl ?_;by_cases r:i<=n
  .obtain⟨u,e1,g1⟩:=hR.1 i r;refine B0 (x:=FD u 0) (by rw[e1];exact Ir u (by omega)) ?_;refine YU (fun L z=>(∀a,a≠i->z a=x3 a)/\(∀t∈L,∃c:Nat,t=(c:Int)/\c<=n/\R i c)/\∃v:BitVec 64,z i=U v/\∀b,b<64->((v.getLsbD b=true \/ ∃c:Nat,(c:Int)∈L/\b<=n/\S c b)↔(b<=n/\∃c,c<=n/\R i c/\S c b))) ?_ ?_ _ _ ?_
   .rintro z ⟨k1,k2,v,k3,k4⟩;refine hs (by omega) _ _ ⟨Gx,fun a ha f=>?_,fun a ha=>?_⟩
    .by_cases e:a=i
     .subst e;exact⟨v,k3,fun b hb=>by rw[<- k4 b hb];simp⟩
     obtain⟨z',p1,p2⟩:=q a (by omega) f;exact⟨z',by rw[k1 a e];exact p1,p2⟩
    rw[k1 a (by omega)];exact m a (by omega)
   .rintro t L z w ⟨k1,k2,v,k3,k4⟩ a0;obtain⟨c,rfl,hc,a2⟩:=k2 t (by simp);refine Am (a0 _ ⟨fun a ha=>?_,fun t ht=>k2 t (by simp[ht]),?_⟩)
    .rw[DP,Jo];exact k1 a ha
    obtain⟨yc,e2,g2⟩:=Z.1 c hc;refine⟨v ||| yc,?_,fun b hb=>?_⟩
    .rw[DP,Ig];simp only[AZ2,Bd4,Bf1];rw[k3,e2,AY9]
    rw[<- k4 b hb,Bb2,Bc2,g2 b hb];constructor
    .rintro ((h|⟨h,h'⟩)|⟨c',h,h'⟩)
     .exact .inl h
     .exact .inr ⟨c,by simp,h,h'⟩
     exact .inr ⟨c',by simp[h],h'⟩
    rintro (h|⟨c',h,h',d⟩)
    .exact .inl (.inl h)
    rcases Bd1.1 h with h|h
    .have:c' = c:=by omega
     subst this;exact .inl (.inr ⟨h',d⟩)
    exact .inr ⟨c',h,h',d⟩
   refine⟨fun _ _=>rfl,fun t ht=>?_,0#64,m i (.inl (Ba0 _)),fun b hb=>?_⟩
   .obtain⟨j,rfl,_,o,hb⟩:=mem_bitsF.1 ht;exact⟨j,rfl,((g1 j o).1 hb).1,((g1 j o).1 hb).2⟩
   simp only[Bo2,Ba2,false_or];constructor
   .rintro⟨c,hc,h,h'⟩;obtain⟨j,o,_,g,l⟩:=mem_bitsF.1 hc;obtain rfl:c=j:=by omega
    exact⟨h,c,((g1 c g).1 l).1,((g1 c g).1 l).2,h'⟩
   rintro⟨h,c,hc,h',d⟩;exact⟨c,mem_bitsF.2 ⟨c,rfl,by omega,by omega,(g1 c (by omega)).2 ⟨hc,h'⟩⟩,h,d⟩
  refine B0 (x:=[]) (by rw[hR.2 i (by omega)];exact (Ir 0#64 (by omega)).trans (by rw[Kt fun j o=>by simp])) ?_;exact hs (by omega) _ _ ⟨Gx,fun a ha f=>q a (by omega) f,fun a ha=>m a (by omega)⟩
 exact Df ⟨x3,rfl,fun a ha=>q a (by omega) ha,fun a ha=>m a (.inr ha)⟩
def At6 (N:Nat)(x:Nat->Int):I7 N x=E7 N x x:=rfl
end Go.AM
namespace Go.AM
variable {N:Nat}
open Go.Proofs
def AW3:∀m:Fin 33,(H0 .and .i64 ((m.val:Nat):Int) 1==1)=decide (m.val % 2=1)/\shI .shr .i64 ((m.val:Nat):Int) 1=((m.val / 2:Nat):Int):=by decide +kernel
def TE {N n:Nat}{R:Nat->Nat->Prop}{x:Nat->Int}(hn:n<=32)(o:1000<=N)(u:Fwd n R)(hR:TabA n R x){k:Nat}(hk:k<=32) :∃s,F9 N x (k:Int) (n:Int)=some s/\TabA n (HP n R k) s:=by
 unfold F9;obtain⟨y1,e1,h1⟩:=GH (N:=N) hn o;refine B0 e1 ?_;refine Ro (fun i x1 x2 x3=>x1=((k / 2 ^ i:Nat):Int)/\TabA n (HP n R (2 ^ i)) x2/\TabA n (HP n R (k % 2 ^ i)) x3) 6 _ (by omega) ⟨by simp,?_,?_⟩ ?_
 .exact hR.congr fun a b ha hb=>⟨fun h=>⟨a,ha,rfl,h⟩,fun⟨c,hc,(h:a=c),h'⟩=>h ▸ h'⟩
 .rw[Nat.pow_zero,Nat.mod_one];exact h1
 rintro v i x1 x2 x3 w ⟨rfl,q,l⟩ hs;have hm:k / 2 ^ i<=32:=Bd7 (Bm3 _ _) hk;obtain⟨b1,b2⟩:=AW3 ⟨k / 2 ^ i,by omega⟩;simp only at b1 b2;have f:k / 2 ^ i / 2=k / 2 ^ (i+1):=by rw[Nat.div_div_eq_div_mul,Nat.pow_succ]
 have g:k % 2 ^ (i+1)=k % 2 ^ i+2 ^ i*(k / 2 ^ i % 2):=Nat.mod_pow_succ;have d:∃s,I7 N x2=some s/\TabA n (HP n R (2 ^ (i+1))) s:=by obtain⟨s,e,h⟩:=LQ hn o q q;refine⟨s,(At6 N x2).trans e,h.congr fun a b ha hb=>?_⟩;rw[show 2 ^ (i+1)=2 ^ i+2 ^ i by rw[Nat.pow_succ];omega];exact (DJ u (2 ^ i) ha (2 ^ i) b).symm
 obtain⟨sq,esq,d⟩:=d;by_cases m:k / 2 ^ i=0
 .refine ifF (by simp[m]) ⟨x3,rfl,?_⟩
  have:k % 2 ^ i=k:=Bi5 (by
   have:=Bs0.1 m
   rcases this with h|h
   .exact Lq h (Nat.ne_of_gt (Nat.two_pow_pos i))
   exact h)
  rw[this]at l;exact l
 have j:i<6:=by
  by_cases h:i<6
  .exact h
  exact Lq (Bh9 (Bt0 hk (Bc0 (by decide:32<2 ^ 6) (Bj1 (by omega) (by omega))))) m
 refine ifT (decide_eq_true (Int.natCast_pos.2 (Nat.pos_of_ne_zero m))) ?_;by_cases r:k / 2 ^ i % 2=1
 .refine ifT (by rw[b1];simp[r]) ?_;obtain⟨t,et,ht⟩:=LQ hn o l q;refine B0 et (B0 esq (hs j _ _ _ ⟨by rw[b2,f],d,ht.congr fun a b ha hb=>?_⟩));rw[g,r,Bf1];exact (DJ u (k % 2 ^ i) ha (2 ^ i) b).symm
 refine ifF (by rw[b1];simp[r]) (B0 esq (hs j _ _ _ ⟨by rw[b2,f],d,?_⟩));rw[g,show k / 2 ^ i % 2=0 by omega,Nat.mul_zero,Bi3];exact l
def AK5 {s c:Oh}(hs:okS s)(hc:okS c):((H0 .or .u32 (H0 .andNot .u32 c.Plus s.Plus) (H0 .andNot .u32 c.Minus s.Minus))==0)=Vs s c:=by
 obtain⟨p,m,rfl⟩:=hs;obtain⟨a,b,rfl⟩:=hc;have e:∀x y:BitVec 32,((H0 .and .u32 (x.toNat:Int) (y.toNat:Int))==(y.toNat:Int))=decide (y &&& ~~~ x=0#32):=by
  intro x y;rw[Fd,Bd2];simp only[beq_iff_eq,Lt];constructor
  .intro h;have h:x &&& y=y:=Bd0 (by omega);refine (z32 _).2 fun i d=>?_
   have:=congrArg (·.getLsbD i) h
   simp only[Bb3,Be9,d,decide_true,Bl9]at this⊢;cases hx:x.getLsbD i<;>cases hy:y.getLsbD i<;>simp_all
  intro h
  have:x &&& y=y:=JA fun i d=>by
   have:=(z32 _).1 h i d
   simp only[Bb3,Be9,d,decide_true,Bl9]at this⊢;cases hx:x.getLsbD i<;>cases hy:y.getLsbD i<;>simp_all
  rw[this]
 unfold Vs;simp only[e,Ew,KR,eq0];rw[Bd2];simp only[AZ9,Lt];constructor
 .intro h;have h:=(z32 _).1 h;exact⟨(z32 _).2 fun i d=>by have:=h i d;rw[Bb2,Bj2]at this;exact this.1,(z32 _).2 fun i d=>by have:=h i d;rw[Bb2,Bj2]at this;exact this.2⟩
 rintro⟨h1,f⟩;rw[h1,f];rfl
def Af0 (q:1000<=N){w:Sl Oh}(hw:w.n<=32)(l:∀i,i<w.n->okS (w.g i)){c:Oh}(hc:okS c)(no:Bool) :∃f,Y6 N ⟨c,no⟩ w=some f/\TabA w.n (fun a b=>a<w.n/\b=a+1/\(Vs (w.g a) c != no)=true) f:=by
 unfold Y6;refine O8 (fun i x1 x2=>x2=(i:Int)/\∀a,x1 a=if a<i/\(Vs (w.g a) c != no) then U (1#64 <<< (a+1))else 0) w.n _ (by omega) ⟨rfl,fun a=>by rw[Jo]⟩ ?_;rintro m i x1 x2 r ⟨rfl,d⟩ hs;by_cases hl:i<w.n
 .refine Ao (Am ?_);rw[AZ2,AK5 (l i hl) hc];by_cases hb:(Vs (w.g i) c != no)=true
  .refine ifT (by revert hb;cases Vs (w.g i) c<;>cases no<;>simp) ?_;rw[Gx];refine Am (hs hl _ _ ⟨rfl,fun a=>?_⟩);rw[DP,Bd4,Bf1,Tn _ (by omega)];by_cases e:a=i
   .subst e;rw[Kc rfl,Kc ⟨by omega,hb⟩]
   rw[Ke e,d a];by_cases e2:a<i
   .simp only[e2,show a<i+1 by omega,true_and]
   rw[Jo,Jo]
  refine ifF (by revert hb;cases Vs (w.g i) c<;>cases no<;>simp) (hs hl _ _ ⟨Gx,fun a=>?_⟩);rw[d a];by_cases e:a=i
  .subst e;rw[Jo,Ke (fun h=>hb h.2)]
  by_cases e2:a<i
  .simp only[e2,show a<i+1 by omega,true_and]
  rw[Jo,Jo]
 refine Df ⟨x1,rfl,fun a ha=>?_,fun a ha=>by rw[d a,Jo]⟩;by_cases hb:a<w.n/\(Vs (w.g a) c != no)=true
 .refine⟨1#64 <<< (a+1),by rw[d a,Kc ⟨by omega,hb.2⟩],fun b j=>?_⟩;rw[Gz (by omega) j,Lt];exact⟨fun h=>⟨by omega,hb.1,h,hb.2⟩,fun h=>h.2.2.1⟩
 refine⟨0#64,by rw[d a,Ke (fun h=>hb ⟨by omega,h.2⟩)];rfl,fun b j=>?_⟩;simp only[Bo2,Ba2,false_iff];rintro⟨_,h1,d,o⟩;exact hb ⟨h1,o⟩
def Af1 {n a0 b0:Nat}(ha:a0<=n)(hb:b0<=n)(hn:n<=32):TabA n (fun a b=>a=a0/\b=b0) (MH (fun _=>0) a0 (U (1#64 <<< b0))):=by
 refine⟨fun a d=>?_,fun a d=>by rw[DP,Jo]⟩;by_cases e:a=a0
 .refine⟨1#64 <<< b0,by rw[DP,Kc e],fun b c=>?_⟩;rw[Gz (by omega) c,Lt];omega
 refine⟨0#64,by rw[DP,Ke e];rfl,fun b c=>?_⟩;simp only[Bo2,Ba2,false_iff];exact fun h=>e h.2.1
def Xr {w:Sl Oh}(hw:w.n<=32)(e:Bool):∃f,AE N ⟨e⟩ w=some f/\TabA w.n (fun a b=>a=(if e then w.n else 0)/\b=(if e then w.n else 0)) f:=by
 unfold AE;cases e
 .refine Dg (Az ⟨_,rfl,?_⟩);exact Af1 (n:=w.n) (a0:=0) (b0:=0) (by omega) (by omega) hw
 refine ifT rfl (Am ⟨_,rfl,?_⟩);rw[AZ2,Bd4,Bf1,Tn _ (by omega)];exact Af1 (Ba0 _) (Ba0 _) hw
def AK6 (a:1000<=N){w:Sl Oh}(hw:w.n<=32){rec:Part->Sl Oh->Option (Nat->Int)}{m:Nat}(hm:m<=40){g:Nat->Part}{Q:Nat->Nat->Nat->Prop}
 (hc:∀i,i<m->∃f,rec (g i) w=some f/\TabA w.n (Q i) f):∃f,Bq rec N ⟨⟨m,g⟩⟩ w=some f/\TabA w.n (YO w.n Q m) f:=by
 unfold Bq;obtain⟨y1,e1,h1⟩:=GH (N:=N) hw a;refine B0 e1 ?_;refine O8 (fun i x1 x2=>x2=(i:Int)/\i<=m/\TabA w.n (YO w.n Q i) x1) m _ (by omega) ⟨rfl,by omega,h1⟩ ?_;rintro b i x1 x2 o ⟨rfl,d,c⟩ hs;by_cases hl:i<m
 .refine Ao (ifT (by show (0:Int)<=i/\(i:Int)<m;omega) ?_);obtain⟨f,e2,j⟩:=hc i hl;refine B0 (by rw[AZ2];exact e2) ?_;obtain⟨s,e3,l⟩:=LQ hw a c j;exact B0 e3 (hs hl _ _ ⟨Gx,hl,l⟩)
 obtain rfl:i=m:=by omega
 exact Dg ⟨x1,rfl,c⟩
def AK7 (l:1000<=N){w:Sl Oh}(hw:w.n<=32){rec:Part->Sl Oh->Option (Nat->Int)}{m:Nat}(hm:m<=40){g:Nat->Part}{Q:Nat->Nat->Nat->Prop}
 (hc:∀i,i<m->∃f,rec (g i) w=some f/\TabA w.n (Q i) f):∃f,Br rec N ⟨⟨m,g⟩⟩ w=some f/\TabA w.n (fun a b=>∃i,i<m/\Q i a b) f:=by
 unfold Br;refine O8 (fun i x1 x2=>x2=(i:Int)/\i<=m/\TabA w.n (fun a b=>∃j,j<i/\Q j a b) x1) m _ (by omega) ⟨rfl,by omega,(zeroA _).congr fun a b _ _=>⟨False.elim,fun⟨j,h,_⟩=>Lq h (by omega)⟩⟩ ?_;rintro c i x1 x2 t ⟨rfl,o,d⟩ hs;by_cases hl:i<m
 .refine Ao (ifT (by show (0:Int)<=i/\(i:Int)<m;omega) ?_);obtain⟨f,e2,q⟩:=hc i hl;refine B0 (by rw[AZ2];exact e2) ?_;obtain⟨s,e3,r⟩:=AA5 hw l d q;refine B0 e3 (hs hl _ _ ⟨Gx,hl,r.congr fun a b _ _=>⟨?_,?_⟩⟩)
  .rintro (⟨j,h,h'⟩ | h)
   .exact⟨j,by omega,h'⟩
   exact⟨i,by omega,h⟩
  rintro⟨j,h,h'⟩;by_cases e:j=i
  .subst e;exact .inr h'
  exact .inl ⟨j,by omega,h'⟩
 obtain rfl:i=m:=by omega
 exact Dg ⟨x1,rfl,d⟩
end Go.AM
namespace Go.AM
open Go.Proofs
def AK8 {N:Nat}(l:1000<=N){w:Sl Oh}(hw:w.n<=32){rec:Part->Sl Oh->Option (Nat->Int)}{pt:Part}{Q:Nat->Nat->Prop}(d:Fwd w.n Q){f:Nat->Int}(u:rec pt w=some f)(r:TabA w.n Q f)
 {mn mx:Int}(y:0<=mn) (h1:mn<=32) (z:mx = -1 \/ (mn<=mx/\mx<=32)) :
 ∃s,Bs rec N ⟨pt,mn,mx⟩ w=some s/\TabA w.n (fun a b=>∃k:Nat,mn<=k/\(mx = -1 \/ (k:Int)<=mx)/\HP w.n Q k a b) s:=by
 obtain⟨m,rfl⟩:∃m:Nat,mn=(m:Int):=⟨mn.toNat,by omega⟩;unfold Bs;refine B0 u ?_;obtain⟨y2,e2,t2⟩:=TE hw l d r (k:=m) (by omega);refine B0 e2 ?_;obtain⟨y3,e3,t3⟩:=GH (N:=N) hw l;refine B0 e3 ?_;obtain⟨y4,e4,t4⟩:=AA5 hw l r t3;refine B0 e4 ?_;have o : Fwd w.n (fun a b=>Q a b \/ a=b):=fun a b ha h=>by
  rcases h with h|h
  .exact d a b ha h
  omega
 have key:∀(K:Nat),K<=32->∃s,((F9 N y4 (K:Int) (w.n:Int)).bind fun y5=>(E7 N y2 y5).bind fun y6=>some y6)=some s/\TabA w.n (fun a b=>∃j,j<=K/\HP w.n Q (m+j) a b) s:=by
  intro K v;obtain⟨y5,e5,t5⟩:=TE hw l o t4 (k:=K) v;refine B0 e5 ?_;obtain⟨y6,e6,t6⟩:=LQ hw l t2 t5;refine B0 e6 ⟨y6,rfl,t6.congr fun a b ha hb=>?_⟩;constructor
  .rintro⟨c,hc,g1,g2⟩;obtain⟨j,i,g3⟩:=(Nj d hc K b).1 g2;exact⟨j,i,(DJ d m ha j b).2 ⟨c,hc,g1,g3⟩⟩
  rintro⟨j,i,g⟩;obtain⟨c,hc,g1,g3⟩:=(DJ d m ha j b).1 g;exact⟨c,hc,g1,(Nj d hc K b).2 ⟨j,i,g3⟩⟩
 by_cases hx:mx<0
 .refine ifT (decide_eq_true hx) ?_;obtain⟨s,e,t⟩:=key w.n hw;refine⟨s,e,t.congr fun a b ha hb=>?_⟩;constructor
  .rintro⟨j,i,g⟩;exact⟨m+j,by omega,.inl (by omega),g⟩
  rintro⟨k,hk,_,g⟩;obtain⟨c,hc,g1,g3⟩:=(DJ d m ha (k-m) b).1 (by rw[show m+(k-m)=k by omega];exact g);obtain⟨j,i,g4⟩:=Tp d hc (k-m) g3;exact⟨j,i,(DJ d m ha j b).2 ⟨c,hc,g1,g4⟩⟩
 refine ifF (by simpa using hx) ?_;obtain⟨M,rfl⟩:∃M:Nat,mx=(M:Int):=⟨mx.toNat,by omega⟩;have q:IntKind.i64.wrap ((M:Int)-(m:Int))=((M-m:Nat):Int):=by rw[E4 (by omega) (by omega)];omega
 rw[show IntKind.i64.wrap ((⟨pt,(m:Int),(M:Int)⟩:AV1).max-(⟨pt,(m:Int),(M:Int)⟩:AV1).min)=((M-m:Nat):Int) from q];obtain⟨s,e,t⟩:=key (M-m) (by omega);refine⟨s,e,t.congr fun a b ha hb=>?_⟩;constructor
 .rintro⟨j,i,g⟩;exact⟨m+j,by omega,.inr (by omega),g⟩
 rintro⟨k,hk,x,g⟩;exact⟨k-m,by omega,by rw[show m+(k-m)=k by omega];exact g⟩
def okQ:Nat->Pat->Prop
 |0,_=>False
 |d+1,p=>Hr p/\p.L.n<=40/\∀i,i<p.L.n->okQ d (p.L.g i)
def Xs:∀(d:Nat) (p:Pat),okQ d p->okQ (d+1) p
 |0,_,h=>h.elim
 |d+1,p,⟨h1,h2,h3⟩=>⟨h1,h2,fun i a=>Xs d _ (h3 i a)⟩
def Af2:∀(k:Nat) (l:List Pat),k<=40->chk k l->∀p∈l,okQ k p
 |0,l,_,h,p,hp=>by rw[show l=[] from h]at hp;cases hp
 |k+1,[],_,_,p,hp=>by cases hp
 |k+1,q::l,hk,⟨hn,h⟩,p,hp=>by
  have ih:=Af2 k _ (by omega) h;rcases Bd1.1 hp with rfl|hp
  .have hl:=NC k _ h;rw[Ba7,Bc]at hl;exact⟨hn,by omega,fun i a=>ih _ (Bc6 _ (PG a))⟩
  exact Xs k p (ih p (Bb0 _ hp))
def vS.ok {s:Oh}(h:vS s):okS s:=by obtain⟨p,m,e,_⟩:=h;exact⟨p,m,e⟩
def AK9 (K:Nat)(p:Pat)(pt:Part):Prop:=∀(w:Sl Oh),w.n<=32->(∀i,i<w.n->okS (w.g i))->∀M,K<=M->∃f,AG M pt w=some f/\TabA w.n (PR w p) f
def NF {N:Nat}(x:1000<=N):∀(d:Nat),d<=40->∀(p:Pat),okQ d p->∀M,N+d<=M->∃pt,AF M p=some pt/\AK9 (N+d) p pt
 |0,_,p,h,_,_=>h.elim
 |d+1,hd,p,⟨hn,hc,hch⟩,0,hM=>by omega
 |d+1,hd,p,⟨hn,hc,hch⟩,M+1,hM=>by
  show ∃pt,U9 (AF M) M p=some pt/\_;unfold U9;refine O8 (fun i x1 x2=>x2=(i:Int)/\i<=p.L.n/\x1.n=i/\∀j,j<i->AK9 (N+d) (p.L.g j) (x1.g j)) p.L.n _ (by omega) ⟨rfl,by omega,rfl,fun j t=>Lq t (by omega)⟩ ?_;rintro u i x1 x2 v ⟨rfl,h1,q,o⟩ hs;by_cases hl:i<p.L.n
  .refine Ao (Am ?_);obtain⟨pt,e,y⟩:=NF x d (by omega) (p.L.g i) (hch i hl) M (by omega);refine B0 (by rw[AZ2];exact e) ?_;refine ifT (by show (x1.n+1)*16<=_/\x1.n+1<=_;omega) (hs hl _ _ ⟨Gx,hl,by show x1.n+1=i+1;omega,fun j t=>?_⟩);by_cases e2:j=i
   .subst e2
    have:(x1.push pt).g j=pt:=by simp[Sl.push,q]
    rw[this];exact y
   have:(x1.push pt).g j=x1.g j:=by simp[Sl.push];omega
   rw[this];exact o j (by omega)
  obtain rfl:i=p.L.n:=by omega
  have fin:∀(pt:Part),(∀(w:Sl Oh),w.n<=32->(∀i,i<w.n->okS (w.g i))->∀M,N+d<=M->∃f,AG (M+1) pt w=some f/\TabA w.n (PR w p) f)->∃r,some pt=some r/\AK9 (N+(d+1)) p r:=by intro pt h;refine⟨pt,rfl,fun w hw c M' l=>?_⟩;obtain⟨M'',rfl⟩:∃M'',M' = M'' + 1:=⟨M' - 1,by omega⟩;exact h w hw c M'' (by omega)
  refine Dg ?_;obtain⟨⟨k0,k6⟩,n1,n2,n3,n4,n5⟩:=hn;by_cases k1:p.Kind=1
  .refine ifT (by simp[k1]) (fin _ fun w hw c M' l=>?_);obtain⟨f,e,h⟩:=Af0 (N:=M') (by omega) hw c n5.ok p.Not;refine⟨f,e,h.congr fun a b _ _=>?_⟩;rw[LG];simp[k1]
  refine ifF (by simp[k1]) ?_;by_cases k2:p.Kind=2
  .refine ifT (by simp[k2]) (fin _ fun w hw c M' l=>?_);obtain⟨f,e,h⟩:=Xr (N:=M') hw false;refine⟨f,e,h.congr fun a b _ _=>?_⟩;rw[LG];simp[k2]
  refine ifF (by simp[k2]) ?_;by_cases k6:p.Kind=6
  .refine ifT (by simp[k6]) (fin _ fun w hw c M' l=>?_);obtain⟨f,e,h⟩:=Xr (N:=M') hw true;refine⟨f,e,h.congr fun a b _ _=>?_⟩;rw[LG];simp[k6]
  refine ifF (by simp[k6]) ?_;by_cases k4:p.Kind=4
  .refine ifT (by simp[k4]) (fin _ fun w hw c M' l=>?_);obtain⟨f,e,h⟩:=AK7 (N:=M') (by omega) hw (rec:=AG M') (m:=x1.n) (g:=x1.g) (Q:=fun i=>PR w (p.L.g i)) (by omega) fun i v=>o i (by omega) w hw c M' (by omega);refine⟨f,e,h.congr fun a b _ _=>?_⟩;rw[LG,q];simp[k4]
  refine ifF (by simp[k4]) ?_;by_cases k5:p.Kind=5
  .obtain⟨g1,g2,g3,g4⟩:=n4 k5;refine ifT (by simp[k5]) (Am (fin _ fun w hw c M' l=>?_));obtain⟨f,e,h⟩:=o 0 (by omega) w hw c M' (by omega);obtain⟨s,e2,z⟩:=AK8 (N:=M') (by omega) hw (rec:=AG M') (Tq w (p.L.g 0)) e h g2 g3 g4;refine⟨s,e2,z.congr fun a b _ _=>?_⟩;rw[LG];simp[k5]
  refine ifF (by simp[k5]) (fin _ fun w hw c M' l=>?_);obtain⟨f,e,h⟩:=AK6 (N:=M') (by omega) hw (rec:=AG M') (m:=x1.n) (g:=x1.g) (Q:=fun i=>PR w (p.L.g i)) (by omega) fun i v=>o i (by omega) w hw c M' (by omega);refine⟨f,e,h.congr fun a b _ _=>?_⟩;rw[LG,q];by_cases k3:p.Kind=3
  .simp[k3]
  have k0' : p.Kind=0:=by omega
  rw[n2 k3 k4 k5];simp[k0',YO]
end Go.AM
namespace Go.AM
variable {N:Nat}
open IntKind (wrap)
open Go.Proofs
def YV {p:Pat}(hp:okS p.Is):∃e,AC N p=some e/\(e=0↔Hr p):=by
 obtain⟨a,b,i⟩:=hp;have m:=VK i;have V:P2 N p.Is=some (vB a b):=by rw[i];exact TC a b
 have e0:((p.Is.Plus==0)&&(p.Is.Minus==0))=decide (p.Is.Plus=0/\p.Is.Minus=0):=by rw[Bd2];simp
 have fin:(Hr p↔vS p.Is)->∃e,((P2 N p.Is).bind fun y1=>if (!y1) then some (14:Int)else some 0)=some e/\(e=0↔Hr p):=by
  intro c;rw[V];refine B0 rfl ?_;rw[c,m];cases vB a b
  .exact ifT rfl ⟨14,rfl,by simp⟩
  exact Dg ⟨0,rfl,by simp⟩
 have bad:∀{x:Int},x≠0->¬Hr p->∃e,some x=some e/\(e=0↔Hr p):=fun hx h=>⟨_,rfl,fun d=>Lq d hx,fun d=>Lq d h⟩;unfold AC;by_cases hk:p.Kind=0 \/ p.Kind=2 \/ p.Kind=6
 .refine ifT (by rcases hk with h|h|h<;>simp[h]) (ltX ?_);rw[e0];by_cases g1:p.Is.Plus=0/\p.Is.Minus=0
  case neg=>exact ifT (by simp[g1]) (ifT rfl (bad (by decide) fun h=>g1 (h.2.1 (by omega)).1))
  refine ifF (by simp[g1]) ?_;by_cases g2:p.Not=true
  .exact ifT g2 (ifT rfl (bad (by decide) fun h=>by have:=(h.2.1 (by omega)).2;rw[g2]at this;cases this))
  refine ifF g2 ?_;by_cases g3:p.Min=0
  case neg=>exact ifT (by simp[g3]) (ifT rfl (bad (by decide) fun h=>g3 (h.2.2.2.1 (by omega)).1))
  refine ifF (by simp[g3]) ?_;by_cases g4:p.Max=0
  case neg=>exact ifT (by simp[g4]) (ifT rfl (bad (by decide) fun h=>g4 (h.2.2.2.1 (by omega)).2))
  refine ifF (by simp[g4]) ?_;by_cases g5:p.L.n=0
  case neg=>exact Ao (bad (by decide) fun h=>g5 (h.2.2.1 (by omega) (by omega) (by omega)))
  refine Df (fin ?_);exact⟨fun h=>h.2.2.2.2.2,fun h=>⟨by omega,fun _=>⟨g1,by simpa using g2⟩,fun _ _ _=>g5,fun _=>⟨g3,g4⟩,fun f=>by omega,h⟩⟩
 refine ifF (by simp only[not_or]at hk;simp[hk]) ?_;by_cases k1:p.Kind=1
 .refine ifT (by simp[k1]) (ltX ?_);refine Dg ?_;by_cases g3:p.Min=0
  case neg=>exact ifT (by simp[g3]) (ifT rfl (bad (by decide) fun h=>g3 (h.2.2.2.1 (by omega)).1))
  refine ifF (by simp[g3]) ?_;by_cases g4:p.Max=0
  case neg=>exact ifT (by simp[g4]) (ifT rfl (bad (by decide) fun h=>g4 (h.2.2.2.1 (by omega)).2))
  refine ifF (by simp[g4]) ?_;by_cases g5:p.L.n=0
  case neg=>exact Ao (bad (by decide) fun h=>g5 (h.2.2.1 (by omega) (by omega) (by omega)))
  refine Df (fin ?_);exact⟨fun h=>h.2.2.2.2.2,fun h=>⟨by omega,fun h1=>Lq k1 h1,fun _ _ _=>g5,fun _=>⟨g3,g4⟩,fun f=>by omega,h⟩⟩
 refine ifF (by simp[k1]) (ltX ?_);rw[e0];have tail:∀(x y:Int),(Hr p↔(p.Is.Plus=0/\p.Is.Minus=0)/\p.Not=false/\x=0/\y=0/\vS p.Is)->∃e,(if (((((decide (p.Is.Plus=0/\p.Is.Minus=0) != true)||p.Not)||(x != 0))||(y != 0))||(decide (0<0))) then some (2:Int)else
  (P2 N p.Is).bind fun y3=>if (!y3) then some 14 else some 0)=some e/\(e=0↔Hr p):=by
  intro x y c;by_cases g:(p.Is.Plus=0/\p.Is.Minus=0)/\p.Not=false/\x=0/\y=0
  .obtain⟨g1,g2,g3,g4⟩:=g;exact ifF (by simp[g1,g2,g3,g4]) (fin (c.trans ⟨fun h=>h.2.2.2.2,fun h=>⟨g1,g2,g3,g4,h⟩⟩))
  refine ifT ?_ (bad (by decide) fun h=>g ⟨(c.1 h).1,(c.1 h).2.1,(c.1 h).2.2.1,(c.1 h).2.2.2.1⟩);simp only[Bc2,bne_iff_ne,ne_eq,Lt];by_cases g1:p.Is.Plus=0/\p.Is.Minus=0
  .by_cases g2:p.Not=true
   .simp[g2]
   by_cases g3:x=0
   .have:¬y=0:=fun g4=>g ⟨g1,by simpa using g2,g3,g4⟩
    simp[this]
   simp[g3]
  simp[g1]
 by_cases k34:p.Kind=3 \/ p.Kind=4
 .refine ifT (by rcases k34 with h|h<;>simp[h]) (tail _ _ ?_);constructor
  .exact fun h=>⟨(h.2.1 k1).1,(h.2.1 k1).2,(h.2.2.2.1 (by omega)).1,(h.2.2.2.1 (by omega)).2,h.2.2.2.2.2⟩
  rintro⟨h1,d,j,l,f⟩;exact⟨by omega,fun _=>⟨h1,d⟩,fun h h'=>by omega,fun _=>⟨j,l⟩,fun h=>by omega,f⟩
 refine ifF (by simp only[not_or]at k34;simp[k34]) ?_;by_cases k5:p.Kind=5
 .refine ifT (by simp[k5]) ?_;by_cases g:p.L.n=1/\0<=p.Min/\p.Min<=32/\(p.Max = -1 \/ (p.Min<=p.Max/\p.Max<=32))
  .refine ifF (by simp only[Bc2,AZ9,bne_iff_ne,ne_eq,Lt];omega) (tail 0 0 ?_);constructor
   .exact fun h=>⟨(h.2.1 k1).1,(h.2.1 k1).2,rfl,rfl,h.2.2.2.2.2⟩
   rintro⟨h1,d,j,l,f⟩;exact⟨by omega,fun _=>⟨h1,d⟩,fun _ _ h=>Lq k5 h,fun h=>Lq k5 h,fun _=>g,f⟩
  exact ifT (by simp only[Bc2,AZ9,bne_iff_ne,ne_eq,Lt];omega) (bad (by decide) fun h=>g (h.2.2.2.2.1 k5))
 exact ifF (by simp[k5]) (bad (by decide) fun h=>by have:=h.1;omega)
def Af3 {x:Sl Pat}{m:Nat}(h:x.n=m+1):x.toList.reverse=x.g m::(x.take m).toList.reverse:=by unfold Sl.toList;rw[h,Bh1,Be6,Bh3];rfl
def At7 (z:Sl Pat)(q:Pat):((z.push Pat.nil).upd z.n q).toList.reverse=q::z.toList.reverse:=by
 rw[Af3 (m:=z.n) rfl];have e1:((z.push Pat.nil).upd z.n q).g z.n=q:=by simp
 have e2:(((z.push Pat.nil).upd z.n q).take z.n).toList=z.toList:=by
  unfold Sl.toList;refine Bc4 fun i a=>?_
  have:i<z.n:=Bc3.1 a
  show (if i=z.n then q else if i<z.n then z.g i else Pat.nil)=z.g i;rw[Jo,Kc this]
 rw[e1,e2]
def VM (q:Sl Pat)(c:q.n<N)(hs:q.n<1000000):D3 N q=some ((List.range q.n).reverse.map fun (i:Nat)=>((i:Int),q.g i)):=by
 unfold D3;have h:∀(m:Nat),m<=q.n->∀F,m<F->Q5 F (fun (a:Int->Option (List (Int×Pat))) (x1:Int)=>
  if (decide (0<=x1)) then
   if ((0:Int)<=x1/\x1<(q.n:Int))then
    X1 (x1,q.g x1.toNat) (
     a (wrap .i64 (x1-1))
     )
   else none
  else
   some []) ((m:Int)-1)=some ((List.range m).reverse.map fun (i:Nat)=>((i:Int),q.g i)):=by
  intro m
  induction m with
  |zero=>
   intro _ F b
   match F,b with
   |F+1,_=>rfl
  |succ m ih=>
   intro hm F b
   match F,b with
   |F+1,b=>rw[P6];rw[show ((m+1:Nat):Int)-1=(m:Int) by omega,Kc (by simp),Ig,E4 (by omega) (by omega),ih (by omega) F (by omega),AZ2,Bh1,Bh3,Bq5,Br0,Bc8];rfl
 rw[E4 (by omega) (by omega)];exact h q.n (Ba0 _) N c
def AL0 {k:Nat}(hk:k<=40){c:Sl Pat}{l:List Pat}:chk k ((c.take (min 41 c.n)).toList++l)↔chk k (c.toList++l):=by
 by_cases h:c.n<=41
 .rw[Bn2 h]
 constructor
 .intro a
  have:=NC _ _ a
  rw[Ba7,Bc]at this
  have:(c.take (min 41 c.n)).n=41:=Bh4 (by omega)
  omega
 intro a
 have:=NC _ _ a
 rw[Ba7,Bc]at this;omega
def Rp (hN:2000<=N){p:Pat}(hp:okPS p):∃e,Y7 N p=some e/\(e=0↔chk 40 [p]):=by
 unfold Y7;refine O8 (fun i x3 x4=>x4=(i:Int)/\x3.n<=1+41*i/\(∀q∈x3.toList.reverse,okPS q)/\(chk 40 [p]↔chk (40-i) x3.toList.reverse)) 40 _ (by omega)
  ⟨rfl,by show 1<=_;omega,fun q l=>by rw[show (Sl.of [p]:Sl Pat).toList.reverse=[p] from rfl]at l;rw[Bh8.1 l];exact hp,Bj3⟩ ?_
 rintro x i x3 x4 hi ⟨rfl,h1,c,f⟩ hs;rcases hn:x3.n with _|m
 .refine Dg ⟨0,rfl,fun _=>f.2 ?_,fun _=>rfl⟩
  have:x3.toList.reverse=[]:=by unfold Sl.toList;rw[hn];rfl
  rw[this];exact Ae6 _
 rw[Af3 hn]at f c;refine ifT (decide_eq_true (by omega)) ?_;by_cases r:i=40
 .subst r;refine Ap ⟨12,rfl,fun h=>Lq h (by decide),fun h=>?_⟩
  have:(x3.g m::(x3.take m).toList.reverse)=[]:=f.1 h
  cases this
 refine Df ?_;have hw:IntKind.i64.wrap (((m+1:Nat):Int)-1)=(m:Int):=by rw[E4 (by omega) (by omega)];omega
 simp only[hw,AZ2];refine Am (Am ?_);obtain⟨e,y,a⟩:=YV (N:=N) (c (x3.g m) (by simp)).is;refine B0 y ?_;rw[show 40-i=(39-i)+1 by omega]at f;by_cases o:e=0
 case neg=>exact ifT (by simp[o]) ⟨e,rfl,fun h=>Lq h o,fun h=>Lq (a.2 (f.1 h).1) o⟩
 refine ifF (by simp[o]) ?_;have hc:(if (41:Int)<((x3.g m).L.n:Int)then (41:Int)else ((x3.g m).L.n:Int))=((min 41 (x3.g m).L.n:Nat):Int):=by split<;>omega
 simp only[hc,AZ2];refine Am (B0 rfl (B0 (VM _ (by show min 41 _<N;omega) (by show min 41 _<1000000;omega)) ?_));generalize s:(x3.g m).L.take (min 41 (x3.g m).L.n)=C;have a0:C.n<=41:=by rw[<- s];exact Nat.min_le_left _ _
 refine YU (fun L z=>∃j,j<=C.n/\L=((List.range j).reverse.map fun (i:Nat)=>((i:Int),C.g i))/\z.n=m+(C.n-j)/\z.toList.reverse=C.toList.drop j++(x3.take m).toList.reverse) ?_ ?_ _ _ ⟨C.n,Ba0 _,rfl,by show m=_;omega,by rw[Dv];rfl⟩
 .rintro z ⟨j,hj,Y,hz,b⟩;have u:j=0:=by
   cases j with
   |zero=>rfl
   |succ j=>simp[Bh1]at Y
  subst u;rw[Bo8]at b;refine hs (by omega) _ _ ⟨Gx,by omega,fun q l=>?_,?_⟩
  .rw[b]at l;rcases List.mem_append.1 l with h|h
   .obtain⟨i',d,rfl⟩:=Bd5.1 h;have d:=Bc3.1 d;rw[<- s]at d⊢;exact (c (x3.g m) (by simp)).L (Bc0 d (Nat.min_le_right _ _))
   exact c q (by simp[h])
  rw[b,f,show 40-(i+1)=39-i by omega,<- s,AL0 (by omega)];exact⟨fun h=>h.2,fun h=>⟨a.1 o,h⟩⟩
 rintro t L z v ⟨j,hj,Y,hz,b⟩ w;cases j with
 |zero=>simp at Y
 |succ j=>rw[Bh1,Bh3,Bq5,Br0,Bc8]at Y;obtain⟨rfl,rfl⟩:=Bt1 Y;have e1:(z.n:Int).toNat=z.n:=AZ2 _;refine ifT ⟨⟨⟨by show (z.n+1)*64<=_;omega,by show z.n+1<=_;omega⟩,by show (0:Int)<=_/\(z.n:Int)<((z.n+1:Nat):Int);omega⟩,by show z.n<z.n+1;omega⟩ ?_;refine w _ ⟨j,by omega,rfl,by show z.n+1=_;omega,?_⟩;rw[At7,b,FC C (i:=j) (by omega),Be1]
end Go.AM
namespace Go.AM
open IntKind (wrap)
open Go.Proofs
def wOk (w:Sl Oh):Prop:=w.n<=32/\∀i,i<w.n->vS (w.g i)
def Lj {N:Nat}{w:Sl Oh}(m:w.n<N)(hs:w.n<1000000){f:Oh->Option Bool}{b:Nat->Bool}(o:∀i,i<w.n->f (w.g i)=some (b i)) :∃r,B4 N w f=some r/\(r=true ↔ ∃i,i<w.n/\b i=true):=by
 unfold B4 E6
 have:∃y,Q5 N (fun (a:Int->Option Int) (x1:Int)=>
  if (decide (x1<(w.n:Int))) then
   if ((0:Int)<=x1/\x1<(w.n:Int))then
    (f (w.g x1.toNat)).bind fun y3=>
    if y3 then
     some x1
    else
     a (wrap .i64 (x1+1))
   else none
  else
   some (-1)) 0=some y/\(0<=y ↔ ∃i,i<w.n/\b i=true):=by
  refine Av (fun i x1=>x1=(i:Int)/\∀j,j<i->b j=false) w.n _ m ⟨rfl,fun j c=>Lq c (by omega)⟩ ?_;rintro l i x1 q ⟨rfl,h⟩ d;by_cases hl:i<w.n
  .refine Ao (Am (B0 (by rw[AZ2];exact o i hl) ?_));cases hb:b i
   .refine Dg (d hl _ ⟨Gx,fun j c=>?_⟩);by_cases e:j=i
    .subst e;exact hb
    exact h j (by omega)
   exact ifT rfl ⟨i,rfl,fun _=>⟨i,hl,hb⟩,fun _=>by omega⟩
  refine Df ⟨-1,rfl,fun h=>Lq h (by decide),?_⟩;rintro⟨j,c,hb⟩;rw[h j (by omega)]at hb;cases hb
 obtain⟨y,e,hy⟩:=this;exact B0 e ⟨_,rfl,by rw[Lt];exact hy⟩
def PI {N:Nat}(z:3000<=N){p:Pat}(hp:okPS p){w:Sl Oh}(hs:w.n<1000000/\w.n+1000<N)(hw:∀i,i<w.n->okS (w.g i)) :∃r,Ae N p w=some r/\(r.2=0↔chk 40 [p]/\wOk w)/\(r.2=0->TabA w.n (PR w p) r.1):=by
 unfold Ae;obtain⟨e,l,hc⟩:=Rp (N:=N) (by omega) hp;refine B0 l ?_;by_cases d:e=0
 case neg=>exact ifT (by simp[d]) ⟨_,rfl,⟨fun h=>Lq h d,fun h=>Lq (hc.2 h.1) d⟩,fun h=>Lq h d⟩
 refine ifF (by simp[d]) ?_;by_cases hn:32<w.n
 .exact Ao ⟨_,rfl,⟨fun h=>Lq h (by decide),fun h=>by have:=h.2.1;omega⟩,fun h=>Lq h (by decide)⟩
 refine Df ?_;have s:∀i,∃b:Bool,i<w.n->T0 N (w.g i)=some b/\(b=true ↔ ¬vS (w.g i)):=by
  intro i;by_cases a:i<w.n
  .obtain⟨x,y,l⟩:=hw i a;refine⟨!vB x y,fun _=>⟨?_,?_⟩⟩
   .unfold T0;rw[l,TC];rfl
   rw[VK l];cases vB x y<;>simp
  exact⟨false,fun h=>Lq h a⟩
 obtain⟨b,hb⟩:=Bi2 s;obtain⟨r,t,j⟩:=Lj (N:=N) (by omega) hs.1 (f:=fun u1=>T0 N u1) fun i a=>(hb i a).1;refine B0 t ?_;by_cases c:r=true
 .refine ifT c ⟨_,rfl,⟨fun h=>Lq h (by decide),fun h=>?_⟩,fun h=>Lq h (by decide)⟩;obtain⟨i,a,m⟩:=j.1 c;exact Lq (h.2.2 i a) ((hb i a).2.1 m)
 refine ifF c ?_;have o:wOk w:=⟨by omega,fun i a=>Ba9 fun q=>c (j.2 ⟨i,a,(hb i a).2.2 q⟩)⟩;obtain⟨pt,ep,u⟩:=NF (N:=1000) (by omega) 40 (Ba0 _) p (Af2 40 [p] (Ba0 _) (hc.1 d) p (by simp)) N (by omega);refine B0 ep ?_;obtain⟨f,ef,v⟩:=u w (by omega) hw N (by omega);exact B0 ef ⟨_,rfl,⟨fun _=>⟨hc.1 d,o⟩,fun _=>rfl⟩,fun _=>v⟩
end Go.AM
namespace Go.AM
variable {N:Nat}
open Go.Proofs
def YW (o:3000<=N){p:Pat}(hp:okPS p){w:Sl Oh}(hs:w.n<1000000/\w.n+1000<N)(hw:∀i,i<w.n->okS (w.g i))(at_:Int) :∃r,Bt N p w at_=some r/\(0<r.1.n↔chk 40 [p]/\wOk w/\0<=at_/\at_<=w.n/\∃a,a<=w.n/\PR w p a at_.toNat):=by
 unfold Bt;obtain⟨y,e,h1,q⟩:=PI o hp hs hw;refine B0 e (ltX ?_);by_cases c:y.2=0
 case neg=>refine ifF (by simp[c]) (ifT (by simp[c]) ⟨_,rfl,fun h=>Lq h (by show ¬ 0<0;omega),fun h=>Lq (h1.2 ⟨h.1,h.2.1⟩) c⟩)
 refine ifT (by simp[c]) ?_;obtain⟨hc,d⟩:=h1.1 c;have s:=q c;have hn:=d.1;unfold Ab;by_cases f:at_<0 \/ (w.n:Int)<at_
 .rw[Kc (by simpa using f)];refine B0 rfl (Az ⟨_,rfl,fun h=>Lq h (by show ¬ 0<0;omega),fun h=>by omega⟩)
 rw[Ke (by simpa using f)];refine B0 rfl (Dg ?_);obtain⟨k,rfl⟩:∃k:Nat,at_=(k:Int):=⟨at_.toNat,by omega⟩;rw[Gx,AZ2];refine O8 (fun i x2 x3=>x3=(i:Int)/\x2.n<=i/\(0<x2.n ↔ ∃a,a<i/\PR w p a k)) (w.n+1) _ (by omega) ⟨rfl,Ba0 _,fun h=>Lq h (by show ¬ 0<0;omega),fun⟨a,h,_⟩=>Lq h (by omega)⟩ ?_;rintro m i x2 x3 t ⟨rfl,g1,g2⟩ j;by_cases hl:i<=w.n
 .refine Ao (Am ?_);rw[AZ2,Bd4,Bf1];have hb:=s.1.bit hl (b:=k) (by omega);by_cases l:PR w p i k
  .refine ifT (hb.2 ⟨by omega,l⟩) (ifT (by show (x2.n+1)*8<=_/\x2.n+1<=_;omega) (j (by omega) _ _ ⟨Gx,by show x2.n+1<=_;omega,fun _=>⟨i,by omega,l⟩,fun _=>by show 0<x2.n+1;omega⟩))
  refine ifF (fun h=>l (hb.1 h).2) (j (by omega) _ _ ⟨Gx,by omega,fun h=>?_,fun⟨a,ha,h⟩=>?_⟩)
  .obtain⟨a,ha,h'⟩:=g2.1 h;exact⟨a,by omega,h'⟩
  by_cases e2:a=i
  .subst e2;exact Lq h l
  exact g2.2 ⟨a,by omega,h⟩
 refine Df ⟨_,rfl,fun h=>?_,fun h=>?_⟩
 .obtain⟨a,ha,h'⟩:=g2.1 h;exact⟨hc,d,by omega,by omega,a,by omega,h'⟩
 obtain⟨a,ha,h'⟩:=h.2.2.2.2;exact g2.2 ⟨a,by omega,h'⟩
def VN (L:List Int)(Y:L.length<1000):∃s,N2 N L=some s/\s.n=L.length:=by
 unfold N2 H8
 have:∃s:Sl Int,N8 L (fun (a:Sl Int->Option (Sl Int)) (x1:Int) (z1:Sl Int)=>
  if ((z1.n+(Sl.of [x1]:Sl Int).n)*8<=140737488355328/\z1.n+(Sl.of [x1]:Sl Int).n<=140737488355328)then
   a (z1.push x1)
  else none
  ) (fun (z1:Sl Int)=>some z1) Oc=some s/\s.n=L.length:=by
  refine YU (fun l z=>z.n+l.length=L.length) (fun z h=>⟨z,rfl,by simpa using h⟩) (fun t l z b h hs=>?_) L _ (by simp);simp only[Bd3]at h;exact ifT (by show (z.n+1)*8<=_/\z.n+1<=_;omega) (hs _ (by show z.n+1+l.length=_;omega))
 obtain⟨s,e,hn⟩:=this;exact B0 e ⟨s,rfl,hn⟩
def At8 (l:3000<=N){p:Pat}(hp:okPS p){w:Sl Oh}(hs:w.n<1000000/\w.n+1000<N)(hw:∀i,i<w.n->okS (w.g i))(at_:Int) :∃r,Dp N p w at_=some r/\(0<r.1.n↔chk 40 [p]/\wOk w/\0<=at_/\at_<=w.n/\∃b,b<=w.n/\PR w p at_.toNat b):=by
 unfold Dp;obtain⟨y,e,h1,m⟩:=PI l hp hs hw;refine B0 e (ltX ?_);by_cases c:y.2=0
 case neg=>refine ifF (by simp[c]) (ifT (by simp[c]) ⟨_,rfl,fun h=>Lq h (by show ¬ 0<0;omega),fun h=>Lq (h1.2 ⟨h.1,h.2.1⟩) c⟩)
 refine ifT (by simp[c]) ?_;obtain⟨hc,d⟩:=h1.1 c;have o:=m c;have hn:=d.1;unfold Ab;by_cases f:at_<0 \/ (w.n:Int)<at_
 .rw[Kc (by simpa using f)];refine B0 rfl (Az ⟨_,rfl,fun h=>Lq h (by show ¬ 0<0;omega),fun h=>by omega⟩)
 rw[Ke (by simpa using f)];refine B0 rfl (Dg ?_);obtain⟨k,rfl⟩:∃k:Nat,at_=(k:Int):=⟨at_.toNat,by omega⟩;refine Am ?_;rw[AZ2,Bd4,Bf1];obtain⟨u,e1,g1⟩:=o.1 k (by omega);refine B0 (x:=y.1 k) rfl (B0 (x:=FD u 0) (by rw[e1];exact Ir u (by omega)) ?_);obtain⟨s,es,j⟩:=VN (N:=N) (FD u 0) (by unfold FD;rw[Bc9];exact Bt0 (Bk7 _ _) (by simp))
 refine B0 es ⟨_,rfl,?_⟩;show 0<s.n↔_;rw[j,List.length_pos_iff_exists_mem];constructor
 .rintro⟨t,ht⟩;obtain⟨b,rfl,_,hb,a⟩:=mem_bitsF.1 ht;exact⟨hc,d,by omega,by omega,b,((g1 b hb).1 a).1,((g1 b hb).1 a).2⟩
 rintro⟨_,_,_,_,b,hb,h⟩;exact⟨(b:Int),mem_bitsF.2 ⟨b,rfl,by omega,by omega,(g1 b (by omega)).2 ⟨hb,h⟩⟩⟩
end Go.AM
namespace Go.AM
variable {N:Nat}
open IntKind (wrap)
open Go.Proofs
def Xt (w:Sl Oh)(e:Int):Prop:=(32<w.n/\e=11) \/ (w.n<=32/\(∃i,i<w.n/\¬vS (w.g i))/\e=14) \/ (wOk w/\e=0)
def NG {w:Sl Oh}{e e' : Int}(h:Xt w e)(h' : Xt w e'):e=e':=by
 rcases h with⟨h1,a⟩ | ⟨h1,⟨i,b,c⟩,a⟩ | ⟨h1,a⟩<;>rcases h' with⟨g1,g2⟩ | ⟨g1,⟨j,d,gv⟩,g2⟩ | ⟨g1,g2⟩
 .omega
 .omega
 .have:=g1.1;omega
 .omega
 .omega
 .exact Lq (g1.2 i b) c
 .have:=h1.1;omega
 .exact Lq (h1.2 j d) gv
 omega
def Bz {w:Sl Oh}{e:Int}(h:Xt w e):e=0↔wOk w:=by
 rcases h with⟨h1,a⟩ | ⟨h1,⟨i,b,c⟩,a⟩ | ⟨h1,a⟩
 .exact⟨fun h=>by omega,fun h=>by have:=h.1;omega⟩
 .exact⟨fun h=>by omega,fun h=>Lq (h.2 i b) c⟩
 exact⟨fun _=>h1,fun _=>a⟩
def TF (o:1000<=N){w:Sl Oh}(hw:∀i,i<w.n->okS (w.g i))(V:Oh->Option Bool)(f:∀p m:BitVec 32,V (sOf p m)=some (vB p m)) :∃e,(if (decide (32<(w.n:Int))) then
 some (11:Int)
 else
  Q5 N (fun a (x1:Int)=>
   if (decide (x1<(w.n:Int))) then
    if ((0:Int)<=x1/\x1<(w.n:Int))then
     (V (w.g x1.toNat)).bind fun y3=>
     if (!y3) then
      some 14
     else
      a (wrap .i64 (x1+1))
    else none
   else
    some 0
   ) 0)=some e/\Xt w e:=by
 by_cases hn:32<w.n
 .exact Ao ⟨11,rfl,.inl ⟨hn,rfl⟩⟩
 refine Df ?_;refine Av (fun i x1=>x1=(i:Int)/\∀j,j<i->vS (w.g j)) w.n _ (by omega) ⟨rfl,fun j b=>Lq b (by omega)⟩ ?_;rintro d i x1 q ⟨rfl,h⟩ hs;by_cases hl:i<w.n
 .obtain⟨p,m,c⟩:=hw i hl;refine Ao (Am (B0 (by rw[AZ2,c];exact f p m) ?_));cases hb:vB p m
  .refine ifT rfl ⟨14,rfl,.inr (.inl ⟨by omega,⟨i,hl,fun l=>?_⟩,rfl⟩)⟩
   have:=(VK c).1 l;rw[hb]at this;cases this
  refine Dg (hs hl _ ⟨Gx,fun j b=>?_⟩);by_cases e:j=i
  .subst e;exact (VK c).2 hb
  exact h j (by omega)
 exact Df ⟨0,rfl,.inr (.inr ⟨⟨by omega,fun j b=>h j (by omega)⟩,rfl⟩)⟩
def GI (a:1000<=N){w:Sl Oh}(hw:∀i,i<w.n->okS (w.g i)):∃e,J6 N w=some e/\Xt w e:=
 TF a hw (AZ N) fun p m=>TB p m
def Hi (a:1000<=N){w:Sl Oh}(hw:∀i,i<w.n->okS (w.g i)):∃e,BL N w=some e/\Xt w e:=
 TF a hw (Y4 N) fun p m=>PF p m
def Xu (d:2000<=N){p:Pat}(hp:okPS p){w:Sl Oh}(hw:∀i,i<w.n->okS (w.g i)):∃e,Hd N p w=some e/\(e=0↔chk 40 [p]/\wOk w):=by
 unfold Hd;obtain⟨e,f,hc⟩:=NE d hp;refine B0 f ?_;by_cases a:e=0
 .obtain⟨e2,b,c⟩:=Hi (N:=N) (by omega) hw;exact ifT (by simp[a]) (B0 b ⟨e2,rfl,(Bz c).trans ⟨fun h=>⟨hc.1 a,h⟩,fun h=>h.2⟩⟩)
 exact ifF (by simp[a]) ⟨e,rfl,fun h=>Lq h a,fun h=>Lq (hc.2 h.1) a⟩
def VO (s:3000<=N){p:Pat}(hp:okPS p){w:Sl Oh}(hw:∀i,i<w.n->okS (w.g i))(at_:Int) :∃r,GA N p w at_=some r/\(0<r.1.n↔chk 40 [p]/\wOk w/\0<=at_/\at_<=w.n/\∃a,a<=w.n/\PR w p a at_.toNat):=by
 unfold GA;obtain⟨e,o,h1⟩:=Xu (N:=N) (by omega) hp hw;refine B0 o ?_;by_cases j:e=0
 case neg=>exact ifT (by simp[j]) ⟨_,rfl,fun h=>Lq h (by show ¬ 0<0;omega),fun h=>Lq (h1.2 ⟨h.1,h.2.1⟩) j⟩
 refine ifF (by simp[j]) ?_;obtain⟨hc,c⟩:=h1.1 j;have hn:=c.1;by_cases d:at_<0 \/ (w.n:Int)<at_
 .exact ifT (by simpa using d) ⟨_,rfl,fun h=>Lq h (by show ¬ 0<0;omega),fun h=>by omega⟩
 refine ifF (by simpa using d) ?_;obtain⟨k,rfl⟩:∃k:Nat,at_=(k:Int):=⟨at_.toNat,by omega⟩;obtain⟨t,et,tn,q⟩:=NB (N:=1000) (by omega) hn 40 p (ND 40 [p] (Ba0 _) hc p (by simp)) N (by omega);refine B0 et ?_;rw[AZ2];refine O8 (fun i x2 x3=>x3=(i:Int)/\x2.n<=i/\(0<x2.n ↔ ∃a,a<i/\PR w p a k)) (w.n+1) _ (by omega) ⟨rfl,Ba0 _,fun h=>Lq h (by show ¬ 0<0;omega),fun⟨a,h,_⟩=>Lq h (by omega)⟩ ?_;rintro m i x2 x3 u ⟨rfl,g1,g2⟩ f;by_cases hl:i<=w.n
 .refine Ao (Am ?_);rw[AZ2];have hb:=q.bit hl (b:=k) (by omega);by_cases l:PR w p i k
  .refine ifT (hb.2 ⟨by omega,l⟩) (ifT (by show (x2.n+1)*8<=_/\x2.n+1<=_;omega) (f (by omega) _ _ ⟨Gx,by show x2.n+1<=_;omega,fun _=>⟨i,by omega,l⟩,fun _=>by show 0<x2.n+1;omega⟩))
  refine ifF (fun h=>l (hb.1 h).2) (f (by omega) _ _ ⟨Gx,by omega,fun h=>?_,fun⟨a,ha,h⟩=>?_⟩)
  .obtain⟨a,ha,h'⟩:=g2.1 h;exact⟨a,by omega,h'⟩
  by_cases e2:a=i
  .subst e2;exact Lq h l
  exact g2.2 ⟨a,by omega,h⟩
 refine Df ⟨_,rfl,fun h=>?_,fun h=>?_⟩
 .obtain⟨a,ha,h'⟩:=g2.1 h;exact⟨hc,c,by omega,by omega,a,by omega,h'⟩
 obtain⟨a,ha,h'⟩:=h.2.2.2.2;exact g2.2 ⟨a,by omega,h'⟩
def Af4 (s:3000<=N){p:Pat}(hp:okPS p){w:Sl Oh}(hw:∀i,i<w.n->okS (w.g i))(at_:Int) :∃r,Kj N p w at_=some r/\(0<r.1.n↔chk 40 [p]/\wOk w/\0<=at_/\at_<=w.n/\∃b,b<=w.n/\PR w p at_.toNat b):=by
 unfold Kj;obtain⟨e,o,h1⟩:=Xu (N:=N) (by omega) hp hw;refine B0 o ?_;by_cases j:e=0
 case neg=>exact ifT (by simp[j]) ⟨_,rfl,fun h=>Lq h (by show ¬ 0<0;omega),fun h=>Lq (h1.2 ⟨h.1,h.2.1⟩) j⟩
 refine ifF (by simp[j]) ?_;obtain⟨hc,c⟩:=h1.1 j;have hn:=c.1;by_cases d:at_<0 \/ (w.n:Int)<at_
 .exact ifT (by simpa using d) ⟨_,rfl,fun h=>Lq h (by show ¬ 0<0;omega),fun h=>by omega⟩
 refine ifF (by simpa using d) ?_;obtain⟨k,rfl⟩:∃k:Nat,at_=(k:Int):=⟨at_.toNat,by omega⟩;obtain⟨t,et,tn,q⟩:=NB (N:=1000) (by omega) hn 40 p (ND 40 [p] (Ba0 _) hc p (by simp)) N (by omega);refine B0 et ?_;rw[AZ2];refine O8 (fun i x2 x3=>x3=(i:Int)/\x2.n<=i/\(0<x2.n ↔ ∃b,b<i/\PR w p k b)) (w.n+1) _ (by omega) ⟨rfl,Ba0 _,fun h=>Lq h (by show ¬ 0<0;omega),fun⟨a,h,_⟩=>Lq h (by omega)⟩ ?_;rintro m i x2 x3 u ⟨rfl,g1,g2⟩ f;by_cases hl:i<=w.n
 .refine Ao (Am ?_);have hb:=q.bit (a:=k) (by omega) (b:=i) (by omega);by_cases l:PR w p k i
  .refine ifT (hb.2 ⟨by omega,l⟩) (ifT (by show (x2.n+1)*8<=_/\x2.n+1<=_;omega) (f (by omega) _ _ ⟨Gx,by show x2.n+1<=_;omega,fun _=>⟨i,by omega,l⟩,fun _=>by show 0<x2.n+1;omega⟩))
  refine ifF (fun h=>l (hb.1 h).2) (f (by omega) _ _ ⟨Gx,by omega,fun h=>?_,fun⟨a,ha,h⟩=>?_⟩)
  .obtain⟨a,ha,h'⟩:=g2.1 h;exact⟨a,by omega,h'⟩
  by_cases e2:a=i
  .subst e2;exact Lq h l
  exact g2.2 ⟨a,by omega,h⟩
 refine Df ⟨_,rfl,fun h=>?_,fun h=>?_⟩
 .obtain⟨a,ha,h'⟩:=g2.1 h;exact⟨hc,c,by omega,by omega,a,by omega,h'⟩
 obtain⟨a,ha,h'⟩:=h.2.2.2.2;exact g2.2 ⟨a,by omega,h'⟩
end Go.AM
namespace Go.AM
variable {N:Nat}
open Go.Proofs
def AO8 (s c:Oh):Prop:=∃p m a b:BitVec 32,s=sOf p m/\c=sOf a b/\Zt p m a b=true
def Af5 {p m a b:BitVec 32}(h:sOf p m=sOf a b):p=a/\m=b:=by have e1:(p.toNat:Int)=a.toNat:=congrArg Oh.Plus h;have e2:(m.toNat:Int)=b.toNat:=congrArg Oh.Minus h;exact⟨Bd0 (by omega),Bd0 (by omega)⟩
def satS_of {p m a b:BitVec 32}:AO8 (sOf p m) (sOf a b)↔Zt p m a b=true:=by
 constructor
 .rintro⟨p',m',a',b',h1,c,d⟩;obtain⟨rfl,rfl⟩:=Af5 h1;obtain⟨rfl,rfl⟩:=Af5 c;exact d
 exact fun h=>⟨_,_,_,_,rfl,rfl,h⟩
def At9 {s c:Oh}(hs:okS s)(hc:okS c):∃b,K5 N s c=some b/\(b=true↔AO8 s c):=by obtain⟨p,m,rfl⟩:=hs;obtain⟨a,b,rfl⟩:=hc;exact⟨_,AK2 p m a b,satS_of.symm⟩
def Au0 (d:1000<=N){s c:Oh}(hs:okS s)(hc:okS c):∃b,Y2 N s c=some b/\(b=true↔AO8 s c):=by obtain⟨p,m,rfl⟩:=hs;obtain⟨a,b,rfl⟩:=hc;exact⟨_,AK3 p m a b d,satS_of.symm⟩
def okL (l:Law):Prop:=okPS l.Left/\okPS l.Right/\∀i,i<l.If.n->okS (l.If.g i)
def arP (l:Law)(w:Sl Oh)(i:Nat):Prop:=chk 40 [l.Left]/\chk 40 [l.Right]/\wOk w/\i+l.If.n<=w.n/\(∃a,a<=w.n/\PR w l.Left a i)/\∃b,b<=w.n/\PR w l.Right (i+l.If.n) b
def PJ (l:Law)(w:Sl Oh)(i:Nat):Prop:=i+l.If.n<=w.n/\(∀j,j<l.If.n->AO8 (w.g (i+j)) (l.If.g j))/\arP l w i
def okW (w:Sl Oh):Prop:=w.n<1000/\∀i,i<w.n->okS (w.g i)
def YX (c:3000<=N){l:Law}(hl:okL l)(hk:l.If.n<=4){w:Sl Oh}(hw:okW w)(i:Nat)(f:i<2000) :∃b,W1 N (i:Int) l w=some b/\(b=true↔arP l w i):=by
 unfold W1;obtain⟨y1,e1,h1⟩:=YW (N:=N) c hl.1 (w:=w) ⟨by have:=hw.1;omega,by have:=hw.1;omega⟩ hw.2 (i:Int);refine B0 e1 ?_;rw[AZ2]at h1;by_cases d:y1.1.n=0
 .refine ifT (by simp[d]) ⟨false,rfl,by simp,fun h=>?_⟩
  have:=h1.2 ⟨h.1,h.2.2.1,by omega,by have:=h.2.2.2.1;omega,h.2.2.2.2.1⟩
  omega
 refine Df ?_;rw[Dy (by omega)];obtain⟨y2,e2,a⟩:=At8 (N:=N) c hl.2.1 (w:=w) ⟨by have:=hw.1;omega,by have:=hw.1;omega⟩ hw.2 ((i+l.If.n:Nat):Int);rw[AZ2]at a;refine B0 e2 ⟨_,rfl,?_⟩;have h1:=h1.1 (by omega);rw[Lt];constructor
 .intro h;have a:=a.1 (by omega);exact⟨h1.1,a.1,h1.2.1,by omega,h1.2.2.2.2,a.2.2.2.2⟩
 intro h
 have:=a.2 ⟨h.2.1,h.2.2.1,by omega,by have:=h.2.2.2.1;omega,h.2.2.2.2.2⟩
 omega
def Rq (f:3000<=N){l:Law}(hl:okL l)(hk:l.If.n<=4){w:Sl Oh}(hw:okW w)(i:Nat)(o:i<2000) :∃b,Ci N l w (i:Int)=some b/\(b=true↔PJ l w i):=by
 unfold Ci;rw[Dy (by omega)];by_cases hn:w.n<i+l.If.n
 .exact Ao ⟨false,rfl,by simp,fun h=>by have:=h.1;omega⟩
 refine Df ?_;refine Av (fun j x1=>x1=(j:Int)/\∀k,k<j->AO8 (w.g (i+k)) (l.If.g k)) l.If.n _ (by omega) ⟨rfl,fun k hk=>Lq hk (by omega)⟩ ?_;rintro m j x1 q ⟨rfl,h⟩ hs;by_cases c:j<l.If.n
 .rw[Dy (by omega)];refine Ao (Am ?_);obtain⟨b,eb,hb⟩:=Au0 (N:=N) (by omega) (hw.2 (i+j) (by omega)) (hl.2.2 j c);refine B0 (by rw[AZ2,AZ2];exact eb) ?_;cases b
  .refine ifT rfl ⟨false,rfl,by simp,fun a=>?_⟩
   have:=hb.2 (a.2.1 j c);cases this
  refine Dg (hs c _ ⟨Gx,fun k d=>?_⟩);by_cases e:k=j
  .subst e;exact hb.1 rfl
  exact h k (by omega)
 refine Df ?_;obtain⟨y1,e1,h1⟩:=VO (N:=N) f hl.1 (w:=w) hw.2 (i:Int);obtain⟨y2,e2,a⟩:=Af4 (N:=N) f hl.2.1 (w:=w) hw.2 ((i+l.If.n:Nat):Int);rw[AZ2]at h1 a;refine B0 e1 (B0 e2 ⟨_,rfl,?_⟩);simp only[AZ9,Lt];constructor
 .rintro⟨g1,g2⟩;have h1:=h1.1 (by omega);have a:=a.1 (by omega);exact⟨by omega,fun k d=>h k (by omega),h1.1,a.1,h1.2.1,by omega,h1.2.2.2.2,a.2.2.2.2⟩
 intro g;have a1:=h1.2 ⟨g.2.2.1,g.2.2.2.2.1,by omega,by omega,g.2.2.2.2.2.2.1⟩;have a2:=a.2 ⟨g.2.2.2.1,g.2.2.2.2.1,by omega,by omega,g.2.2.2.2.2.2.2⟩;exact⟨by omega,by omega⟩
end Go.AM
namespace Go.AM
open IntKind (wrap)
open Go.Proofs
open Classical in
noncomputable def hitB (l:Law) (w:Sl Oh) (i:Nat):Bool:=decide (PJ l w i)
def hitB_iff {l:Law}{w:Sl Oh}{i:Nat}:hitB l w i=true↔PJ l w i:=by simp[hitB]
noncomputable def Ef (l:Law) (w:Sl Oh) (i:Nat):List Int:=((List.range' i (w.n+1-i)).filter (hitB l w)).map fun (j:Nat)=>(j:Int)
def Ku {l:Law}{w:Sl Oh}{i:Nat}(h:w.n<i+l.If.n):Ef l w i=[]:=by
 unfold Ef;rw[Bq4.2 fun j a hb=>by
  have:=Bp3.1 a
  have:=(hitB_iff.1 hb).1
  omega]
 rfl
def JB {l:Law}{w:Sl Oh}{i:Nat}(a:i<=w.n)(h:PJ l w i):Ef l w i=(i:Int)::Ef l w (i+1):=by unfold Ef;rw[show w.n+1-i=(w.n+1-(i+1))+1 by omega,Bi6,Bm1 (hitB_iff.2 h)];rfl
def JC {l:Law}{w:Sl Oh}{i:Nat}(h:¬PJ l w i):Ef l w i=Ef l w (i+1):=by
 unfold Ef;by_cases a:i<=w.n
 .rw[show w.n+1-i=(w.n+1-(i+1))+1 by omega,Bi6,Bm2 fun hb=>h (hitB_iff.1 hb)]
 rw[show w.n+1-i=0 by omega,show w.n+1-(i+1)=0 by omega];rfl
def Au1 {l:Law}{w:Sl Oh}{i:Nat}{y:Int}(h:y∈Ef l w i):(i:Int)<=y:=by
 obtain⟨j,a,rfl⟩:=Bd5.1 h
 have:=Bp3.1 (Bj4.1 a).1
 omega
def Xv {N:Nat}(z:3000<=N){l:Law}(hl:okL l)(hk:l.If.n<=4){w:Sl Oh}(hw:okW w)(i:Nat)(v:i<1500):Y9 N l w (i:Int)=some (Ef l w i):=by
 unfold Y9;show (some (l,w)).bind _=_;rw[AZ6];simp only[]
 suffices h:∀(k i:Nat),i<1501->w.n+1-i<=k->∀F,k<F->∃r,Q5 F (fun (a:Int->Option (List Int)) (x2:Int)=>
  if (decide ((wrap .i64 (x2+(l.If.n:Int)))<=(w.n:Int))) then
   Q5 N (fun (d:Int->Option (List Int)) (x4:Int)=>
    if (decide (x4<(l.If.n:Int))) then
     if ((0:Int)<=x4/\x4<(l.If.n:Int))then
      if ((0:Int)<=(wrap .i64 (x2+x4))/\(wrap .i64 (x2+x4))<(w.n:Int))then
       (K5 N (w.g (wrap .i64 (x2+x4)).toNat) (l.If.g x4.toNat)).bind fun s=>
       if (!s) then
        a (wrap .i64 (x2+1))
       else
        d (wrap .i64 (x4+1))
      else none
     else none
    else
     (W1 N x2 l w).bind fun t=>
     if t then
      X1 x2 (
       a (wrap .i64 (x2+1))
       )
     else
      a (wrap .i64 (x2+1))
    ) 0
  else
   some []
  ) (i:Int)=some r/\r=Ef l w i by
  obtain⟨r,h1,rfl⟩:=h (w.n+1-i) i (by omega) (Ba0 _) N (by have:=hw.1;omega);exact h1
 intro k
 induction k with
 |zero=>
  intro i v f F q
  match F,q with
  |F+1,_=>rw[P6,Dy (by omega)];exact Df ⟨_,rfl,(Ku (by omega)).symm⟩
 |succ k ih=>
  intro i v f F q
  match F,q with
  |F+1,q=>
   rw[P6,Dy (by omega)];by_cases hn:i+l.If.n<=w.n
   case neg=>exact Df ⟨_,rfl,(Ku (by omega)).symm⟩
   refine Ao ?_;have a0:=hw.1;obtain⟨r,x,o⟩:=ih (i+1) (by omega) (by omega) F (by omega);have c:∀(Q:List Int->Prop),Q (Ef l w (i+1))->∃r,Q5 F _ (IntKind.i64.wrap ((i:Int)+1))=some r/\Q r:=fun Q hQ=>⟨r,by rw[Gx];exact x,by rw[o];exact hQ⟩;refine Av (fun j x1=>x1=(j:Int)/\∀k,k<j->AO8 (w.g (i+k)) (l.If.g k)) l.If.n _ (by omega) ⟨rfl,fun k hk=>Lq hk (by omega)⟩ ?_;rintro y j x1 hj ⟨rfl,h⟩ hs;by_cases m:j<l.If.n
   .rw[Dy (by omega)];refine Ao (Am (Am ?_));obtain⟨b,eb,hb⟩:=At9 (N:=N) (hw.2 (i+j) (by omega)) (hl.2.2 j m);refine B0 (by rw[AZ2,AZ2];exact eb) ?_;cases b
    .refine ifT rfl (c _ ?_);exact (JC fun u=>by have:=hb.2 (u.2.1 j m);cases this).symm
    refine Dg (hs m _ ⟨Gx,fun k f=>?_⟩);by_cases e:k=j
    .subst e;exact hb.1 rfl
    exact h k (by omega)
   refine Df ?_;obtain⟨b,eb,hb⟩:=YX z hl hk hw i (by omega);refine B0 eb ?_;cases b
   .refine Dg (c _ ?_);exact (JC fun u=>by have:=hb.2 u.2.2;cases this).symm
   refine ifT rfl ?_;have hh:PJ l w i:=⟨hn,fun k f=>h k (by omega),hb.1 rfl⟩;refine⟨(i:Int)::Ef l w (i+1),?_,(JB (by omega) hh).symm⟩;rw[Gx,x,o];rfl
def Af6 {N:Nat}(a:3000<=N){l:Law}(hl:okL l)(hk:l.If.n<=4){w:Sl Oh}(hw:okW w)(i:Nat)(c:i<1500) :∃b,Cl N l w (i:Int)=some b/\(b=true↔PJ l w i):=by
 unfold Cl;refine B0 (x:=(l,w,(i:Int))) rfl (B0 (Xv a hl hk hw i c) ?_);by_cases h:PJ l w i
 .rw[JB (by have:=h.1;omega) h];exact⟨true,by simp[N8],by simp[h]⟩
 rw[JC h];rcases Y:Ef l w (i+1)with _|⟨t,L⟩
 .exact⟨false,rfl,by simp[h]⟩
 have:((i+1:Nat):Int)<=t:=Au1 (l:=l) (w:=w) (by rw[Y];simp)
 exact⟨false,by show some (t==(i:Int))=some false;congr 1;simp;omega,by simp[h]⟩
end Go.AM
namespace Go.AM
variable {N:Nat}
open IntKind (wrap)
open Go.Proofs
def okO (x:EV):Prop:=okS x.Set/\(∃c:BitVec 32,x.Clear=(c.toNat:Int))/\∃t:BitVec 32,x.Take=(t.toNat:Int)
def AA6 {p m a b s:BitVec 32}(h1:vB p m=true)(d:vB a b=true):vB (RK p a s) (RK m b s)=true:=by rw[Ga]at *;intro i c;have g1:=h1 i c;have g2:=d i c;simp only[RK,Bb2,Bb3,Be9];revert g1 g2;cases s.getLsbD i<;>cases p.getLsbD i<;>cases m.getLsbD i<;>cases a.getLsbD i<;>cases b.getLsbD i<;>simp[c]
def vS0:vS (⟨0,0⟩:Oh):=⟨0#32,0#32,rfl,by decide +kernel⟩
def VP (f:1000<=N){s t:Oh}{c:Int}(hs:okS s)(hc:∃b:BitVec 32,c=(b.toNat:Int))(ht:okS t):∃y,P0 N s c t=some y/\Y3 N s c t=some y/\vS y.1:=by
 obtain⟨p,m,rfl⟩:=hs;obtain⟨a,b,rfl⟩:=ht;obtain⟨d,rfl⟩:=hc;refine⟨_,YS p m d a b,YT p m d a b f,?_⟩;unfold At1;split
 .rename_i h;split
  .exact⟨_,_,rfl,AA6 h.1 h.2⟩
  exact vS0
 exact vS0
def Af7 (f:1000<=N){s t:Oh}{c:Int}(hs:okS s)(hc:∃b:BitVec 32,c=(b.toNat:Int))(ht:okS t):∃y,T4 N s t c=some y/\BK N s t c=some y/\vS y.1:=by
 obtain⟨p,m,rfl⟩:=hs;obtain⟨a,b,rfl⟩:=ht;obtain⟨d,rfl⟩:=hc;refine⟨_,At3 p m a b d,At4 p m a b d f,?_⟩;unfold At2;split
 .rename_i h;split
  .exact⟨_,_,rfl,AA6 h.1 h.2⟩
  exact vS0
 exact vS0
def AO9 (l:Law):Prop:=l.Out.n<=6/\∀i,i<l.Out.n->okO (l.Out.g i)/\(l.Out.g i).From<l.If.n/\((l.Out.g i).Take≠0->0<=(l.Out.g i).Of/\(l.Out.g i).Of<l.If.n)
def eqX {R:Type}{Q:R->Prop}{o o' : Option R}(h:o=o')(a:∃r,o' = some r/\Q r):∃r,o=some r/\Q r:=by rw[h];exact a
def BC (f:Nat->Oh):Nat->Sl Oh
 |0=>Sl.nil
 |m+1=>(BC f m).push (f m)
def Iu (f:Nat->Oh):∀m,(BC f m).n=m
 |0=>rfl
 |m+1=>by show (BC f m).n+1=_;rw[Iu f m]
def VQ (f:Nat->Oh):∀{m i:Nat},i<m->(BC f m).g i=f i
 |0,i,h=>by omega
 |m+1,i,h=>by
  show (if i<(BC f m).n then (BC f m).g i else f m)=f i;rw[Iu];by_cases e:i<m
  .rw[Kc e,VQ f e]
  rw[Ke e,show i=m by omega]
abbrev srcS (l:Law)(cut:Sl Oh)(i:Nat):Oh:=⟨(if (decide (0<=(l.Out.g i).From)) then (cut.g (l.Out.g i).From.toNat).Plus else 0),(if (decide (0<=(l.Out.g i).From)) then (cut.g (l.Out.g i).From.toNat).Minus else 0)⟩
def AL1 (t:1000<=N){l:Law}(u:AO9 l){cut:Sl Oh}(hn:cut.n=l.If.n)(hc:∀i,i<cut.n->okS (cut.g i)) :∃s,O6 N l cut=some s/\Dn N l cut=some s/\s.n=l.Out.n/\∀i,i<s.n->vS (s.g i):=by
 have one:∀i,∃y:Oh,i<l.Out.n->vS y/\∀(R:Type) (k:Oh->Option R),
  (∀(Ch:Nat->Oh->Int->Oh->Option (Oh×Int)) (Ta:Nat->Oh->Oh->Int->Option (Oh×Int)),(Ch=P0/\Ta=T4) \/ (Ch=Y3/\Ta=BK) ->
  (if ((decide (0<=(l.Out.g i).From))=true->((0:Int)<=(l.Out.g i).From/\(l.Out.g i).From<(cut.n:Int)))then
   (Ch N (⟨(if (decide (0<=(l.Out.g i).From)) then (cut.g (l.Out.g i).From.toNat).Plus else 0),(if (decide (0<=(l.Out.g i).From)) then (cut.g (l.Out.g i).From.toNat).Minus else 0)⟩:Oh) (l.Out.g i).Clear (l.Out.g i).Set).bind fun y5=>
   if ((l.Out.g i).Take != 0) then
    if ((0:Int)<=(l.Out.g i).Of/\(l.Out.g i).Of<(cut.n:Int))then
     (Ta N y5.1 (cut.g (l.Out.g i).Of.toNat) (l.Out.g i).Take).bind fun y6=>k y6.1
    else none
   else k y5.1
   else none)=k y):=by
  intro i;by_cases d:i<l.Out.n
  case neg=>exact⟨default,fun h=>Lq h d⟩
  obtain⟨⟨j,m,o⟩,w,q⟩:=u.2 i d;have hs:okS (⟨(if (decide (0<=(l.Out.g i).From)) then (cut.g (l.Out.g i).From.toNat).Plus else 0),(if (decide (0<=(l.Out.g i).From)) then (cut.g (l.Out.g i).From.toNat).Minus else 0)⟩:Oh):=by
   by_cases v:0<=(l.Out.g i).From
   .simp only[v,decide_true,Lr];exact hc _ (by omega)
   simp only[v,decide_false,Ba2,Ls];exact⟨0#32,0#32,rfl⟩
  obtain⟨y,e1,e2,hy⟩:=VP t hs m j;by_cases ht:(l.Out.g i).Take=0
  .refine⟨y.1,fun _=>⟨hy,fun R k Ch Ta h=>?_⟩⟩;rw[Kc (fun h=>by have:=of_decide_eq_true h;omega)]
   have:Ch N (srcS l cut i) (l.Out.g i).Clear (l.Out.g i).Set=some y:=by
    rcases h with⟨rfl,rfl⟩ | ⟨rfl,rfl⟩
    .exact e1
    exact e2
   rw[this,AZ6,Ke (by simp[ht])]
  obtain⟨g1,g2⟩:=q ht;obtain⟨z,e3,e4,x⟩:=Af7 t hy.ok o (hc (l.Out.g i).Of.toNat (by omega));refine⟨z.1,fun _=>⟨x,fun R k Ch Ta h=>?_⟩⟩;rw[Kc (fun h=>by have:=of_decide_eq_true h;omega)]
  have:Ch N (srcS l cut i) (l.Out.g i).Clear (l.Out.g i).Set=some y:=by
   rcases h with⟨rfl,rfl⟩ | ⟨rfl,rfl⟩
   .exact e1
   exact e2
  rw[this,AZ6,Kc (by simp[ht]),Ig]
  have:Ta N y.1 (cut.g (l.Out.g i).Of.toNat) (l.Out.g i).Take=some z:=by
   rcases h with⟨rfl,rfl⟩ | ⟨rfl,rfl⟩
   .exact e3
   exact e4
  rw[this,AZ6]
 obtain⟨out,f⟩:=Bi2 one;have a0:=u.1;have b:∀(Ch:Nat->Oh->Int->Oh->Option (Oh×Int)) (Ta:Nat->Oh->Oh->Int->Option (Oh×Int)),(Ch=P0/\Ta=T4) \/ (Ch=Y3/\Ta=BK) ->
  ∀(a:Sl Oh->Int->Option (Sl Oh)) (i:Nat),i<l.Out.n->(∃r,a ((BC out i).push (out i)) (wrap .i64 ((i:Int)+1))=some r/\r=BC out l.Out.n) ->
  ∃r,(if ((decide (0<=(l.Out.g i).From))=true->((0:Int)<=(l.Out.g i).From/\(l.Out.g i).From<(cut.n:Int)))then
   (Ch N (srcS l cut i) (l.Out.g i).Clear (l.Out.g i).Set).bind fun y5=>
   if ((l.Out.g i).Take != 0) then
    if ((0:Int)<=(l.Out.g i).Of/\(l.Out.g i).Of<(cut.n:Int))then
     (Ta N y5.1 (cut.g (l.Out.g i).Of.toNat) (l.Out.g i).Take).bind fun y6=>
     if (((BC out i).n+(Sl.of [y6.1]:Sl Oh).n)*8<=140737488355328/\(BC out i).n+(Sl.of [y6.1]:Sl Oh).n<=140737488355328)then
      a ((BC out i).push y6.1) (wrap .i64 ((i:Int)+1))
     else none
    else none
   else
    if (((BC out i).n+(Sl.of [y5.1]:Sl Oh).n)*8<=140737488355328/\(BC out i).n+(Sl.of [y5.1]:Sl Oh).n<=140737488355328)then
     a ((BC out i).push y5.1) (wrap .i64 ((i:Int)+1))
    else none
   else none)=some r/\r=BC out l.Out.n:=by
  intro Ch Ta h a i d hr;have e:=(f i d).2 (Sl Oh) (fun y=>if (((BC out i).n+(Sl.of [y]:Sl Oh).n)*8<=140737488355328/\(BC out i).n+(Sl.of [y]:Sl Oh).n<=140737488355328)then a ((BC out i).push y) (wrap .i64 ((i:Int)+1))else none) Ch Ta h;refine eqX e (ifT ?_ hr)
  have:=Iu out i
  show ((BC out i).n+1)*8<=_/\(BC out i).n+1<=_;omega
 have h1:∃r,O6 N l cut=some r/\r=BC out l.Out.n:=by
  unfold O6;refine O8 (fun i x1 x2=>x2=(i:Int)/\x1=BC out i) l.Out.n _ (by omega) ⟨rfl,rfl⟩ ?_;rintro a i x1 x2 d ⟨rfl,rfl⟩ hs;by_cases c:i<l.Out.n
  .refine Ao (Am ?_);rw[AZ2];exact b _ _ (.inl ⟨rfl,rfl⟩) a i c (hs c _ _ ⟨Gx,rfl⟩)
  exact Df ⟨_,rfl,by congr 1;omega⟩
 have h2:∃r,Dn N l cut=some r/\r=BC out l.Out.n:=by
  unfold Dn;refine O8 (fun i x1 x2=>x2=(i:Int)/\x1=BC out i) l.Out.n _ (by omega) ⟨rfl,rfl⟩ ?_;rintro a i x1 x2 d ⟨rfl,rfl⟩ hs;by_cases c:i<l.Out.n
  .refine Ao (Am ?_);rw[AZ2];exact b _ _ (.inr ⟨rfl,rfl⟩) a i c (hs c _ _ ⟨Gx,rfl⟩)
  exact Df ⟨_,rfl,by congr 1;omega⟩
 obtain⟨r,e1,rfl⟩:=h1;obtain⟨r,e2,rfl⟩:=h2;exact⟨_,e1,e2,Iu out _,fun i d=>by rw[Iu]at d;rw[VQ out d];exact (f i d).1⟩
end Go.AM
namespace Go.AM
open Go.Proofs
def ne0 (x:BitVec 32):((x.toNat:Int) != 0)=decide (x≠0#32):=by rw[bne,eq0];simp
def or0 (x y:BitVec 32):x ||| y=0#32↔x=0#32/\y=0#32:=by
 constructor
 .intro h;have h:=(z32 _).1 h;exact⟨(z32 _).2 fun i a=>by have:=h i a;rw[Bb2,Bj2]at this;exact this.1,(z32 _).2 fun i a=>by have:=h i a;rw[Bb2,Bj2]at this;exact this.2⟩
 rintro⟨rfl,rfl⟩;rfl
def AW4 (x y z:BitVec 32):x &&& (y ||| z)=(x &&& y) ||| (x &&& z):=by apply Bf3;intro i a;simp only[Bb3,Bb2];cases x.getLsbD i<;>simp
def AW5 (x y z:BitVec 32):(x ||| y) &&& z=(x &&& z) ||| (y &&& z):=by apply Bf3;intro i a;simp only[Bb3,Bb2];cases z.getLsbD i<;>simp
def Xw {N:Nat}(j:1000<=N){x:EV}(hx:okO x)(k:Int):∃b,W0 N x k=some b/\Ki N x k=some b:=by
 obtain⟨⟨a,b,d⟩,⟨c,hc⟩,t,ht⟩:=hx;have f:(16777215:Int)=((16777215#32).toNat:Int):=rfl;unfold W0 Ki;simp only[lt,d,hc,ht,By,Ai a b j,AZ6];rw[f];simp only[Fd,KR,Ew,ne0];by_cases h1:x.From < -1
 .simp[h1]
 by_cases g:k<=x.From
 .simp[h1,g]
 by_cases i:vB a b=true
 case neg=>simp[h1,g,i]
 simp only[h1,g,i,decide_false,Ba2,Ls,Bl8];rw[AW5,AW4 t];generalize ~~~16777215#32=M;by_cases g1:c &&& M=0#32
 case neg=>simp[g1,or0]
 by_cases g2:t &&& M=0#32
 case neg=>simp[g1,g2,or0]
 by_cases g3:c &&& (a ||| b)=0#32
 case neg=>simp[g1,g2,g3,or0]
 by_cases g4:t &&& (a ||| b)=0#32
 case neg=>simp[g1,g2,g3,g4,or0]
 by_cases g5:t &&& c=0#32
 case neg=>simp[g1,g2,g3,g4,g5,or0]
 simp[g1,g2,g3,g4,g5,or0];by_cases g6:t.toNat=0
 .simp only[g6,Lr];cases x.Of==0<;>simp
 simp only[g6,Ls];cases (decide (0<=x.Of)&&decide (x.Of<k))<;>simp
end Go.AM
namespace Go.AM
open Go.Proofs
abbrev nameC:Str:=[97,98,99,100,101,102,103,104,105,106,107,108,109,110,111,112,113,114,115,116,117,118,119,120,121,122,65,66,67,68,69,70,71,72,73,74,75,76,77,78,79,80,81,82,83,84,85,86,87,88,89,90,48,49,50,51,52,53,54,55,56,57,45]
def Af8 {p:UInt8->Bool}:∀{l:Str},l.dropWhile p=[] ↔ ∀x∈l,p x=true
 |[]=>by simp
 |a::l=>by
  rw[List.dropWhile_cons];by_cases h:p a=true
  .rw[Kc h,Af8];simp[h]
  rw[Ke h];simp[h]
def Au2 (l cs:Str):Lib.trimS l cs=[] ↔ ∀b∈l,cs.contains b=true:=by
 unfold Lib.trimS Lib.trimLeftS Lib.trimRightS;rw[Af8];constructor
 .intro h;have h:∀x∈l.reverse.dropWhile (cs.contains ·),cs.contains x=true:=fun x hx=>h x (Bn4.2 hx);have a:l.reverse.dropWhile (cs.contains ·)=[]:=by
   rcases e:l.reverse.dropWhile (cs.contains ·)with _|⟨y,r⟩
   .rfl
   have c:=h y (by rw[e];simp);have d:¬cs.contains y=true:=by
    have:=List.head_dropWhile_not (cs.contains ·) (l:=l.reverse) (by rw[e];simp)
    simp only[e,List.head_cons]at this;rw[this];exact Bool.false_ne_true
   exact Lq c d
  rw[Af8]at a;exact fun b hb=>a b (Bn4.2 hb)
 intro h x hx;have hx:=Bn4.1 hx;exact h x (Bn4.1 ((List.dropWhile_sublist _).mem hx))
abbrev Rr (y:Int):Bool:=((((decide (97<=y))&&(decide (y<=122)))||((decide (65<=y))&&(decide (y<=90))))||((decide (48<=y))&&(decide (y<=57))))||(y==45)
def Af9:∀k:Fin 256,nameC.contains (UInt8.ofNat k.val)=Rr ((k.val:Nat):Int):=by decide +kernel
def Ag0 (b:UInt8):nameC.contains b=Rr ((b.toNat:Nat):Int):=by
 have:=Af9 ⟨b.toNat,b.toNat_lt⟩
 rw[show UInt8.ofNat b.toNat=b by simp]at this;exact this
def TG {N:Nat}{s:Str}(n:s.length<N)(hs:s.length<1000000000):∃b,BN N s=some b/\EF N s=some b:=by
 have o:∃b,EF N s=some b/\(b=true↔(∀c∈s,nameC.contains c=true)/\1<=s.length/\s.length<=24):=by
  unfold EF;refine Av (fun i x1=>x1=(i:Int)/\∀j (h:j<s.length),j<i->nameC.contains s[j]=true) s.length _ n ⟨rfl,fun j _ a=>Lq a (by omega)⟩ ?_;rintro l i x1 v ⟨rfl,h⟩ f;by_cases hl:i<s.length
  .refine Ao (Am ?_);have eb:Db s (i:Int)=((s[i].toNat:Nat):Int):=by simp[Db,hl]
   by_cases hb:nameC.contains s[i]=true
   .refine ifF (by rw[eb];show ¬(!(Rr ((s[i].toNat:Nat):Int)))=true;rw[<- Ag0,hb];simp) (f hl _ ⟨Gx,fun j a q=>?_⟩);by_cases e:j=i
    .subst e;exact hb
    exact h j a (by omega)
   refine ifT ?_ ⟨false,rfl,by simp,fun t=>Lq (t.1 s[i] (Bp9 hl)) hb⟩;rw[eb];show (!(Rr ((s[i].toNat:Nat):Int)))=true;rw[<- Ag0];simpa using hb
  refine Df ⟨_,rfl,?_⟩;simp only[AZ9,Lt];constructor
  .rintro⟨g1,g2⟩;refine⟨fun c hc=>?_,by omega,by omega⟩;obtain⟨j,a,rfl⟩:=Bn9 hc;exact h j a (by omega)
  rintro⟨_,g1,g2⟩;exact⟨by omega,by omega⟩
 obtain⟨b,e,hb⟩:=o;refine⟨b,?_,e⟩
 suffices h:∃r,BN N s=some r/\(r=true↔(∀c∈s,nameC.contains c=true)/\1<=s.length/\s.length<=24) by obtain⟨r,u,g⟩:=h;rw[u,show r=b by rw[Bd2,g,hb]]
 unfold BN;refine ltX ?_;by_cases d:s=[]
 .exact ifF (by simp[d]) ⟨false,rfl,by simp[d]⟩
 refine ifT (by simp[d]) ?_;have m:0<s.length:=List.length_pos_iff.2 d;by_cases h1:s.length<=24
 .refine Ao (B0 (x:=Lib.trimS s nameC) ?_ ⟨_,rfl,?_⟩)
  .unfold DZ;rw[Kc ⟨by omega,by decide,by decide⟩]
  rw[<- Au2];constructor
  .intro h;exact⟨by simpa using h,by omega,h1⟩
  rintro⟨h,_⟩;simp[h]
 exact Df ⟨false,rfl,by simp;intro _ _;omega⟩
end Go.AM
namespace Go.AM
variable {N:Nat}
open IntKind (wrap)
open Go.Proofs
def TH {s:Sl EV}(m:s.n<N)(hs:s.n<1000000){f:EV->Option Bool}{b:Nat->Bool}(o:∀i,i<s.n->f (s.g i)=some (b i)) :∃r,C7 N s f=some r/\(r=true ↔ ∃i,i<s.n/\b i=true):=by
 unfold C7 F6
 have:∃y,Q5 N (fun (a:Int->Option Int) (x1:Int)=>
  if (decide (x1<(s.n:Int))) then
   if ((0:Int)<=x1/\x1<(s.n:Int))then
    (f (s.g x1.toNat)).bind fun y3=>
    if y3 then
     some x1
    else
     a (wrap .i64 (x1+1))
   else none
  else
   some (-1)) 0=some y/\(0<=y ↔ ∃i,i<s.n/\b i=true):=by
  refine Av (fun i x1=>x1=(i:Int)/\∀j,j<i->b j=false) s.n _ m ⟨rfl,fun j c=>Lq c (by omega)⟩ ?_;rintro l i x1 q ⟨rfl,h⟩ d;by_cases hl:i<s.n
  .refine Ao (Am (B0 (by rw[AZ2];exact o i hl) ?_));cases hb:b i
   .refine Dg (d hl _ ⟨Gx,fun j c=>?_⟩);by_cases e:j=i
    .subst e;exact hb
    exact h j (by omega)
   exact ifT rfl ⟨i,rfl,fun _=>⟨i,hl,hb⟩,fun _=>by omega⟩
  refine Df ⟨-1,rfl,fun h=>Lq h (by decide),?_⟩;rintro⟨j,c,hb⟩;rw[h j (by omega)]at hb;cases hb
 obtain⟨y,e,hy⟩:=this;exact B0 e ⟨_,rfl,by rw[Lt];exact hy⟩
def LH (l:Law):Prop:=okL l/\l.Name.length<1100000/\l.If.n<1100000/\l.Out.n<1100000/\∀i,i<l.Out.n->okO (l.Out.g i)
def YY {s:Oh}(hs:okS s):∃b,H3 N s=some b/\(b=true↔vS s):=by obtain⟨p,m,e⟩:=hs;exact⟨vB p m,by rw[e];exact By p m,(VK e).symm⟩
def YZ (a:1000<=N){s:Oh}(hs:okS s):∃b,K6 N s=some b/\(b=true↔vS s):=by obtain⟨p,m,e⟩:=hs;exact⟨vB p m,by rw[e];exact Ai p m a,(VK e).symm⟩
def Au3 {x:EV}(hx:okO x){k:Int}(h:W0 N x k=some true):x.From<k/\(x.Take≠0->0<=x.Of/\x.Of<k):=by
 obtain⟨⟨a,b,c⟩,_,_⟩:=hx;unfold W0 at h;simp only[lt,c,By,AZ6]at h;by_cases h1:x.From < -1
 .simp[h1]at h
 by_cases d:k<=x.From
 .simp[h1,d]at h
 refine⟨by omega,fun ht=>?_⟩;simp only[h1,d,decide_false,Ba2,Ls]at h;by_cases f:(!vB a b)=true
 .rw[Kc f]at h;cases h
 rw[Ke f]at h;split at h
 .cases h
 rw[Ke (by simp[ht])]at h;simpa using h
def chkAll (N:Nat)(l:Law):Prop:=EF N l.Name=some true/\chk 40 [l.Left]/\chk 40 [l.Right]/\l.If.n<=4/\l.Out.n<=6/\l.If.n+l.Out.n≠0/\1<=l.Mode/\l.Mode<=3/\(∀i,i<l.If.n->vS (l.If.g i))/\∀i,i<l.Out.n->W0 N (l.Out.g i) l.If.n=some true
def AL2 (N:Nat)(l:Law)(e:Int):Prop:=(e=0/\chkAll N l) \/ (e=17/\¬chkAll N l)
def AP0 (l:Law):Prop:=okL l/\chk 40 [l.Left]/\chk 40 [l.Right]/\l.If.n<=4/\AO9 l/\l.If.n+l.Out.n≠0/\1<=l.Mode/\l.Mode<=3
def chkAll.f {N:Nat}{l:Law}(hl:LH l)(h:chkAll N l):AP0 l:=by obtain⟨_,h1,b,c,d,g,j,m,o,n⟩:=h;exact⟨hl.1,h1,b,c,⟨d,fun i a=>⟨hl.2.2.2.2 i a,Au3 (hl.2.2.2.2 i a) (n i a)⟩⟩,g,j,m⟩
def Za (hN:3000000<=N){l:Law}(hl:LH l):∃e,Y8 N l=some e/\AL2 N l e:=by
 have u:=hl.2.1;have v:=hl.2.2.1;have x:=hl.2.2.2.1;unfold Y8;obtain⟨b0,e0,e0'⟩:=TG (N:=N) (s:=l.Name) (by omega) (by omega);refine B0 e0 ?_;cases b0
 .exact ifT rfl ⟨17,rfl,.inr ⟨rfl,fun h=>by have:=h.1;rw[e0']at this;cases this⟩⟩
 refine Dg ?_;obtain⟨y2,e2,o⟩:=Rp (N:=N) (by omega) hl.1.1;refine B0 e2 ?_;by_cases c2:y2=0
 case neg=>exact ifT (by simpa using c2) ⟨17,rfl,.inr ⟨rfl,fun h=>c2 (o.2 h.2.1)⟩⟩
 refine ifF (by simp[c2]) ?_;obtain⟨y3,e3,q⟩:=Rp (N:=N) (by omega) hl.1.2.1;refine B0 e3 ?_;by_cases c3:y3=0
 case neg=>exact ifT (by simpa using c3) ⟨17,rfl,.inr ⟨rfl,fun h=>c3 (q.2 h.2.2.1)⟩⟩
 refine ifF (by simp[c3]) ?_;by_cases c4:4<l.If.n
 .exact Ao ⟨17,rfl,.inr ⟨rfl,fun h=>by have:=h.2.2.2.1;omega⟩⟩
 refine Df ?_;by_cases c5:6<l.Out.n
 .exact Ao ⟨17,rfl,.inr ⟨rfl,fun h=>by have:=h.2.2.2.2.1;omega⟩⟩
 refine Df ?_;rw[Dy (by omega)];by_cases c6:l.If.n+l.Out.n=0
 .exact ifT (by rw[c6];rfl) ⟨17,rfl,.inr ⟨rfl,fun h=>h.2.2.2.2.2.1 c6⟩⟩
 refine Df ?_;by_cases c7:l.Mode<1 \/ 3<l.Mode
 .exact Ao ⟨17,rfl,.inr ⟨rfl,fun h=>by have g1:=h.2.2.2.2.2.2.1;have g2:=h.2.2.2.2.2.2.2.1;omega⟩⟩
 refine Df ?_;have y:∀i,∃b,i<l.If.n->Ag N (l.If.g i)=some b/\(b=true ↔ ¬vS (l.If.g i)):=by
  intro i;by_cases a:i<l.If.n
  .obtain⟨b,eb,hb⟩:=YY (N:=N) (hl.1.2.2 i a);refine⟨!b,fun _=>⟨by unfold Ag;rw[eb];rfl,?_⟩⟩;rw[<- hb];simp
  exact⟨false,fun h=>Lq h a⟩
 obtain⟨f,j⟩:=Bi2 y;obtain⟨y4,e4,r⟩:=Lj (N:=N) (w:=l.If) (by omega) (by omega) (f:=fun u1=>Ag N u1) (fun i a=>(j i a).1);refine B0 e4 ?_;cases c:y4
 case true=>obtain⟨i,a,hb⟩:=r.1 c;exact ifT rfl ⟨17,rfl,.inr ⟨rfl,fun h=>(j i a).2.1 hb (h.2.2.2.2.2.2.2.2.1 i a)⟩⟩
 refine Dg ?_;have z:∀i,∃b,i<l.Out.n->Af N (l.Out.g i) (l.If.n:Int)=some b/\(b=true ↔ ¬W0 N (l.Out.g i) l.If.n=some true):=by
  intro i;by_cases a:i<l.Out.n
  .obtain⟨b,eb,_⟩:=Xw (N:=N) (by omega) (hl.2.2.2.2 i a) (l.If.n:Int);refine⟨!b,fun _=>⟨by unfold Af;rw[eb];rfl,?_⟩⟩;rw[eb];simp
  exact⟨false,fun h=>Lq h a⟩
 obtain⟨g,m⟩:=Bi2 z;obtain⟨y5,e5,t⟩:=TH (N:=N) (s:=l.Out) (by omega) (by omega) (f:=fun u2=>Af N u2 (l.If.n:Int)) (fun i a=>(m i a).1);refine B0 e5 ?_;cases d:y5
 case true=>obtain⟨i,a,hb⟩:=t.1 d;exact ifT rfl ⟨17,rfl,.inr ⟨rfl,fun h=>(m i a).2.1 hb (h.2.2.2.2.2.2.2.2.2 i a)⟩⟩
 refine Dg ⟨0,rfl,.inl ⟨rfl,e0',o.1 c2,q.1 c3,by omega,by omega,c6,by omega,by omega,fun i a=>?_,fun i a=>?_⟩⟩
 .refine Ba9 fun hn=>?_
  have:=r.2 ⟨i,a,(j i a).2.2 hn⟩
  rw[c]at this;cases this
 refine Ba9 fun hn=>?_
 have:=t.2 ⟨i,a,(m i a).2.2 hn⟩
 rw[d]at this;cases this
def Zb (y:3000000<=N){l:Law}(hl:LH l):∃e,BM N l=some e/\AL2 N l e:=by
 have u:=hl.2.1;have v:=hl.2.2.1;have w:=hl.2.2.2.1;unfold BM;obtain⟨b0,e0,e0'⟩:=TG (N:=N) (s:=l.Name) (by omega) (by omega);refine B0 e0' (ltX ?_);cases b0
 .exact ifT rfl (ifT rfl ⟨17,rfl,.inr ⟨rfl,fun h=>by have:=h.1;rw[e0']at this;cases this⟩⟩)
 refine Dg ?_;obtain⟨y2,e2,q⟩:=NE (N:=N) (by omega) hl.1.1;refine B0 e2 ?_;by_cases c2:y2=0
 case neg=>exact ifT (by simpa using c2) (ifT rfl ⟨17,rfl,.inr ⟨rfl,fun h=>c2 (q.2 h.2.1)⟩⟩)
 refine ifF (by simp[c2]) ?_;obtain⟨y3,e3,r⟩:=NE (N:=N) (by omega) hl.1.2.1;refine B0 e3 ?_;by_cases c3:y3=0
 case neg=>exact ifT (by simpa using c3) ⟨17,rfl,.inr ⟨rfl,fun h=>c3 (r.2 h.2.2.1)⟩⟩
 refine ifF (by simp[c3]) ?_;rw[Dy (by omega)];by_cases a:l.If.n<=4/\l.Out.n<=6/\l.If.n+l.Out.n≠0/\1<=l.Mode/\l.Mode<=3
 case neg=>refine ifT ?_ ⟨17,rfl,.inr ⟨rfl,fun h=>a ⟨h.2.2.2.1,h.2.2.2.2.1,h.2.2.2.2.2.1,h.2.2.2.2.2.2.1,h.2.2.2.2.2.2.2.1⟩⟩⟩;simp only[Bc2,Lt,beq_iff_eq];omega
 refine ifF (by simp only[Bc2,Lt,beq_iff_eq];omega) ?_;obtain⟨c4,c5,c6,c7,c8⟩:=a;refine Av (fun i x1=>x1=(i:Int)/\∀j,j<i->vS (l.If.g j)) l.If.n _ (by omega) ⟨rfl,fun j c=>Lq c (by omega)⟩ ?_;rintro t i x1 z ⟨rfl,h⟩ hs;by_cases d:i<l.If.n
 .obtain⟨b,eb,hb⟩:=YZ (N:=N) (by omega) (hl.1.2.2 i d);refine Ao (Am (B0 (by rw[AZ2];exact eb) ?_));cases b
  .exact ifT rfl ⟨17,rfl,.inr ⟨rfl,fun h=>by have:=hb.2 (h.2.2.2.2.2.2.2.2.1 i d);cases this⟩⟩
  refine Dg (hs d _ ⟨Gx,fun j c=>?_⟩);by_cases e:j=i
  .subst e;exact hb.1 rfl
  exact h j (by omega)
 refine Df ?_;have x:∀j,j<l.If.n->vS (l.If.g j):=fun j c=>h j (by omega);refine Av (fun i x1=>x1=(i:Int)/\∀j,j<i->W0 N (l.Out.g j) l.If.n=some true) l.Out.n _ (by omega) ⟨rfl,fun j c=>Lq c (by omega)⟩ ?_;rintro m k x2 hk ⟨rfl,h'⟩ o;by_cases f:k<l.Out.n
 .obtain⟨b,eb,eb'⟩:=Xw (N:=N) (by omega) (hl.2.2.2.2 k f) (l.If.n:Int);refine Ao (Am (B0 (by rw[AZ2];exact eb') ?_));cases b
  .exact ifT rfl ⟨17,rfl,.inr ⟨rfl,fun h=>by have:=h.2.2.2.2.2.2.2.2.2 k f;rw[eb]at this;cases this⟩⟩
  refine Dg (o f _ ⟨Gx,fun j c=>?_⟩);by_cases e:j=k
  .subst e;exact eb
  exact h' j (by omega)
 exact Df ⟨0,rfl,.inl ⟨rfl,e0',q.1 c2,r.1 c3,c4,c5,c6,c7,c8,x,fun j c=>h' j (by omega)⟩⟩
def TI {l:Law}{e e' : Int}(h:AL2 N l e)(h' : AL2 N l e'):e=e':=by
 rcases h with⟨rfl,h⟩ | ⟨rfl,h⟩<;>rcases h' with⟨rfl,h'⟩ | ⟨rfl,h'⟩
 .rfl
 .exact Lq h h'
 .exact Lq h' h
 rfl
def EJ (a:3000000<=N){l:Law}(hl:LH l):∃e,Y8 N l=some e/\BM N l=some e/\AL2 N l e:=by obtain⟨e,h,c⟩:=Za a hl;obtain⟨e',h',c'⟩:=Zb a hl;obtain rfl:=TI c c';exact⟨_,h,h',c⟩
end Go.AM
namespace Go.AM
open Go.Proofs
def PE:Pat->Pat->Prop
 |.nil,q=>q.Kind=0/\q.Is=default/\q.Not=false/\q.Min=0/\q.Max=0/\q.L.n=0
 |.mk k is no mn mx n g,q=>q.Kind=k/\q.Is=is/\q.Not=no/\q.Min=mn/\q.Max=mx/\q.L.n=n/\∀i,i<n->PE (g i) (q.L.g i)
def PE_of {p q:Pat}:PE p q↔q.Kind=p.Kind/\q.Is=p.Is/\q.Not=p.Not/\q.Min=p.Min/\q.Max=p.Max/\q.L.n=p.L.n/\∀i,i<p.L.n->PE (p.L.g i) (q.L.g i):=by
 cases p with
 |nil=>exact⟨fun h=>⟨h.1,h.2.1,h.2.2.1,h.2.2.2.1,h.2.2.2.2.1,h.2.2.2.2.2,fun i a=>Lq a (Bb5 i)⟩,fun h=>⟨h.1,h.2.1,h.2.2.1,h.2.2.2.1,h.2.2.2.2.1,h.2.2.2.2.2.1⟩⟩
 |mk k is no mn mx n g=>exact Bj3
def VR:∀p:Pat,PE p p
 |.nil=>⟨rfl,rfl,rfl,rfl,rfl,rfl⟩
 |.mk k is no mn mx n g=>⟨rfl,rfl,rfl,rfl,rfl,rfl,fun i _=>VR (g i)⟩
def VT:∀{p q:Pat},PE p q->PE q p
 |.nil,q,h=>PE_of.2 ⟨h.1.symm,h.2.1.symm,h.2.2.1.symm,h.2.2.2.1.symm,h.2.2.2.2.1.symm,h.2.2.2.2.2.symm,fun i a=>Lq a (by rw[h.2.2.2.2.2];exact Bb5 i)⟩
 |.mk k is no mn mx n g,q,h=>PE_of.2 ⟨h.1.symm,h.2.1.symm,h.2.2.1.symm,h.2.2.2.1.symm,h.2.2.2.2.1.symm,h.2.2.2.2.2.1.symm,fun i a=>VT (h.2.2.2.2.2.2 i (by rw[<- h.2.2.2.2.2.1];exact a))⟩
def PK {n:Nat}{Q Q' : Nat->Nat->Nat->Prop}:∀{m:Nat},(∀i,i<m->Q i=Q' i)->YO n Q m=YO n Q' m
 |0,_=>rfl
 |m+1,h=>by funext a b;simp only[YO];rw[PK fun i c=>h i (by omega),h m (by omega)]
def AL3 {w:Sl Oh}:∀(d:Nat) {p q:Pat},okP d p->PE p q->PR w p=PR w q
 |0,p,q,h,_=>h.elim
 |d+1,p,q,h,e=>by
  obtain⟨e1,e2,e3,e4,e5,e6,e7⟩:=PE_of.1 e;have ih:∀i,i<p.L.n->PR w (p.L.g i)=PR w (q.L.g i):=fun i c=>AL3 d (h.2.2 i c) (e7 i c);funext a b;apply propext;rw[LG,LG,e1,e2,e3,e4,e5,e6];have j:YO w.n (fun i=>PR w (p.L.g i)) p.L.n=YO w.n (fun i=>PR w (q.L.g i)) p.L.n:=PK ih;have l:(∃i,i<p.L.n/\PR w (p.L.g i) a b) ↔ ∃i,i<p.L.n/\PR w (q.L.g i) a b:=⟨fun⟨i,c,g⟩=>⟨i,c,by rw[<- ih i c];exact g⟩,fun⟨i,c,g⟩=>⟨i,c,by rw[ih i c];exact g⟩⟩;rw[j,l];by_cases f:p.Kind=5
  .have:=(h.2.1 f).1
   rw[ih 0 (by omega)]
  simp[f]
def Au4 {p q:Pat}(e:PE p q):Hr p↔Hr q:=by obtain⟨e1,e2,e3,e4,e5,e6,_⟩:=PE_of.1 e;unfold Hr;rw[e1,e2,e3,e4,e5,e6]
def PEs:List Pat->List Pat->Prop
 |[],[]=>True
 |p::l,q::m=>PE p q/\PEs l m
 |_,_=>False
def Ag1:∀{a b c d:List Pat},PEs a b->PEs c d->PEs (a++c) (b++d)
 |[],[],_,_,_,h=>h
 |_::_,_::_,_,_,⟨h1,h2⟩,h=>⟨h1,Ag1 h2 h⟩
 |[],_::_,_,_,h,_=>h.elim
 |_::_,[],_,_,h,_=>h.elim
def TJ {f g:Nat->Pat}:∀(l:List Nat),(∀i∈l,PE (f i) (g i))->PEs (l.map f) (l.map g)
 |[],_=>trivial
 |i::l,h=>⟨h i (by simp),TJ l fun j a=>h j (by simp[a])⟩
def AA7:∀(k:Nat) (l m:List Pat),PEs l m->(chk k l↔chk k m)
 |0,[],[],_=>Bj3
 |0,p::l,q::m,_=>⟨fun h=>(by cases h),fun h=>by cases h⟩
 |k+1,[],[],_=>Bj3
 |k+1,p::l,q::m,⟨h1,h2⟩=>by
  obtain⟨_,_,_,_,_,e6,e7⟩:=PE_of.1 h1;show Hr p/\chk k (p.L.toList++l)↔Hr q/\chk k (q.L.toList++m);rw[Au4 h1,AA7 k _ _ (Ag1 (c:=l) (d:=m) (show PEs p.L.toList q.L.toList by unfold Sl.toList;rw[e6];exact TJ _ fun i a=>e7 i (Bc3.1 a)) h2)]
 |_,[],_::_,h=>h.elim
 |_,_::_,[],h=>h.elim
def Kv {p q:Pat}(h:PE p q):chk 40 [p]↔chk 40 [q]:=AA7 40 [p] [q] ⟨h,trivial⟩
def okPS_of {p:Pat}:okPS p↔okS p.Is/\∀i,i<p.L.n->okPS (p.L.g i):=by
 cases p with
 |nil=>exact⟨fun _=>⟨⟨0#32,0#32,rfl⟩,fun i a=>Lq a (Bb5 i)⟩,fun _=>trivial⟩
 |mk k is no mn mx n g=>exact Bj3
def NH:∀{p q:Pat},PE p q->okPS p->okPS q
 |.nil,q,h,_=>okPS_of.2 ⟨by rw[h.2.1];exact⟨0#32,0#32,rfl⟩,fun i a=>Lq a (by rw[h.2.2.2.2.2];exact Bb5 i)⟩
 |.mk k is no mn mx n g,q,h,hp=>okPS_of.2 ⟨by rw[h.2.1];exact hp.1,fun i a=>by
  have a:i<n:=by rw[<- h.2.2.2.2.2.1];exact a
  exact NH (h.2.2.2.2.2.2 i a) (hp.2 i a)⟩
end Go.AM
