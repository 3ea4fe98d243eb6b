/- What a law's walk and its plain proof need, part 9: no condition of its own. -/
import Derived.Test.YtfcfdofmgkpmbaaGreatDoorNH
import Derived.Test.YtfcfdofmgkpmbaaGreatDoorNE
import Derived.Test.YtfcfdofmgkpmbaaGreatDoorND
set_option linter.defProp false
set_option linter.unusedSimpArgs false
set_option linter.unusedVariables false
set_option linter.unusedSectionVars false
namespace Go.AM
def AZ7:=@Nat.lt_irrefl
def Be6:=@Go.RowKit.Below.refl
def Bi1:=@Go.Proofs.Tryz.text_walk0
def Bk0:=@Go.Proofs.Tryz.func77
open Go.Proofs
def repO {P:Program}{f e:Nat}{g:Nat->List PV}(t:(g 0).length=1)(c:Nat)(d:∀xs w,(callFunc f xs).run P w=.ok (.enter f xs) w)(hc:c<=maxLen)
 (H:∀(b off cap:Nat) (v0:Value),v0.oneCell' = true->∀w:World,w.cell? ⟨b,off,none⟩=some v0->Calls P f #[.slice (some ⟨b,off,none⟩) 1 cap,.int .i64 c] w fun x w'=>
  x=.returned (.slice (some ⟨w.heap.size,0,none⟩) c c)/\RowKit.Below w.heap.size w w' /\ w'.heap[w.heap.size]? = some (.cells (List.replicate c v0).toArray e (0,0))) :
 FunO (FL P) f [.p (.sl false 1 1 g),.p (pI .i64 (c:Int))] [] (.vec 0) [.vec e 1 c (fun _=>g 0) false] []:=by
 refine Lq (args:=[.sl false 1 1 g,pI .i64 (c:Int)]) d (fun _ _=>t) fun w Pi vs hb n r=>?_;obtain⟨l⟩:=vs
 match l,n with
 |[a,b],_=>
  have ha:RepP w Pi a (.sl false 1 1 g):=r 0 (by simp);have o : RepP w Pi b (pI .i64 (c:Int)):=r 1 (by simp);cases o;cases ha with
  |sl _ b off cap _ _ _ cc hn hk hcc h sp hsp=>
   cases hsp (by omega);obtain⟨h1,y,s⟩:=hcc 0 0 (by omega) (by omega);have u:=h 0 0 (by omega) (by omega);rw[Bl7,AS1]at h1;refine (H b off cap _ s w h1).mono ?_;rintro x w' ⟨rfl,q,m⟩;refine⟨_,rfl,q,.inr ⟨_,_,_,rfl,AK6 _,m,AK6 _,by simp,hc,fun i j v z=>?_⟩⟩;obtain rfl:j=0:=by omega
   have e1:(List.replicate c (cc 0 0)).toArray.getD (i*1+0) undef=cc 0 0:=by simp[Array.getD,v]
   rw[e1];exact⟨u,s⟩
def repP {P:Program}{f e:Nat}{g:Nat->List PV}(z:(g 0).length=1)(c:Nat)(m:∀xs w,(callFunc f xs).run P w=.ok (.enter f xs) w)
 (H:∀(b off cap:Nat) (v0:Value),v0.oneCell' = true->∀w:World,w.cell? ⟨b,off,none⟩=some v0->Calls P f #[.slice (some ⟨b,off,none⟩) 1 cap,.int .i64 c] w fun x w'=>
  x=.returned (.slice (some ⟨w.heap.size,0,none⟩) c c)/\RowKit.Below w.heap.size w w' /\ w'.heap[w.heap.size]? = some (.cells (List.replicate c v0).toArray e (0,0))) :
 WL (FL P) f [.p (.sl false 1 1 g),.p (pI .i64 (c:Int))] (.p (.sl false 1 c (fun _=>g 0))):=by
 refine FY (args:=[.sl false 1 1 g,pI .i64 (c:Int)]) m fun w Pi vs hb r t=>?_;obtain⟨l⟩:=vs
 match l,r with
 |[a,b],_=>
  have ha:RepP w Pi a (.sl false 1 1 g):=t 0 (by simp);have s : RepP w Pi b (pI .i64 (c:Int)):=t 1 (by simp);cases s;cases ha with
  |sl _ b off cap _ _ _ cc hn hk hcc h sp hsp=>
   cases hsp (by omega);obtain⟨h1,h2,v⟩:=hcc 0 0 (by omega) (by omega);have h4:=h 0 0 (by omega) (by omega);rw[Bl7,AS1]at h1;refine (H b off cap _ v w h1).mono ?_;rintro x w' ⟨rfl,n,q⟩;have d:Keeps w Pi w' Pi:=fun b o u hp hc=>⟨by rw[<- hc];exact AN9 (n.block b (AR1 w ⟨b,o,none⟩ hc)),hp⟩;refine⟨_,rfl,n,fun live rho=>.p _ _ (.sl false _ 0 c 1 c _ (fun _ _=>cc 0 0) (AK6 _) (fun _ _=>z) (fun i j y hj=>?_) (fun i j y hj=>?_) none (fun _=>rfl))⟩
   .obtain rfl:j=0:=by omega
    refine⟨?_,fun hp=>Bc (hb _ _ hp) (AZ7 _),v⟩;rw[cell_of_heap q (by simp;omega)];simp[Be5,y]
   obtain rfl:j=0:=by omega
   exact h4.keeps d
def repI (s:Sl Int)(c:Nat)(hs:s.n=1)(hc:c*8<=140737488355328):FunO (FL Tryz.prog) K7 [.p (vSl 1 (cI .i64) s),.p (pI .i64 (c:Int))] [] (.vec 0) [.vec D4 1 c (fun _=>cI .i64 (s.g 0)) false] []:=by obtain⟨n,g⟩:=s;obtain rfl:n=1:=hs;exact repO (g:=fun i=>cI .i64 (g i)) rfl c (enters_of Tryz.func47 (by decide +kernel) rfl) (by unfold maxLen;omega) fun b off cap v0 h w hw=>Tryz.rep_int b off cap c v0 h w hw hc
def repW (s:Sl (Sl Eg))(c:Nat)(hs:s.n=1)(hc:c*24<=140737488355328):WL (FL Tryz.prog) C5 [.p (vSl 1 (cL 2 A1) s),.p (pI .i64 (c:Int))] (.p (vSl 1 (cL 2 A1) (Sl.rep c (s.g 0)))):=by obtain⟨n,g⟩:=s;obtain rfl:n=1:=hs;exact repP (g:=fun i=>cL 2 A1 (g i)) rfl c (enters_of Tryz.func50 (by decide +kernel) rfl) fun b off cap v0 h w hw=>Tryz.rep_word b off cap c v0 h w hw hc
end Go.AM
namespace Go.AM
open Go.Proofs
def vs1 {vs:Array Value}{x:PV}{w:World}{Pi:Nat->Nat->Prop}(b:vs.size=[x].length)(c:∀i,i<[x].length->RepP w Pi (vs.getD i undef) ([x].getD i default)):∃a,vs = #[a]/\RepP w Pi a x:=by
 obtain⟨l⟩:=vs
 match l,b with
 |[a],_=>exact⟨a,rfl,c 0 (by simp)⟩
def vs2 {vs:Array Value}{x y:PV}{w:World}{Pi:Nat->Nat->Prop}(c:vs.size=[x,y].length)(d:∀i,i<[x,y].length->RepP w Pi (vs.getD i undef) ([x,y].getD i default)) :∃a b,vs = #[a,b]/\RepP w Pi a x/\RepP w Pi b y:=by
 obtain⟨l⟩:=vs
 match l,c with
 |[a,b],_=>exact⟨a,b,rfl,d 0 (by simp),d 1 (by simp)⟩
def Ag6 {w:World}{Pi:Nat->Nat->Prop}{v:Value}{l:List UInt8}(h:RepP w Pi v (.str l)):v=.string ⟨l.toArray⟩:=by cases h;rfl
def Zg {w:World}{Pi:Nat->Nat->Prop}{v x:Value}(h:RepP w Pi v (.v x)):v=x:=by cases h;rfl
def AJ0 {w:World}{Pi:Nat->Nat->Prop}(h:TabOk Tryz.prog w Pi):TabAt 0 Lib.deBruijn64tab w:=fun j a=>by obtain⟨s,hs,hn⟩:∃s,Tryz.prog.globals[0]? = some s/\(s.name == "math/bits.deBruijn64tab")=true:=⟨_,rfl,by decide +kernel⟩;refine (h 0 s j (.int .u8 ((Lib.deBruijn64tab.getD j 0:Nat):Int)) hs ?_).1;unfold WS;rw[Az hn,AK7,AK4 a];simp[AJ9,a]
def Aq6 {P:Program}{f:FuncId}{e:TypeId}{k n:Nat}{i0:TypeInfo}{z:Value}{vw:Bool}{g:Nat->List PV}(c:∀xs w,(callFunc f xs).run P w=.ok (.enter f xs) w)(q:z.cells.size=k)(hn:n<=maxLen)
 (r:∀w,Calls P f #[.slice none 0 0,.int .i64 (0:Nat)] w fun e w'=>e=.returned (.slice none 0 0)/\w' = w)
 (h:∀w,0<n->Calls P f #[.slice none 0 0,.int .i64 n] w fun x w'=>x=.returned (.slice (some ⟨w.heap.size,0,none⟩) 0 (grownCap w (0+n) 0 e)) /\
  w' = w.drew.alloc (.cells (([]:List Value).toArray++Builtin.zeroCells z.cells (0+n-0)++Builtin.zeroCells z.cells (grownCap w (0+n) 0 e-(0+n))) e)) :
 FunO (FL P) f [.p G1,.p (pI .i64 (n:Int))] [] (.vec 0) [.vec e k 0 g vw] []:=by
 refine Lq (args:=[G1,pI .i64 (n:Int)]) c (fun i d=>Bc d (by omega)) fun w Pi vs hb hs s=>?_;obtain⟨a,b,rfl,ha,l⟩:=vs2 hs s;cases Zg ha;cases Zg l;by_cases m:n=0
 .subst m;exact (r w).mono fun x w' ⟨o,hw⟩=>⟨_,o,by rw[hw];exact Be6 _ _,.inl ⟨rfl,rfl⟩⟩
 refine (h w (by omega)).mono ?_;rintro x w' ⟨o,rfl⟩;have t:=grownCap_ge w (0+n) 0 e;refine⟨_,o,(RowKit.Below.drew (Be6 _ _)).alloc (AK6 _) _,.inr ⟨w.heap.size,grownCap w (0+n) 0 e,([]:List Value).toArray++Builtin.zeroCells z.cells (0+n-0)++Builtin.zeroCells z.cells (grownCap w (0+n) 0 e-(0+n)),rfl,AK6 _,?_,AT8 _,?_,grownCap_le_maxLen _ _ _ _ (by omega),fun i j d=>Bc d (by omega)⟩⟩
 .show (w.drew.heap.push _)[w.heap.size]? = _
  have:w.drew.heap=w.heap:=rfl
  rw[this];simp
 simp only[Builtin.zeroCells,Array.size_append,Array.size_map,Array.size_range,AS2,Bi0,q];rw[AO9,<- AY4];congr 1;omega
set_option maxRecDepth 100000 in
theorem AJ1 {w:World}{Pi:Nat->Nat->Prop}{v:Value}{nn:Bool}{k n:Nat}{f:Nat->List PV}(h:RepP w Pi v (.sl nn k n f)):(v=.slice none 0 0/\n=0) \/ ∃(b off cap:Nat) (sp:Option Nat) (c:Nat->Nat->Value),v=.slice (some ⟨b,off,sp⟩) n cap/\n<=cap/\(0<n->sp=none) /\
 ∀i j,i<n->j<k->w.cell? ⟨b,off+i*k+j,none⟩=some (c i j)/\RepP w Pi (c i j) ((f i).getD j default):=by
 cases h with
 |slnil=>exact .inl ⟨rfl,rfl⟩
 |sl _ b off cap _ _ _ c hn hk hc h sp hsp=>exact .inr ⟨b,off,cap,sp,c,rfl,hn,hsp,fun i j a d=>⟨(hc i j a d).1,h i j a d⟩⟩
def AB2 (s:Sl Eg)(e:Int)(hn:s.n*8<=140737488355328):WL (FL Tryz.prog) Ht [.p (vSl 2 A1 s),.p (pI .i64 e)] (.p (.str (if e=0 then Zd s else [45]))):=
 FY (args:=[vSl 2 A1 s,pI .i64 e]) (r:=.p (.str (if e=0 then Zd s else [45]))) (fun _ _=>enters_of Bk0 (by kernel_rfl) rfl _ _) fun w Pi vs hb j q=>by
  obtain⟨a,b,rfl,ha,l⟩:=vs2 j q;cases Zg l;by_cases m:e=0
  .subst m;rw[Az rfl];rcases AJ1 ha with⟨rfl,f⟩ | ⟨b,off,cap,sp,c,rfl,d,hsp,hc⟩
   .refine (Bi1 none 0 w).mono ?_;rintro x w' ⟨rfl,hw⟩;refine⟨_,rfl,hw,fun live rho=>.p _ _ ?_⟩;rw[Zd,f];exact .str []
   by_cases f:s.n=0
   .rw[f];refine (Bi1 _ cap w).mono ?_;rintro x w' ⟨rfl,hw⟩;refine⟨_,rfl,hw,fun live rho=>.p _ _ ?_⟩;rw[Zd,f];exact .str []
   cases hsp (by omega);refine (Tryz.text_walk s.n (fun i=>((s.g i).Plus,(s.g i).Minus)) b off cap w hn (AR1 w _ (hc 0 0 (by omega) (by omega)).1) d (fun i o=>?_) (fun i o=>?_)).mono ?_
   .have:=hc i 0 o (by omega);rw[Zg this.2]at this;exact this.1
   .have:=hc i 1 o (by omega);rw[Zg this.2]at this;exact this.1
   rintro x w' ⟨rfl,hw⟩;exact⟨_,rfl,hw,fun live rho=>.p _ _ (.str _)⟩
  rw[Bb m];refine (Tryz.text_walkE a e m w).mono ?_;rintro x w' ⟨rfl,hw⟩;exact⟨_,rfl,hw,fun live rho=>.p _ _ (.str [45])⟩
set_option maxRecDepth 100000 in
theorem libC:GL (FL Tryz.prog) where
 attR:=Wa
 attP:=Sc
 tz x:=by refine Il (args:=[pI .u64 (U x)]) (enters_of Tryz.func42 (by decide +kernel) rfl) fun w Pi vs m hb hs d=>?_;obtain⟨a,rfl,ha⟩:=vs1 hs d;cases Zg ha;exact (Any7.bits_TrailingZeros64 Tryz.tz x.toNat x.isLt w fun _=>AJ0 m).mono fun e w' ⟨g,hw⟩=>⟨_,g,by rw[hw];exact Be6 _ _,fun _ _=>.p _ _ (.v _)⟩
 trim s c hs hc ha:=by refine FY (args:=[.str s,.str c]) (enters_of Tryz.func147 (by decide +kernel) rfl) fun w Pi vs hb i d=>?_;obtain⟨a,b,rfl,h1,o⟩:=vs2 i d;cases Ag6 h1;cases Ag6 o;refine (Any.strings_Trim_laid Tryz.trim (by kernel_rfl) ⟨s.toArray⟩ ⟨c.toArray⟩ w (by show s.toArray.size<=_;simp;omega) (by show c.toArray.size<_;simp;omega) fun j b q=>ha b (AM5 q)).mono ?_;rintro e w' ⟨g,l⟩;exact⟨_,g,l,fun _ _=>.p _ _ (.str _)⟩
 growS f n hn:=Aq6 (i0:=(Tryz.prog.info? F1).getD default) (z:=.agg #[.int .u32 0,.int .u32 0]) (enters_of Tryz.func210 (by decide +kernel) rfl) rfl (by unfold maxLen;omega)
  (fun w=>Any8.slices_Grow_room Tryz.growS none 0 0 0 w (by omega) (by omega) (by omega) (by omega))
  (fun w r=>Any8.slices_Grow_grow Tryz.growS ((Tryz.prog.info? F1).getD default) (.agg #[.int .u32 0,.int .u32 0]) (by kernel_rfl) (by kernel_rfl) (by decide +kernel) none 0 0 n [] w (by omega) (by omega) (AO4 (Nat.le_of_eq (congrArg (fun b=>(0+n)*b) (show ((Tryz.prog.info? F1).getD default).bytes=8 by kernel_rfl))) (by show (0+n)*8<=_;omega)) (by omega) rfl (fun _=>rfl) (fun a h=>by cases h))
 text:=AB2
 repI:=repI
 repW:=repW
end Go.AM
