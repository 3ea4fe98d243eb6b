/- Part 1. -/
import Derived.CallsIn
import Derived.Laws.AppendOwn
import Derived.Laws.IdiomCopy
import Derived.Below
import Derived.Laws.Rows
import Derived.Deep.AppendSrc
import Derived.Laws.BytesString
import Derived.Laws.StructEq
import Derived.ChangeKeysEq
set_option linter.defProp false
set_option linter.unusedSimpArgs false
set_option linter.unusedVariables false
set_option linter.unusedSectionVars false
namespace Go.AM
def Lp:=@if_false
def Lo:=@if_true
def Ke:=@absurd
def Js:=@if_neg
def Jk:=@if_pos
def Cd9:=@Option.some.injEq
def Ce0:=@List.getD_eq_getElem?_getD
def Ce1:=@Array.getD_eq_getD_getElem?
def Ce2:=@Bool.and_eq_true
def Ce3:=@List.getElem?_eq_getElem
def Ce4:=@Bool.false_eq_true
def Ce5:=@Nat.le_refl
def Ce6:=@Option.getD_some
def Ce7:=@List.getElem?_map
def Ce8:=@List.all_eq_true
def Ce9:=@List.cons_append
def Cf0:=@Option.map_some
def Cf1:=@Go.Result.andThen_ok
def Cf2:=@Prod.mk.injEq
def Cf3:=@Option.isSome_iff_exists
def Cf4:=@Nat.mul_le_mul_right
def Cf5:=@Nat.lt_of_lt_of_le
def Cf6:=@Bool.not_eq_true'
def Cf8:=@List.map_cons
def Cf9:=@List.map_congr_left
def Cg0:=@Option.map_eq_some_iff
def Cg1:=@List.length_append
def Cg2:=@Go.Sem.run_bind
def Cg5:=@Go.World.cell?_of_block
def Ch0:=@Nat.zero_add
def Ch1:=@List.mem_range
def Ch4:=@Array.getElem?_eq_getElem
def Ch5:=@List.getElem?_eq_some_iff
def Ch8:=@List.length_cons
def Ch9:=@Nat.le_trans
def Ci0:=@List.getElem?_eq_none
def Ci3:=@Nat.mul_one
def Ci5:=@Option.some.inj
def Ci6:=@Go.Sem.run_pure
def Ci8:=@Array.getElem?_toList
def Cj2:=@Go.World.block_lt_of_cell?
def Cj4:=@Go.Addr.add_lit
def Cj5:=@List.getElem?_append_left
def Cj7:=@List.size_toArray
def Cj8:=@Array.getElem?_modify
def Cj9:=@Function.comp_def
def Ck4:=@Nat.mod_eq_of_lt
def Ck5:=@List.getElem_of_mem
def Ck8:=@Nat.min_eq_left
def Ck9:=@List.cons.injEq
def Cl4:=@Ne.symm
def Cl5:=@List.length_drop
def Cl6:=@Nat.zero_le
def Cl7:=@List.drop_eq_nil_of_le
def Cl8:=@Nat.div_eq_of_lt
def Cl9:=@Option.getD_none
def Cm0:=@List.length_singleton
def Cm1:=@Nat.add_zero
def Cm2:=@List.getElem?_take
def Cm3:=@List.all_cons
def Cm4:=@List.map_map
def Cm5:=@List.drop_eq_getElem_cons
def Cm8:=@List.mem_iff_getElem
def Cn3:=@List.all_map
def Cn4:=@Nat.mul_comm
def Cn5:=@List.map_nil
def Cn6:=@Array.length_toList
def Cn7:=@Nat.add_mul
def Cn8:=@Bool.not_true
def Cn9:=@Option.bind_eq_some_iff
def Co0:=@Array.getElem?_push
def Co3:=@List.eq_nil_of_length_eq_zero
def Co4:=@List.range'_succ
def Co6:=@Array.size_eq_zero_iff
def Co7:=@Array.getElem?_extract
def Co9:=@List.length_map
def Cp3:=@Bool.true_and
def Cp5:=@Iff.rfl
def Cp6:=@Array.getElem_modify
def Cp7:=@List.take_succ_cons
def Cp8:=@List.getElem?_drop
def Cp9:=@Nat.mul_add_mod
def Cq0:=@List.length_nil
def Cq1:=@Option.map_none
def Cq6:=@List.append_assoc
def Cq8:=@List.drop_drop
def Cq9:=@Nat.succ_mul
def Cr3:=@Nat.add_assoc
def Cr5:=@Array.toList_setIfInBounds
def Cs0:=@List.ext_getElem?
def Ct0:=@List.length_take
def Ct6:=@List.getElem?_set_self
def Cu1:=@Array.mem_of_getElem?
def Cu2:=@Nat.mul_add_div
def Cu7:=@List.getElem?_of_mem
def Cv2:=@Array.foldl_toList
def Cv8:=@Int.toNat_le
def Cw1:=@Nat.div_one
inductive PV where
 |v (x:Value)
 |bb (b:Bool)
 |str (l:List UInt8)
 |agg (cs:List PV)
 |sl (nn:Bool) (k n:Nat) (f:Nat->List PV)
 |ptr (cs:List PV)
 |iface (t:TypeId) (a:PV)
 |fn (f:FuncId) (first caps:List PV)
 deriving Inhabited
inductive AV where
 |p (x:PV)
 |reg (j off:Nat)
 |vec (j:Nat)
 |vecp (j n:Nat)
 |elt (j k i off:Nat)
 |Uz (j:Nat)
 |clo (f:FuncId) (first caps:List AV)
 |tup (l:List AV)
 |agr (cs:List AV)
 |yf (j:Nat)
 |top
 deriving Inhabited
abbrev Env:=List (Nat×AV)
inductive Obj where
 |cells (cs:List AV)
 |vec (e:TypeId) (k n:Nat) (f:Nat->List PV) (viewed:Bool)
 |map (es:List (PV×PV))
 |arr (n:Nat) (f:Nat->PV)
 |blk (l:List Nat) (jr:Nat)
 |ghost (cs:List AV)
 |yld (rest:List (List PV)) (live:Bool)
 |fam (e:TypeId) (n jr:Nat) (x:Option (Nat×AV))
 |rows (n:Nat) (g:Nat->Obj)
 |dead
 deriving Inhabited
abbrev C6:=List (Nat×Obj)
def Fa (n:Nat)(f:Nat->PV):List PV:=(List.range n).map f
def get:Env->Nat->AV
 |[],_=>.top
 |(k,a)::r,t=>ite (k=t) a (get r t)
def A2:C6->Nat->Option Obj
 |[],_=>none
 |(k,o)::r,j=>ite (k=j) (some o) (A2 r j)
def ins {α : Type}(k:Nat)(a : α):List (Nat × α)->List (Nat × α)
 |[]=>[(k,a)]
 |(i,b)::r=>ite (i<k) ((k,a)::(i,b)::r) (ite (i=k) ((k,a)::r) ((i,b)::ins k a r))
def del {α : Type}(k:Nat):List (Nat × α)->List (Nat × α)
 |[]=>[]
 |(i,b)::r=>ite (i=k) r ((i,b)::del k r)
structure St where
 env:Env
 Uu:C6
 deriving Inhabited
def Uf:Value->PV
 |.string s=>.str s.data.toList
 |x=>.v x
abbrev AV.int (k:IntKind)(n:Int):AV:=.p (.v (.int k n))
abbrev AV.bool (b:Bool):AV:=.p (.bb b)
def nP:PV->PV
 |.v (.bool b)=>.bb b
 |x=>x
inductive TK where
 |int (k:IntKind)|bool|str
 |slice (e:TypeId)|map (k e:TypeId)|arr (n:Nat) (e:TypeId)
 |struct (fs:List (Nat×TypeId))|ptr (e:TypeId)|iface (n:Nat)|other
 deriving Inhabited,DecidableEq
section
variable (P:Program)
def Zx:TypeDesc->TK
 |.int k=>.int k
 |.bool=>.bool
 |.string=>.str
 |.slice e=>.slice e
 |.map k e=>.map k e
 |.array n e=>.arr n e
 |.struct fs=>.struct (fs.toList.map λf=>(f.offset,f.type))
 |.pointer e=>.ptr e
 |.interface ms=>.iface ms.size
 |_=>.other
def tk (t:TypeId):Option TK:=(P.underlying t).map Zx
def tsz (t:TypeId):Option Nat:=(P.info? t).map (·.size)
def Fi (t:TypeId):Nat:=P.bytesOf t
def Zy:TK->Bool
 |.struct _ | .arr _ _=>true
 |_=>false
def Ri (t:TypeId):Option (List PV):=((P.info? t).bind (·.zero)).map λv=>v.cells.toList.map Uf
end
def pvK:Value->PV
 |.agg cs=>if cs.all (λc=>c.oneCell') then .agg (cs.toList.map Uf)else .v (.agg cs)
 |x=>Uf x
def aev (env:Env):Operand->AV
 |.tmp t=>get env t
 |.const v=>.p (pvK v)
 |.func f=>.clo f [] []
 |.global _=>.top
def nid (d i:Nat):Nat:=1000*(d+1)+i
def Zq:List AV->Option (List PV)
 |[]=>some []
 |.p x::r=>match Zq r with|some l=>some (x::l)|none=>none
 |_::_=>none
def mkAgg (cs:List AV):AV:=match Zq cs with|some l=>.p (.agg l)|none=>.agr cs
def cellsOf:AV->List AV
 |.p (.agg cs)=>cs.map .p
 |.agr cs=>cs
 |.p x=>[.p (nP x)]
 |a=>[a]
def CW:PV->List PV
 |.agg cs=>cs
 |x=>[nP x]
def Mn:PV->Bool
 |.agg _ | .v (.agg _) | .v (.tuple _)=>false
 |_=>true
def AX5:AV->Bool
 |.p x=>Mn x
 |.tup _ | .agr _ | .top=>false
 |_=>true
def Eo:AV->Bool
 |.p (.agg _) | .agr _=>true
 |a=>AX5 a
def Rj:PV->Bool
 |.agg _=>true
 |x=>Mn x
def splice {α : Type}(cs:List α)(off:Nat)(new:List α):List α:=cs.take off++new++cs.drop (off+new.length)
def AK6:List AV->Option (List PV)
 |[]=>some []
 |.p x::r=>match AK6 r with
  |some l=>some (x::l)
  |none=>none
 |.clo f [] []::r=>match AK6 r with
  |some l=>some (.v (.func (.func f) #[] #[])::l)
  |none=>none
 |_=>none
def Fj (Uu:C6):AV->Option (PV×C6)
 |.p x=>some (nP x,Uu)
 |.vec j=>match A2 Uu j with
  |some (.vec e k n f _)=>some (.sl false k n f,ins j (.vec e k n f true) Uu)
  |_=>none
 |.vecp j m=>match A2 Uu j with
  |some (.vec e k n f _)=>some (.sl false k (min m n) f,ins j (.vec e k n f true) Uu)
  |_=>none
 |.clo f [] []=>some (.v (.func (.func f) #[] #[]),Uu)
 |.clo f a b=>match Zq a,Zq b with
  |some a,some b=>some (.fn f a b,Uu)
  |_,_=>none
 |.agr cs=>match AK6 cs with
  |some l=>some (.agg l,Uu)
  |none=>none
 |_=>none
def Hq (Uu:C6):List AV->Option (List PV×C6)
 |[]=>some ([],Uu)
 |a::r=>match Fj Uu a with
  |some (x,Uu)=>match Hq Uu r with
   |some (l,Uu)=>some (x::l,Uu)
   |none=>none
  |none=>none
structure Out where
 cond:List Prop
 val:AV
 Uu:C6
def F3 (op:BinOp)(k:IntKind)(x y:Int):Int:=
 let a:=BitVec.ofInt k.bits x
 let b:=BitVec.ofInt k.bits y
 k.wrap (match op with | .and=>a &&& b | .or=>a ||| b | .xor=>a ^^^ b|_=>a &&& ~~~b).toNat
def shI (op:BinOp)(k:IntKind)(x y:Int):Int:=
 match op with
 |.shl=>k.wrap (x*2 ^ (min y.toNat k.bits))
 |_=>x.fdiv (2 ^ (min y.toNat k.bits))
def Zz:PV->Option Bool
 |.bb b=>some b
 |.v (.bool b)=>some b
 |_=>none
def An9:TK->PV->PV->Option Bool
 |.int _,.v (.int k a),.v (.int l b)=>if k=l then some (a==b)else none
 |.bool,x,y=>match Zz x,Zz y with
  |some a,some b=>some (a==b)
  |_,_=>none
 |.str,.str a,.str b=>some (a==b)
 |_,_,_=>none
def BH:List TK->List PV->List PV->Option Bool
 |[],[],[]=>some true
 |k::ks,x::a,y::b=>match ks with
  |[]=>match a,b with
   |[],[]=>An9 k x y
   |_,_=>none
  |_=>match An9 k x y,BH ks a b with
   |some p,some q=>some (p&&q)
   |_,_=>none
 |_,_,_=>none
def Bn9:AV->Option Bool
 |.p (.v (.pointer none)) | .p (.v (.slice none 0 0)) | .p (.v (.map none)) | .p (.v .nilFunc) | .p (.v .nilIface)=>some true
 |.p (.ptr _) | .p (.iface _ _) | .p (.fn _ _ _) | .reg _ _ | .clo _ _ _ | .elt _ _ _ _ | .Uz _ | .yf _=>some false
 |.p (.sl true _ _ _)=>some false
 |_=>none
def ZA (op:BinOp)(k:IntKind)(a b:Int):List Prop×PV:=
 match op with
 |.add=>([],.v (.int k (k.wrap (a+b))))
 |.sub=>([],.v (.int k (k.wrap (a-b))))
 |.mul=>([],.v (.int k (k.wrap (a*b))))
 |.quo=>([b≠0],.v (.int k (k.wrap (a.tdiv b))))
 |.rem=>([b≠0],.v (.int k (a.tmod b)))
 |.eql=>([],.bb (a==b))
 |.neq=>([],.bb (a != b))
 |.lss=>([],.bb (decide (a<b)))
 |.leq=>([],.bb (decide (a<=b)))
 |.gtr=>([],.bb (decide (b<a)))
 |.geq=>([],.bb (decide (b<=a)))
 |.and=>([],.v (.int k (F3 .and k a b)))
 |.or=>([],.v (.int k (F3 .or k a b)))
 |.xor=>([],.v (.int k (F3 .xor k a b)))
 |.andNot=>([],.v (.int k (F3 .andNot k a b)))
 |.shl=>([0<=b],.v (.int k (shI .shl k a b)))
 |.shr=>([0<=b],.v (.int k (shI .shr k a b)))
def BG5 (rec:TypeId->Option (List TK)):List Field->Nat->Option (List TK)
 |[],_=>some []
 |f::fs,off=>if f.offset≠off then none else match rec f.type with
  |some a=>match BG5 rec fs (off+a.length)with
   |some b=>some (a++b)
   |none=>none
  |none=>none
def lay (P:Program):Nat->TypeId->Option (List TK)
 |0,_=>none
 |n+1,t=>match P.underlying t with
  |some (.int k)=>some [.int k]
  |some .bool=>some [.bool]
  |some .string=>some [.str]
  |some (.struct fs)=>match BG5 (lay P n) fs.toList 0 with
   |some l=>if tsz P t=some l.length then some l else none
   |none=>none
  |_=>none
def AX6 (P:Program):Nat->TypeId->Bool
 |0,_=>false
 |n+1,t=>match P.underlying t with
  |some (.struct fs)=>!P.stoodInHeld t&&fs.toList.all λf=>decide (f.name ≠ "_")&&AX6 P n f.type
  |_=>true
def Qx (P:Program)(t:TypeId):Bool:=AX6 P 10 t && !P.eqGuardType P.depth t
def BB3:TK->Bool
 |.int _=>true
 |.bool=>true
 |.str=>true
 |_=>false
def ZB (P:Program)(t:TypeId)(a b:PV):Option Bool:=
 match tk P t with
 |some (.arr n e)=>match tk P e,a,b with
  |some k,.agg xs,.agg ys=>if BB3 k=true/\tsz P e=some 1 then BH (List.replicate n k) xs ys else none
  |_,_,_=>none
 |_=>none
def Li (P:Program)(t:TypeId)(a b:PV):Option Bool:=
 match tk P t with
 |some (.struct _)=>match lay P 10 t,a,b with
  |some ks,.agg xs,.agg ys=>BH ks xs ys
  |_,_,_=>none
 |some (.arr _ _)=>ZB P t a b
 |some k=>An9 k a b
 |none=>none
def KN (P:Program)(t:TypeId):List Prop:=
 match tk P t with
 |some (.struct _)=>[Qx P t=true]
 |some (.arr _ _)=>[(!P.eqGuardType P.depth t)=true]
 |_=>[]
def BG6 (P:Program)(t:TypeId)(x y:AV):Option Bool:=
 match P.underlying t with
 |some (.pointer _)=>match x,y with
  |.p (.v (.pointer none)),.p (.v (.pointer none))=>some true
  |.p (.v (.pointer none)),.p (.ptr _) | .p (.v (.pointer none)),.reg _ _ | .p (.v (.pointer none)),.elt _ _ _ _=>some false
  |.p (.ptr _),.p (.v (.pointer none)) | .reg _ _,.p (.v (.pointer none)) | .elt _ _ _ _,.p (.v (.pointer none))=>some false
  |_,_=>none
 |some (.slice _)=>match x,y with
  |.p (.v (.slice none 0 0)),.p (.v (.slice none 0 0))=>some true
  |.p (.sl true _ _ _),.p (.v (.slice none 0 0))=>some false
  |_,_=>none
 |some (.map _ _)=>match x,y with
  |.p (.v (.map none)),.p (.v (.map none))=>some true
  |.Uz _,.p (.v (.map none))=>some false
  |_,_=>none
 |some (.func _ _ _)=>match x,y with
  |.p (.v .nilFunc),.p (.v .nilFunc)=>some true
  |.clo _ _ _,.p (.v .nilFunc)=>some false
  |_,_=>none
 |some (.interface _)=>match x,y with
  |.p (.iface _ _),.p (.v .nilIface)=>some false
  |_,_=>none
 |_=>none
def eqA (P:Program)(t:TypeId)(x y:AV)(neg:Bool):Option (List Prop×PV):=
 match (match x,y with
  |.p a,.p b=>Li P t a b
  |_,_=>none:Option Bool)with
 |some r=>some (KN P t,.bb (r != neg))
 |none=>match (match x,y with
  |.p a,.p b=>ZB P t a b
  |_,_=>none:Option Bool)with
  |some r=>some ([(!P.eqGuardType P.depth t)=true],.bb (r != neg))
  |none=>match BG6 P t x y with
   |some b=>some ([],.v (.bool (b != neg)))
   |none=>none
def bin (P:Program)(op:BinOp)(t:TypeId)(x y:AV):Option (List Prop×PV):=
 match x,y with
 |.p (.v (.int k a)),.p (.v (.int l b))=>
  match op with
  |.shl | .shr=>some (ZA op k a b)
  |op=>if k=l then some (ZA op k a b)else none
 |x,y=>match op with
  |.add=>match x,y with
   |.p (.str a),.p (.str b)=>some ([((a.length+b.length:Nat):Int)<=9223372036854775807],.str (a++b))
   |_,_=>none
  |.eql=>eqA P t x y false
  |.neq=>eqA P t x y true
  |_=>none
def Qy:AV:=.p (.v (.tuple #[]))
def un (op:UnOp)(x:AV):Option PV:=
 match op,x with
 |.not,.p (.v (.bool b))=>some (.v (.bool !b))
 |.not,.p (.bb b)=>some (.bb !b)
 |.neg,.p (.v (.int k n))=>some (.v (.int k (k.wrap (0-n))))
 |.xor,.p (.v (.int k n))=>some (.v (.int k (F3 .xor k (ite k.signed (-1) k.max) n)))
 |_,_=>none
def asInt:AV->Option Int
 |.p (.v (.int _ n))=>some n
 |_=>none
def BB4:AV->Bool
 |.p (.str _)=>false
 |_=>true
def srcK:TK->Bool
 |.slice _ | .str=>true
 |_=>false
def elems (Uu:C6)(k:Nat):AV->Option (Nat×(Nat->List PV))
 |.p (.v (.slice none 0 0))=>some (0,λ_=>[])
 |.p (.sl _ m n f)=>if m=k then some (n,f)else none
 |.p (.str l)=>if k=1 then some (l.length,λi=>[.v (.int .u8 ((l.getD i 0).toNat:Nat))])else none
 |.vec j=>match A2 Uu j with
  |some (.vec _ m n f _)=>if m=k then some (n,f)else none
  |_=>none
 |.vecp j i=>match A2 Uu j with
  |some (.vec _ m n f _)=>if m=k then some (min i n,f)else none
  |_=>none
 |_=>none
def Xd (Uu:C6)(e:TypeId)(k:Nat):AV->Option (Nat×(Nat->List PV)×Bool×C6)
 |.p (.v (.slice none 0 0))=>some (0,λ_=>[],false,Uu)
 |.vec j=>match A2 Uu j with
  |some (.vec e' m n f vw)=>if e' = e/\m=k then some (n,f,vw,ins j .dead Uu)else none
  |_=>none
 |.vecp j i=>match A2 Uu j with
  |some (.vec e' m n f false)=>if e' = e/\m=k then some (min i n,f,false,ins j .dead Uu)else none
  |_=>none
 |_=>none
def MV (Uu:C6)(e:TypeId)(m d bytes:Nat):AV->AV->Option (List Prop×AV×C6)
 |.vec j,.vec l=>match A2 Uu (nid d 0),A2 Uu j,A2 Uu l with
  |none,some (.fam e1 n jr none),some (.fam e2 1 jz (some (0,a)))=>if ((e1=e/\e2=e)/\m=1/\0<bytes)/\j≠l then
   some ([(n+1)*bytes<=140737488355328/\n+1<=140737488355328],.vec (nid d 0),ins (nid d 0) (.fam e (n+1) jr (some (n,a))) (ins l .dead (ins j .dead Uu)))else none
  |_,_,_=>none
 |_,_=>none
def famB (P:Program)(e:TypeId)(z:List PV)(m:Nat):Nat:=match z.length==m with|true=>Fi P e|false=>0
def BT2:C6->Option Nat
 |[]=>none
 |(j,.rows _ _)::_=>some j
 |_::r=>BT2 r
def MW (Uu:C6)(n:Nat):List (Nat×AV)->Option (Nat×Nat)
 |[(0,.vec j)]=>match A2 Uu j,BT2 Uu with
  |some (.vec _ _ _ _ false),some jz=>match A2 Uu jz with
   |some (.rows _ _)=>if n=1 then some (jz,j)else none
   |_=>none
  |_,_=>none
 |_=>none
def DO (n:Nat)(f g:Nat->List PV)(i:Nat):List PV:=ite (i<n) (f i) (g (i-n))
def find (cmp:PV->PV->Option Bool)(k:PV):List (PV×PV)->Option (Option PV)
 |[]=>some none
 |(a,x)::r=>match cmp k a with
  |some true=>some (some x)
  |some false=>find cmp k r
  |none=>none
def upd (cmp:PV->PV->Option Bool)(k x:PV):List (PV×PV)->Option (List (PV×PV))
 |[]=>some [(k,x)]
 |(a,y)::r=>match cmp k a with
  |some true=>some ((k,x)::r)
  |some false=>(upd cmp k x r).map ((a,y) :: ·)
  |none=>none
def GL (cmp:PV->PV->Option Bool)(k:PV):List (PV×PV)->Option (Option Nat)
 |[]=>some none
 |(a,_)::r=>match cmp k a with
  |some true=>some (some 0)
  |some false=>(GL cmp k r).map λq=>q.map (· + 1)
  |none=>none
def ent (k z:PV)(es:List (PV×PV)):Option Nat->Nat×PV×List (PV×PV)
 |none=>(es.length,z,es++[(k,z)])
 |some j=>(j,(es.getD j default).2,es.set j (k,(es.getD j default).2))
def BG7 (es:List (PV×PV))(i:Nat)(y:PV):List (PV×PV):=es.set i ((es.getD i default).1,y)
def Ls:List PV->Option UInt8
 |[.v (.int .u8 n)]=>some (UInt8.ofNat n.toNat)
 |_=>none
def Pv (env:Env)(FP:Nat->Option (Nat×Nat)):List (Nat×Operand)->List AV->Option (List AV)
 |[],cs=>some cs
 |(i,x)::r,cs=>
  match Eo (aev env x),FP i with
  |true,some (off,m)=>if (cellsOf (aev env x)).length=m/\off+m<=cs.length then Pv env FP r (splice cs off (cellsOf (aev env x)))else none
  |_,_=>none
section
variable (P:Program)
def Xe (t:TypeId)(ps:List PV):Obj:=match tk P t with
 |some (.arr n _)=>if 8<=n/\ps.length=n then .arr n (λi=>(ps.map nP).getD i default)else .cells (ps.map .p)
 |_=>.cells (ps.map .p)
def Pw (t:TypeId)(a:AV):Obj:=match a with
 |.p (.agg ps)=>Xe P t ps
 |a=>.cells (cellsOf a)
def ldA (t:TypeId)(cs:List AV):Option AV:=
 match tk P t,tsz P t with
 |some k,some n=>match Zy k with
  |true=>if n<=cs.length then some (mkAgg (cs.take n))else none
  |false=>cs.head?
 |_,_=>none
def ldP (t:TypeId)(cs:List PV):Option (List Prop×AV):=
 match tk P t,tsz P t with
 |some k,some n=>match Zy k with
  |true=>some ([n<=cs.length],.p (.agg (cs.take n)))
  |false=>match cs with
   |c::_=>some ([],.p c)
   |[]=>none
 |_,_=>none
def Lt (t:TypeId):Option PV:=
 match (P.info? t).bind (·.zero)with
 |some v=>match v with
  |.agg cs=>if (cs.toList.map Uf).all Mn then some (.agg (cs.toList.map Uf))else none
  |v=>some (Uf v)
 |none=>none
def BQ9 (j u jr:Nat):List AV:=[ite (u=0) (.p (.v (.pointer none))) (.reg j 0),.vec jr]
def load (Uu:C6)(t:TypeId):AV->Option (List Prop×AV)
 |.reg j off=>match A2 Uu j with
  |some (.cells cs)=>match ldA P t (cs.drop off)with
   |some a=>some ([],a)
   |none=>none
  |some (.arr n f)=>match tk P t,tsz P t with
   |some k,some m=>match Zy k with
    |true=>if m=n/\off=0 then some ([],.p (.agg (Fa n f)))else none
    |false=>some ([off<n],.p (f off))
   |_,_=>none
  |some (.blk (0::_::u::_) jr)=>match ldA P t ((BQ9 j u jr).drop off)with
   |some a=>some ([],a)
   |none=>none
  |_=>none
 |.p (.ptr cs)=>ldP P t cs
 |.elt j k i off=>match A2 Uu j with
  |some (.vec _ m n f _)=>if k=m then match ldP P t ((f i).drop off)with
   |some (c,a)=>some ((i<n)::c,a)
   |none=>none else none
  |some (.fam _ n _ (some (i0,x)))=>match tk P t with
   |some q=>if Zy q=false/\k=1/\off=0 then some ([i<n/\i=i0],x)else none
   |none=>none
  |_=>none
 |_=>none
def store (Uu:C6)(t:TypeId)(a x:AV):Option (List Prop×C6):=
 match tsz P t,Eo x with
 |some m,true=>match a with
  |.reg j off=>match A2 Uu j with
   |some (.cells cs)=>if (cellsOf x).length=m/\off+m<=cs.length then some ([],ins j (.cells (splice cs off (cellsOf x))) Uu)else none
   |some (.arr n f)=>match x with
    |.p (.agg ps)=>if m=n then some ([off=0/\ps.length=n],ins j (.arr n (λi=>ps.getD i default)) Uu)else none
    |.p y=>if m=1 then some ([off<n],ins j (.arr n (λi=>ite (i=off) (nP y) (f i))) Uu)else none
    |_=>none
   |some (.blk (0::T::u::l) _)=>match x with
    |.vec jr=>if (m=1/\off=1)/\j≠jr then some ([],ins j (.blk (0::T::u::l) jr) Uu)else none
    |_=>none
   |_=>none
  |.elt j k i off=>match A2 Uu j,x with
   |some (.vec e k' n f false),.p x=>if k=k' then some ([(CW x).length=m/\i<n/\off+m<=k],ins j (.vec e k' n (λl=>ite (l=i) (splice (f l) off (CW x)) (f l)) false) Uu)else none
   |some (.fam e n jr (some (i0,_))),x=>match cellsOf x with
    |[y]=>if m=1/\k=1/\off=0 then some ([i<n/\i=i0],ins j (.fam e n jr (some (i0,y))) Uu)else none
    |_=>none
   |_,_=>none
  |_=>none
 |_,_=>none
def BB5 (t:TypeId)(f:Nat)(x:AV):Option AV:=
 match tk P t with
 |some (.struct fs)=>match fs[f]? with
  |some (off,ft)=>match tsz P ft with
   |some 0=>none
   |some _=>match x with
    |.reg j o=>some (.reg j (o+off))
    |.elt j k i o=>some (.elt j k i (o+off))
    |.p (.ptr cs)=>some (.p (.ptr (cs.drop off)))
    |_=>none
   |none=>none
  |none=>none
 |_=>none
def BB6 (t:TypeId)(f:Nat)(x:AV):Option (List Prop×AV):=
 match tk P t,x with
 |some (.struct fs),.p (.agg cs)=>match fs[f]? with
  |some (off,ft)=>ldP P ft (cs.drop off)
  |none=>none
 |some (.struct fs),.agr cs=>match fs[f]? with
  |some (off,ft)=>match ldA P ft (cs.drop off)with
   |some a=>some ([],a)
   |none=>none
  |none=>none
 |_,_=>none
def Hr (Uu:C6)(t:TypeId)(x:AV)(i:Int):Option (List Prop×AV):=
 match tk P t,x with
 |some (.arr n e),.reg j o=>match tsz P e with
  |some m=>some ([0<=i/\i<n],.reg j (o+i.toNat*m))
  |none=>none
 |some (.arr n e),.p (.ptr cs)=>match tsz P e with
  |some m=>some ([0<=i/\i<n],.p (.ptr (cs.drop (i.toNat*m))))
  |none=>none
 |some (.slice e),.p (.sl _ k n f)=>if tsz P e=some k then some ([0<=i/\i<n],.p (.ptr (f i.toNat)))else none
 |some (.slice e),.vec j=>match A2 Uu j with
  |some (.vec _ k n _ _)=>if tsz P e=some k then some ([0<=i/\i<n],.elt j k i.toNat 0)else none
  |some (.fam _ n _ _)=>if tsz P e=some 1 then some ([0<=i/\i<n],.elt j 1 i.toNat 0)else none
  |_=>none
 |some (.slice e),.vecp j m=>match A2 Uu j with
  |some (.vec _ k n _ _)=>if tsz P e=some k then some ([0<=i/\i<m/\m<=n],.elt j k i.toNat 0)else none
  |_=>none
 |_,_=>none
def AC0:List PV->Option (List (List UInt8))
 |[]=>some []
 |.str s::r=>match AC0 r with
  |some l=>some (s::l)
  |none=>none
 |_=>none
def BB7 (t:TypeId)(x:AV)(i:Int):Option (List Prop×AV):=
 match tk P t,x with
 |some .str,.p (.str l)=>some ([0<=i/\i<l.length],.int .u8 ((l.getD i.toNat 0).toNat:Nat))
 |some (.arr n e),.p (.agg cs)=>match tk P e,AC0 cs with
  |some .str,some ss=>if ss.length=n/\tsz P e=some 1 then some ([0<=i/\i<n],.p (.str (ss.getD i.toNat [])))else none
  |_,_=>match tsz P e with
   |some m=>match ldP P e (cs.drop (i.toNat*m))with
    |some (c,a)=>some ((0<=i/\i<n)::c,a)
    |none=>none
   |none=>none
 |_,_=>none
def IW (Uu:C6)(t:TypeId)(x:AV)(lo c:Option Int):Option (List Prop×AV×C6):=
 match tk P t,x with
 |some .str,.p (.str l)=>
  match lo,c with
  |none,none=>some ([],.p (.str l),Uu)
  |some a,none=>some ([0<=a/\a<=l.length],.p (.str (l.drop a.toNat)),Uu)
  |none,some b=>some ([0<=b/\b<=l.length],.p (.str (l.take b.toNat)),Uu)
  |some a,some b=>some ([0<=a/\a<=b/\b<=l.length],.p (.str ((l.take b.toNat).drop a.toNat)),Uu)
 |some (.slice e),.p (.sl nn k n f)=>
  if tsz P e=some k then
   match lo,c with
   |none,none=>some ([],.p (.sl nn k n f),Uu)
   |some a,none=>some ([0<=a/\a<=n],.p (.sl nn k (n-a.toNat) (λi=>f (a.toNat+i))),Uu)
   |none,some b=>some ([0<=b/\b<=n],.p (.sl nn k b.toNat f),Uu)
   |some a,some b=>some ([0<=a/\a<=b/\b<=n],.p (.sl nn k (b.toNat-a.toNat) (λi=>f (a.toNat+i))),Uu)
  else none
 |some (.slice e),.p (.v (.slice none 0 0))=>match tsz P e with
  |some _=>some ([lo.getD 0=0/\c.getD 0=0],.p (.v (.slice none 0 0)),Uu)
  |none=>none
 |some (.arr n e),.p (.ptr cs)=>
  match lo,c with
  |none,some b=>if tsz P e=some 1/\cs.length=n then some ([0<=b/\b<=n],.p (.sl true 1 b.toNat (λi=>[cs.getD i default])),Uu)else none
  |none,none=>if tsz P e=some 1/\cs.length=n then some ([],.p (.sl true 1 n (λi=>[cs.getD i default])),Uu)else none
  |_,_=>none
 |some (.slice e),.vec j=>match A2 Uu j with
  |some (.vec e' k n f _)=>if tsz P e=some k/\e' = e then
   match lo,c with
   |none,none=>some ([],.vec j,Uu)
   |none,some b=>some ([0<=b/\b<=n],.vecp j b.toNat,Uu)
   |some a,none=>some ([0<=a/\a<=n],.p (.sl false k (n-a.toNat) (λi=>f (a.toNat+i))),ins j (.vec e k n f true) Uu)
   |some a,some b=>some ([0<=a/\a<=b/\b<=n],.p (.sl false k (b.toNat-a.toNat) (λi=>f (a.toNat+i))),ins j (.vec e k n f true) Uu)
   else none
  |_=>none
 |_,_=>none
def AW7 (Uu:C6)(t:TypeId)(x:AV):Option Int:=
 match tk P t,x with
 |some .str,.p (.str l)=>some l.length
 |some (.slice _),.p (.sl _ _ n _)=>some n
 |some (.slice _),.p (.v (.slice none 0 0))=>some 0
 |some (.map _ _),.p (.v (.map none))=>some 0
 |some (.slice _),.vec j=>match A2 Uu j with
  |some (.vec _ _ n _ _)=>some n
  |some (.fam _ n _ _)=>some n
  |_=>none
 |some (.slice _),.vecp _ n=>some n
 |some (.map _ _),.Uz j=>match A2 Uu j with
  |some (.map es)=>some es.length
  |_=>none
 |some (.arr n _),_=>some n
 |_,_=>none
def BT3:TK->Bool
 |.int _ | .bool | .str=>true
 |_=>false
def Jp (t:TypeId)(k:PV):Bool:=
 match tk P t with
 |some (.struct _)=>match lay P 10 t,k with
  |some ks,.agg cs=>cs.length==ks.length
  |_,_=>false
 |some (.arr n e)=>match tk P e,k with
  |some ek,.agg cs=>cs.length==n&&BT3 ek&&tsz P e==some 1
  |_,_=>false
 |some k=>BT3 k
 |none=>false
def Ib (Uu:C6)(t:TypeId)(m:AV)(k:PV)(ok:Bool):Option (List Prop×AV):=
 match tk P t with
 |some (.map kt e)=>
  match (match Jp P kt k,m with
   |true,.p (.v (.map none))=>some none
   |true,.Uz j=>match A2 Uu j with
    |some (.map es)=>find (Li P kt) k es
    |_=>none
   |_,_=>none:Option (Option PV))with
  |some (some x)=>some (KN P kt,ite ok (.tup [.p x,.bool true]) (.p x))
  |some none=>match Lt P e with
   |some z=>some (KN P kt,ite ok (.tup [.p z,.bool false]) (.p z))
   |none=>none
  |none=>none
 |_=>none
def Vm (t:TypeId)(i:Nat):Option (Nat×Nat):=
 match tk P t with
 |some (.struct fs)=>match fs[i]? with
  |some (off,ft)=>match tsz P ft with
   |some m=>some (off,m)
   |none=>none
  |none=>none
 |some (.arr _ e)=>match tsz P e with
  |some m=>some (i*m,m)
  |none=>none
 |_=>none
def AX7 (t:TypeId):Bool:=match tk P t with
 |some (.struct fs)=>fs.all λf=>(tsz P f.2).isSome
 |some (.arr _ e)=>(tsz P e).isSome
 |_=>false
def G9 (zero:List PV):List (Nat×List PV)->Nat->List PV
 |[],_=>zero
 |(j,x)::r,i=>ite (i=j) x (G9 zero r i)
def Ic (n k:Nat):List Nat->List PV->Bool
 |[],_=>true
 |i::r,x::l=>decide (i<n)&&(Rj x&&((CW x).length==k))&&(!r.contains i&&Ic n k r l)
 |_::_,[]=>false
def aop (env:Env)(Uu:C6)(d:Nat)(o:Op):Option Out:=
 match o with
 |.move x=>some ⟨[],aev env x,Uu⟩
 |.assign x=>some ⟨[],aev env x,Uu⟩
 |.pick c a b=>match aev env c with
  |.p (.v (.bool true))=>some ⟨[],aev env a,Uu⟩
  |.p (.v (.bool false))=>some ⟨[],aev env b,Uu⟩
  |.p (.bb true)=>some ⟨[],aev env a,Uu⟩
  |.p (.bb false)=>some ⟨[],aev env b,Uu⟩
  |_=>none
 |.alloc t=>match A2 Uu (nid d 0),Ri P t with
  |none,some z=>if z.all Mn then some ⟨[],.reg (nid d 0) 0,ins (nid d 0) (Xe P t z) Uu⟩else none
  |_,_=>none
 |.box t x=>match A2 Uu (nid d 0),Eo (aev env x)with
  |none,true=>some ⟨[],.reg (nid d 0) 0,ins (nid d 0) (Pw P t (aev env x)) Uu⟩
  |_,_=>none
 |.build t parts=>match Ri P t with
  |some z=>match z.all Mn&&AX7 P t,Pv env (Vm P t) parts.toList (z.map .p)with
   |true,some cs=>some ⟨[],mkAgg cs,Uu⟩
   |_,_=>none
  |none=>none
 |.buildSlice t n parts=>match MW Uu n (parts.toList.map λq=>(q.1,aev env q.2))with
  |some (jz,j)=>match tk P t,A2 Uu (nid d 0)with
   |some (.slice e),none=>match tsz P e,Ri P e with
    |some 1,some z=>if z.length=1/\z.all Mn then some ⟨[],.vec (nid d 0),ins (nid d 0) (.fam e 1 jz (some (0,.vec j))) Uu⟩else none
    |_,_=>none
   |_,_=>none
  |none=>match tk P t,A2 Uu (nid d 0)with
  |some (.slice e),none=>match Hq Uu (parts.toList.map λq=>aev env q.2),tsz P e,Ri P e with
   |some (l,Uu),some m,some z=>if (n*m<=16777216/\n<=16777216)/\z.length=m/\z.all Mn then
    some ⟨[Ic n m (parts.toList.map (·.1)) l=true],.vec (nid d 0),ins (nid d 0) (.vec e m n (G9 z ((parts.toList.map (·.1)).zip (l.map CW))) false) Uu⟩
    else none
   |_,_,_=>none
  |_,_=>none
 |.load t a=>match load P Uu t (aev env a)with
  |some (c,a)=>some ⟨c,a,Uu⟩
  |none=>none
 |.store t a x=>match store P Uu t (aev env a) (aev env x)with
  |some (c,Uu)=>some ⟨c,Qy,Uu⟩
  |none=>none
 |.nilCheck x=>match Bn9 (aev env x)with
  |some false=>some ⟨[],aev env x,Uu⟩
  |_=>none
 |.binOp op t x y _=>match bin P op t (aev env x) (aev env y)with
  |some (c,r)=>some ⟨c,.p r,Uu⟩
  |none=>none
 |.unOp op _ x=>match un op (aev env x)with
  |some r=>some ⟨[],.p r,Uu⟩
  |none=>none
 |.convert s t x=>match tk P s,tk P t with
  |some (.int _),some (.int k)=>match aev env x with
   |.p (.v (.int _ n))=>some ⟨[],.int k (k.wrap n),Uu⟩
   |_=>none
  |some .str,some .str=>match aev env x with
   |.p (.str l)=>some ⟨[],.p (.str l),Uu⟩
   |_=>none
  |some .str,some (.slice e)=>match aev env x,tk P e with
   |.p (.str l),some (.int .u8)=>some ⟨[],.p (.sl true 1 l.length (λi=>[.v (.int .u8 ((l.getD i 0).toNat:Nat))])),Uu⟩
   |_,_=>none
  |some (.slice e),some .str=>if tk P e=some (.int .u8)then
   match BB4 (aev env x),elems Uu 1 (aev env x)with
   |true,some (n,f)=>some ⟨[∀i,i<n->(Ls (f i)).isSome=true],.p (.str ((List.range n).map λi=>(Ls (f i)).getD 0)),Uu⟩
   |_,_=>none
   else none
  |_,_=>none
 |.makeInterface t x=>match Fj Uu (aev env x),tk P t with
  |some (x,Uu),some k=>match k with
   |.iface _=>none
   |_=>some ⟨[],.p (.iface t x),Uu⟩
  |_,_=>none
 |.makeFunc (.func f) first caps=>some ⟨[],.clo f (first.toList.map (aev env)) (caps.toList.map (aev env)),Uu⟩
 |.makeMap _ none=>match A2 Uu (nid d 0)with
  |none=>some ⟨[],.Uz (nid d 0),ins (nid d 0) (.map []) Uu⟩
  |some _=>none
 |.range t x=>match tk P t,aev env x with
  |some (.map _ _),.Uz j=>match A2 Uu j,A2 Uu (nid d 0)with
   |some (.map es),none=>some ⟨[],.reg (nid d 0) 0,ins (nid d 0) (.blk [1,es.length,es.length] j) Uu⟩
   |_,_=>none
  |_,_=>none
 |.entry x=>match aev env x with
  |.reg j 0=>match A2 Uu j with
   |some (.blk (1::_::last::seen) jm)=>match A2 Uu jm,seen with
    |some (.map es),i::_=>some ⟨[last=es.length/\i<es.length],.tup [.p (es.getD i default).1,.p (es.getD i default).2],Uu⟩
    |_,_=>none
   |_=>none
  |_=>none
 |.makeSlice t l c=>match tk P t,asInt (aev env l),asInt (aev env c),A2 Uu (nid d 0)with
  |some (.slice e),some n,some m,none=>match tsz P e,Ri P e with
   |some k,some z=>if z.length=k/\z.all Mn then
    some ⟨[0<=n/\n<=m/\m*Fi P e<=140737488355328/\m<=140737488355328],.vec (nid d 0),ins (nid d 0) (.vec e k n.toNat (λ_=>z) false) Uu⟩else none
   |_,_=>none
  |_,_,_,_=>none
 |.slice t x lo hi none=>
  match lo.map (λo=>asInt (aev env o)),hi.map (λo=>asInt (aev env o))with
  |none,none=>match IW P Uu t (aev env x) none none with|some (c,a,Uu)=>some ⟨c,a,Uu⟩ | none=>none
  |some (some l),none=>match IW P Uu t (aev env x) (some l) none with|some (c,a,Uu)=>some ⟨c,a,Uu⟩ | none=>none
  |none,some (some h)=>match IW P Uu t (aev env x) none (some h)with|some (c,a,Uu)=>some ⟨c,a,Uu⟩ | none=>none
  |some (some l),some (some h)=>match IW P Uu t (aev env x) (some l) (some h)with|some (c,a,Uu)=>some ⟨c,a,Uu⟩ | none=>none
  |_,_=>none
 |.fieldAddr t x f=>match BB5 P t f (aev env x)with
  |some a=>some ⟨[],a,Uu⟩
  |none=>none
 |.field t x f=>match BB6 P t f (aev env x)with
  |some (c,a)=>some ⟨c,a,Uu⟩
  |none=>none
 |.indexAddr t x i=>match asInt (aev env i)with
  |some i=>match Hr P Uu t (aev env x) i with
   |some (c,a)=>some ⟨c,a,Uu⟩
   |none=>none
  |none=>none
 |.index t x i=>match asInt (aev env i)with
  |some i=>match BB7 P t (aev env x) i with
   |some (c,a)=>some ⟨c,a,Uu⟩
   |none=>none
  |none=>none
 |.lookup t m k ok=>match Fj Uu (aev env k)with
  |some (k,Uu)=>match Ib P Uu t (aev env m) k ok with
   |some (c,a)=>some ⟨c,a,Uu⟩
   |none=>none
  |none=>none
 |.mapUpdate t m k x | .insert t m k x=>match tk P t,aev env m,aev env k with
  |some (.map kt _),.Uz j,.p k=>match Fj Uu (aev env x)with
   |some (x,Uu)=>match A2 Uu j with
    |some (.map es)=>match Jp P kt (nP k),upd (Li P kt) (nP k) x es with
     |true,some es=>some ⟨KN P kt,Qy,ins j (.map es) Uu⟩
     |_,_=>none
    |_=>none
   |none=>none
  |_,_,_=>none
 |.mapEntry t m k=>match tk P t,aev env m,aev env k with
  |some (.map kt e),.Uz j,.p k=>match A2 Uu j,Lt P e with
   |some (.map es),some z=>match Jp P kt (nP k),GL (Li P kt) (nP k) es with
    |true,some q=>some ⟨KN P kt,.tup [.p (ent (nP k) z es q).2.1,.p (.v (.int .i64 ((ent (nP k) z es q).1:Nat)))],ins j (.map (ent (nP k) z es q).2.2) Uu⟩
    |_,_=>none
   |_,_=>none
  |_,_,_=>none
 |.entryStore _ m s x=>match aev env m,asInt (aev env s),Fj Uu (aev env x)with
  |.Uz j,some s,some (y,Uu)=>match A2 Uu j with
   |some (.map es)=>some ⟨[0<=s/\s<(es.length:Int)],Qy,ins j (.map (BG7 es s.toNat y)) Uu⟩
   |_=>none
  |_,_,_=>none
 |.extract x i=>match aev env x with
  |.tup l=>match l[i]? with
   |some a=>some ⟨[],a,Uu⟩
   |none=>none
  |_=>none
 |.call { callee:=.builtin .len,args,argTypes }=>match args.toList,argTypes.toList with
  |[x],[t]=>match AW7 P Uu t (aev env x)with
   |some n=>some ⟨[],.int .i64 n,Uu⟩
   |none=>none
  |_,_=>none
 |.call { callee:=.builtin .append,args,argTypes }=>match args.toList,argTypes.toList with
  |[s,x],[t,t2]=>match tk P t,tk P t2 with
   |some (.slice e),some k2=>match srcK k2,tsz P e,Ri P e with
    |true,some m,some z=>match A2 Uu (nid d 0),elems Uu m (aev env x),Xd Uu e m (aev env s)with
     |none,some (n,g),some (l,f,vw,Uu)=>if z.length=m/\0<Fi P e then
      some ⟨[(l+n)*Fi P e<=140737488355328/\l+n<=140737488355328],.vec (nid d 0),ins (nid d 0) (.vec e m (l+n) (DO l f g) vw) Uu⟩else none
     |_,_,_=>match MV Uu e m d (famB P e z m) (aev env s) (aev env x)with
      |some (c,v,R)=>some ⟨c,v,R⟩
      |none=>none
    |_,_,_=>none
   |_,_=>none
  |_,_=>none
 |.call { callee:=.builtin .min,args,.. }=>match args.toList.map (aev env)with
  |[.p (.v (.int k a)),.p (.v (.int _ b))]=>some ⟨[],.int k (ite (b<a) b a),Uu⟩
  |_=>none
 |.call { callee:=.builtin .max,args,.. }=>match args.toList.map (aev env)with
  |[.p (.v (.int k a)),.p (.v (.int _ b))]=>some ⟨[],.int k (ite (a<b) b a),Uu⟩
  |_=>none
 |_=>none
end
def AX8:List AV->Option (List PV)
 |[]=>some []
 |.p x::r=>match AX8 r with
  |some l=>some (nP x::l)
  |none=>none
 |_::_=>none
def Zr (P:Program)(env:Env)(o:Op):Option (List Prop×PV):=
 match o with
 |.buildSlice t n parts=>match tk P t with
  |some (.slice e)=>match AX8 (parts.toList.map λq=>aev env q.2),tsz P e,Ri P e with
   |some l,some m,some z=>if (n*m<=16777216/\n<=16777216)/\z.length=m/\z.all Mn then
    some ([Ic n m (parts.toList.map (·.1)) l=true],.sl true m n (G9 z ((parts.toList.map (·.1)).zip (l.map CW))))
    else none
   |_,_,_=>none
  |_=>none
 |.makeSlice t l c=>match tk P t,asInt (aev env l),asInt (aev env c)with
  |some (.slice e),some n,some m=>match tsz P e,Ri P e with
   |some k,some z=>if z.length=k/\z.all Mn then
    some ([0<=n/\n<=m/\m*Fi P e<=140737488355328/\m<=140737488355328],.sl true k n.toNat (λ_=>z))else none
   |_,_=>none
  |_,_,_=>none
 |_=>none
def bldE (P:Program)(t:TypeId):Option TypeId:=match P.underlying t with
 |some (.struct fs)=>match fs.toList.map (·.type)with
  |[a,b]=>match P.underlying a,P.underlying b with
   |some (.pointer t'),some (.slice e)=>if t' = t then some e else none
   |_,_=>none
  |_=>none
 |_=>none
def bop (P:Program)(Uu:C6)(d:Nat)(o:Op):Option Out:=
 match o with
 |.alloc t=>match bldE P t,Ri P t,A2 Uu (nid d 0),A2 Uu (nid d 1)with
  |some e,some [.v (.pointer none),.v (.slice none 0 0)],none,none=>some ⟨[],.reg (nid d 0) 0,ins (nid d 0) (.blk [0,t,0] (nid d 1)) (ins (nid d 1) (.vec e 1 0 (λ_=>[]) false) Uu)⟩
  |_,_,_,_=>none
 |_=>none
inductive Rk where
 |normal
 |exit (id:Nat)
 |goto (l:Nat)
 |ret
 |panic (x:PV)
inductive ARes where
 |ret (a:AV)
 |panic (x:PV)
def idx (ids:List Nat)(j:Nat):Option Nat:=
 match ids with
 |[]=>none
 |i::r=>if i=j then some 0 else match idx r j with
  |some n=>some (n+1)
  |none=>none
mutual
def Zs (ids:List Nat)(a:AV):Option AV:=
 match a with
 |.p x=>some (.p (nP x))
 |.reg j off=>match idx ids j with|some j=>some (.reg j off)|none=>none
 |.vec j=>match idx ids j with|some j=>some (.vec j)|none=>none
 |.vecp j n=>match idx ids j with|some j=>some (.vecp j n)|none=>none
 |.elt j k i off=>match idx ids j with|some j=>some (.elt j k i off)|none=>none
 |.Uz j=>match idx ids j with|some j=>some (.Uz j)|none=>none
 |.clo f a b=>match Fc ids a,Fc ids b with|some a,some b=>some (.clo f a b)|_,_=>none
 |.tup a=>match Fc ids a with|some a=>some (.tup a)|none=>none
 |.agr a=>match Fc ids a with|some a=>some (.agr a)|none=>none
 |.yf j=>match idx ids j with|some j=>some (.yf j)|none=>none
 |.top=>some .top
def Fc (ids:List Nat)(l:List AV):Option (List AV):=
 match l with
 |[]=>some []
 |a::r=>match Zs ids a,Fc ids r with
  |some a,some r=>some (a::r)
  |_,_=>none
end
mutual
def unA (ids:List Nat)(a:AV):AV:=
 match a with
 |.p x=>.p x
 |.reg j off=>.reg (ids.getD j 0) off
 |.vec j=>.vec (ids.getD j 0)
 |.vecp j n=>.vecp (ids.getD j 0) n
 |.elt j k i off=>.elt (ids.getD j 0) k i off
 |.Uz j=>.Uz (ids.getD j 0)
 |.clo f a b=>.clo f (unL ids a) (unL ids b)
 |.tup a=>.tup (unL ids a)
 |.agr a=>.agr (unL ids a)
 |.yf j=>.yf (ids.getD j 0)
 |.top=>.top
def unL (ids:List Nat)(l:List AV):List AV:=
 match l with
 |[]=>[]
 |a::r=>unA ids a::unL ids r
end
def Vn (ids:List Nat):Obj->Option Obj
 |.cells cs=>match Fc ids cs with|some cs=>some (.cells cs)|none=>none
 |.vec e k n f vw=>some (.vec e k n f vw)
 |.map es=>some (.map es)
 |.arr n f=>some (.arr n f)
 |.blk l jr=>match idx ids jr with|some jr=>some (.blk l jr)|none=>none
 |.ghost cs=>match Fc ids cs with|some cs=>some (.ghost cs)|none=>none
 |.yld r b=>some (.yld r b)
 |.fam e n jr x=>match x,idx ids jr with|none,some jr=>some (.fam e n jr none)|_,_=>none
 |.rows n g=>some (.rows n g)
 |.dead=>some .dead
def unO (ids:List Nat):Obj->Obj
 |.cells cs=>.cells (unL ids cs)
 |.ghost cs=>.ghost (unL ids cs)
 |.blk l jr=>.blk l (ids.getD jr 0)
 |.fam e n jr x=>.fam e n (ids.getD jr 0) (match x with|none=>none|some (i,a)=>some (i,unA ids a))
 |o=>o
def M9 (ids:List Nat)(Uu:C6):List Nat->Option (List Obj)
 |[]=>some []
 |j::r=>match A2 Uu j with
  |some o=>match Vn ids o,M9 ids Uu r with
   |some o,some l=>some (o::l)
   |_,_=>none
  |none=>none
def Jt (Uu:C6):List AV->Option (List AV×C6)
 |[]=>some ([],Uu)
 |a::r=>
  match (match a with | .vec _ | .vecp _ _=>(match Fj Uu a with|some (x,Uu)=>some (AV.p x,Uu)|none=>none)|a=>some (a,Uu):Option (AV×C6))with
  |some (a,Uu)=>match Jt Uu r with
   |some (l,Uu)=>some (a::l,Uu)
   |none=>none
  |none=>none
def I5:List Nat->Bool
 |[]=>true
 |a::r=>!r.contains a&&I5 r
structure X4 where
 F:FuncId->List AV->List Obj->(ARes->List Obj->List Bool->Prop)->Prop
 up:St->(St->Prop)->Prop
variable (S:X4) (P:Program)
def put (st:St)(d:Option Nat)(a:AV):St:=
 match d with
 |some d=>{ st with env:=ins d a st.env }
 |none=>st
def back (all:List Nat):List Nat->List Obj->C6->C6
 |j::ids,o::objs,Uu=>back all ids objs (ins j (unO all o) Uu)
 |_,_,Uu=>Uu
def I3 (d:Nat)(ids:List Nat)(ks:List Bool)(n:Nat):List Nat:=(List.range n).map λp=>
 match ids[p]?,ks[p]? with
 |some j,some true=>j
 |_,_=>nid d p
def K9:List Nat->List Bool->C6->C6
 |j::ids,k::ks,Uu=>if k then K9 ids ks Uu else K9 ids ks (ins j .dead Uu)
 |j::ids,[],Uu=>K9 ids [] (ins j .dead Uu)
 |[],_,Uu=>Uu
def unRes (ids:List Nat):ARes->ARes
 |.ret a=>.ret (unA ids a)
 |.panic x=>.panic x
def Z6 (Uu:C6)(ids:List Nat)(ks:List Bool)(d n:Nat):Bool:=(List.range n).all λp=>
 match ids[p]?,ks[p]? with
 |some _,some true=>true
 |_,_=>(A2 Uu (nid d p)).isNone
def GM:List Obj->Bool
 |[]=>true
 |.yld _ _::_=>false
 |_::r=>GM r
def Ao0 (d:Nat)(ids:List Nat)(f:FuncId)(args:List AV)(st:St)(K:ARes->St->Prop):Prop:= ∃args' objs,I5 ids=true/\Fc ids args=some args' /\ M9 ids st.Uu ids=some objs/\GM objs=true /\ S.F f args' objs λr objs' ks=>Z6 st.Uu ids ks d objs'.length=true /\ K (unRes (I3 d ids ks objs'.length) r) { env:=st.env,Uu:=back (I3 d ids ks objs'.length) (I3 d ids ks objs'.length) objs' (K9 ids ks st.Uu) }
def Zt (env:Env)(f:Operand)(args:List AV):Option (FuncId×List AV):=
 match aev env f with
 |.clo f first caps=>some (f,first++args++caps)
 |.p (.v (.func (.func f) x y))=>match x.toList,y.toList with
  |[],[]=>some (f,args)
  |_,_=>none
 |.p (.fn f first caps)=>some (f,first.map .p++args++caps.map .p)
 |_=>none
def Hc (env:Env)(f:Operand):Option (FuncId×List AV×List AV):=
 match aev env f with
 |.clo f first caps=>some (f,first,caps)
 |.p (.v (.func (.func f) x y))=>match x.toList,y.toList with
  |[],[]=>some (f,[],[])
  |_,_=>none
 |.p (.fn f first caps)=>some (f,first.map .p,caps.map .p)
 |_=>none
def Id (ops:List Oper)(j:Nat):Nat:=match ops[j]? with
 |some o=>o.dst.getD 0
 |none=>0
def Rl:AV->Option Bool
 |.p (.v (.bool b))=>some b
 |.p (.bb b)=>some b
 |_=>none
def yv:AV->Option (Option Bool)
 |.p (.v (.bool b))=>some (some b)
 |.p (.bb b)=>some (some b)
 |.p (.v (.tuple _))=>some none
 |_=>none
abbrev Dm:AV:=Qy
abbrev M0:=Rk->St->Prop
def Lu (d:Option Nat)(k:St->Prop)(Q:M0):ARes->St->Prop
 |.ret a,st=>k (put st d a)
 |.panic x,st=>Q (.panic x) st
def D2:List Prop->Prop
 |[]=>True
 |[p]=>p
 |p::r=>D2 r/\p
def Rm (p:Prop)(r:List Prop):D2 (p::r)↔D2 r/\p:=by
 cases r with
 |nil=>exact⟨λh=>⟨trivial,h⟩,λh=>h.2⟩
 |cons q s=>exact Cp5
def FQ (c d:List Prop):D2 (c++d)↔D2 d/\D2 c:=by
 induction c with
 |nil=>exact⟨λh=>⟨h,trivial⟩,λh=>h.1⟩
 |cons p c ih=>simp_all[Ce9,Rm,and_assoc]
def leP0 (x y:PV):Prop:= x=y \/ (∃nn k n f g,x=.sl nn k n f/\y=.sl false k n g/\∀i,i<n->f i=g i) \/ (∃k f,x=.v (.slice none 0 0)/\y=.sl false k 0 f)
def BG8:List PV->List PV->Prop
 |[],[]=>True
 |x::r,y::s=>leP0 x y/\BG8 r s
 |_,_=>False
def Ie (j:Nat):C6->Bool
 |[]=>true
 |(i,.yld _ _)::r=>i==j&&Ie j r
 |_::r=>Ie j r
def ZC (P:Program)(t:TypeId)(m:String):Option FuncId:=
 match P.info? t,P.underlying t with
 |some i,some d=>match d with
  |.pointer _=>none
  |_=>match i.methods.find? (·.name==m)with
   |some q=>match q.path.toList,q.func with
    |[],some (f,false)=>some f
    |_,_=>none
   |none=>none
 |_,_=>none
def Xf:Obj->Option PV
 |.vec _ k n f false=>some (.sl false k n f)
 |.ghost [.p x]=>some x
 |_=>none
def BT4 (Uu:C6)(l l' : List AV)(regs' : C6):Prop:=Jt Uu l=some (l',regs') \/ (l' = l/\regs' = Uu)
def wOp (o:Oper)(k:St->Prop)(Q:M0)(st:St):Prop:=
 match o.op with
 |.call { callee:=.value f,args,.. }=>
  (∃as Uu f' as',BT4 st.Uu (args.toList.map (aev st.env)) as Uu/\Zt st.env f as=some (f',as') /\
   ∃ids,Ao0 S (o.dst.getD 0) ids f' as' { st with Uu } (Lu o.dst k Q)) \/
  (∃j xs Uu ys rest,aev st.env f=.yf j/\Hq st.Uu (args.toList.map (aev st.env))=some (xs,Uu)/\A2 Uu j=some (.yld (ys::rest) true)/\Ie j Uu=true/\BG8 xs ys /\
   ∀b:Bool,k (put { st with Uu:=ins j (.yld (ite b rest []) b) Uu } o.dst (.p (.bb b))))
 |.call { callee:=.invoke recv m,args,.. }=>
  ∃as Uu t y f',Jt st.Uu (args.toList.map (aev st.env))=some (as,Uu)/\aev st.env recv=.p (.iface t y)/\ZC P t m=some f' /\
   ∃ids,Ao0 S (o.dst.getD 0) ids f' (.p y::as) { st with Uu } (Lu o.dst k Q)
 |.panic x=>∃t y,aev st.env x=.p (.iface t y)/\Q (.panic (.iface t y)) st
 |.next x false=>∃j cl last seen jm es,aev st.env x=.reg j 0/\A2 st.Uu j=some (.blk (1::cl::last::seen) jm)/\A2 st.Uu jm=some (.map es)/\cl=es.length/\cl<=last /\
  ((∀i,i<es.length->i∈seen)->k (put st o.dst (.tup [.p (.bb false)]))) /\
  ∀i,i<es.length->i ∉ seen->k (put { st with Uu:=ins j (.blk (1::cl::es.length::(i::seen)) jm) st.Uu } o.dst (.tup [.p (.bb true),.p (es.getD i default).1,.p (es.getD i default).2]))
 |op=>(∃out,aop P st.env st.Uu (o.dst.getD 0) op=some out/\D2 out.cond/\k (put { st with Uu:=out.Uu } o.dst out.val)) \/
  (∃c x,Zr P st.env op=some (c,x)/\D2 c/\k (put st o.dst (.p x))) \/
  ∃out,bop P st.Uu (o.dst.getD 0) op=some out/\D2 out.cond/\k (put { st with Uu:=out.Uu } o.dst out.val)
def Lj (all:List Oper):List Oper->M0->St->Prop
 |[],Q,st=>Q .normal st
 |o::rest,Q,st0=>S.up st0 λst=>
  match o.guard with
  |none=>wOp S P o (Lj all rest Q) Q st
  |some (j,want)=>∃b,yv (get st.env (Id all j))=some b /\
   ite (b=some want) (wOp S P o (Lj all rest Q) Q st) (Lj all rest Q (put st o.dst Dm))
def thn (K:St->Prop)(Q:M0):M0
 |.normal,s=>S.up s K
 |e,s=>Q e s
def blk (id:Nat)(Q:M0):M0
 |.exit i,s=>if i=id then Q .normal s else Q (.exit i) s
 |e,s=>Q e s
def lop {X:Type}(s:X->St)(J:X->Prop)(m:X->Nat)(n:Nat)(Q:M0):M0
 |.normal,t=>S.up t λt'=>∃x,t' = s x/\J x/\m x<n
 |e,t=>Q e t
def scp (Q:M0):M0
 |.goto _,_=>False
 |e,s=>Q e s
def Jq (all:List Oper)(o:Oper)(k:St->Prop)(Q:M0)(st0:St):Prop:=S.up st0 λst=>
 match o.guard with
 |none=>wOp S P o k Q st
 |some (j,want)=>∃b,yv (get st.env (Id all j))=some b /\
  ite (b=some want) (wOp S P o k Q st) (k (put st o.dst Dm))
def FR (e:Edge):Bool:=Region.binds .any e
def Ju (ops:List Oper):Bool:=(List.range ops.length).all λi=>match ops[i]? with
 |some o=>o.after.toList.all λe=>!FR e||decide (e.on<i)
 |none=>true
def Ao1 (ops:List Oper)(Q:M0)(st:St):Prop:= P.follows .mixedOrders=true/\Ju ops=true/\∃Inv:(Nat->Bool)->St->Prop,Inv (λ_=>false) st /\ (∀D i s o,Inv D s->ops[i]? = some o->D i=false->(∀e∈o.after.toList,FR e=true->D e.on=true) -> Jq S P ops o (Inv λj=>ite (j=i) true (D j)) Q s) /\ ∀D s,Inv D s->(∀i,i<ops.length->D i=true)->S.up s (Q .normal)
def Lw (n:Nat)(all:List Oper)(o:Oper):Bool:=
 (match o.dst with|some d=>Nat.blt d n|none=>true) &&
 (match o.guard with|some (j,_)=>(match all[j]? with|some o'=>o'.dst.isSome|none=>false)|none=>true)
def BV (n:Nat):Code->Bool
 |.region _ ops _=>ops.toList.all (Lw n ops.toList)
 |.seq a b | .cond _ a b=>BV n a&&BV n b
 |.rangeFunc _ ps a b=>ps.toList.all (λt=>Nat.blt t n)&&BV n a&&BV n b
 |.block _ b | .loop b | .scope b=>BV n b
 |_=>true
def AK:List Nat->List AV->Env
 |t::ts,a::l=>(t,a)::AK ts l
 |_,_=>[]
def MX:List Nat->List PV->Env->Env
 |t::ts,x::l,env=>MX ts l (ins t (.p x) env)
 |_,_,env=>env
def Hd (g:Nat)(ts:List Nat)(next:St->Prop)(Q:M0):M0
 |.normal,s=>S.up s λs=>∃cs,A2 s.Uu g=some (.ghost cs)/\cs.length=ts.length/\A2 (del g s.Uu) g=none/\next ⟨AK ts cs,del g s.Uu⟩
 |.panic _,_=>False
 |e,s=>S.up s λs=>∃cs,A2 s.Uu g=some (.ghost cs)/\cs.length=ts.length/\A2 (del g s.Uu) g=none/\Q e ⟨AK ts cs,del g s.Uu⟩
def BT5 (g:Operand)(ps:Array Tmp)(wa:M0->St->Prop)(wb:M0->St->Prop)(Q:M0)(st:St):Prop:=
 ∃(f:FuncId) (first caps as bs:List AV) (objs:List Obj) (ids ts:List Nat) (gh:Nat) (L:List (List PV)) (I:List (List PV)->St->Prop) (Fin:Bool->ARes->Prop),
  Hc st.env g=some (f,first,caps) /\
  (∃fn,P.funcs[f]? = some fn/\fn.body.isSome=true/\(fn.name == "runtime.NumGoroutine")=false)/\GM objs=true /\
  I5 ids=true/\Fc ids first=some as/\Fc ids caps=some bs/\M9 ids st.Uu ids=some objs/\gh<1000/\A2 st.Uu gh=none/\ids.length<1000/\ts.Nodup /\
  (∀ys∈L,ys.length=ps.size) /\
  S.up ⟨AK ts (ts.map (get st.env)),K9 ids (ids.map λ_=>false) st.Uu⟩ (λs=>s.env.map (·.1)=ts/\A2 s.Uu gh=none/\I L s) /\
  (∀ys rest s,s.env.map (·.1)=ts->A2 s.Uu gh=none->I (ys::rest) s ->
   wa (λe s'=>match e with
    |.normal=>S.up s' λs'=>wb (Hd S gh ts (I rest) Q) s'
    |_=>False) ⟨MX ps.toList ys s.env,ins gh (.ghost (s.env.map (·.2))) s.Uu⟩) /\
  (∀s r,s.env.map (·.1)=ts->A2 s.Uu gh=none->I [] s->Fin true r->match r with
   |.ret _=>Q .normal s
   |.panic x=>Q (.panic x) s) /\
  S.F f (as ++ .yf ids.length::bs) (objs++[.yld L true]) λr objs' ks=>∃b,objs'[ids.length]? = some (.yld [] b)/\ks[ids.length]? = some true/\Fin b r/\(b=false->∃a,r=.ret a)
def awp:Code->M0->St->Prop
 |.skip,Q,st=>Q .normal st
 |.label _,Q,st=>Q .normal st
 |.region _ ops draw,Q,st=>if draw then Ao1 S P ops.toList Q st else Lj S P ops.toList ops.toList Q st
 |.seq a b,Q,st=>awp a (thn S (awp b Q) Q) st
 |.cond c t e,Q,st=>∃b,Rl (aev st.env c)=some b/\if b then awp t Q st else awp e Q st
 |.block id b,Q,st=>awp b (blk id Q) st
 |.loop b,Q,st=>∃(X:Type) (s:X->St) (J:X->Prop) (m:X->Nat),S.up st (λt=>∃x,t=s x/\J x)/\∀x,J x->awp b (lop S s J m (m x) Q) (s x)
 |.scope b,Q,st=>awp b (scp Q) st
 |.exit id,Q,st=>Q (.exit id) st
 |.goto l,Q,st=>Q (.goto l) st
 |.ret,Q,st=>Q .ret st
 |.rangeFunc g ps asg body,Q,st=>BT5 S P g ps (awp asg) (awp body) Q st
 |.refuse _,_,_=>False
def AX9 (st:St):ResultVar->Option AV
 |.tmp t=>some (get st.env t)
 |.cell a t=>match load P st.Uu t (get st.env a)with
  |some ([],a)=>some a
  |_=>none
def Jv (st:St):List ResultVar->Option (List AV)
 |[]=>some []
 |r::rs=>match AX9 P st r,Jv st rs with
  |some a,some l=>some (a::l)
  |_,_=>none
def one:List AV->AV
 |[a]=>a
 |l=>.tup l
def Yl (args:List AV):Env:=go 0 args []
where
 go (n:Nat):List AV->Env->Env
  |[],acc=>acc
  |a::r,acc=>go (n+1) r ((n,a)::acc)
def Uv (objs:List Obj):C6:=go 0 objs []
where
 go (n:Nat):List Obj->C6->C6
  |[],acc=>acc
  |a::r,acc=>go (n+1) r ((n,a)::acc)
def Jw (n:Nat)(outs:List Nat):List Bool:=(List.range n).map λi=>outs.getD i 1000==i
def Fk (n:Nat)(rs:List ResultVar)(Q:ARes->List Obj->List Bool->Prop):M0
 |.normal,st | .ret,st=>S.up st λst1=>∃l outs a objs,Jv P st1 rs=some l/\I5 outs=true/\Zs outs (one l)=some a/\M9 outs st1.Uu outs=some objs/\Q (.ret a) objs (Jw n outs)
 |.panic x,st=>∃outs objs,I5 outs=true/\M9 outs st.Uu outs=some objs/\Q (.panic x) objs (Jw n outs)
 |_,_=>False
def viewP (Uu:C6):AV->Option PV
 |.p x=>some x
 |.vec j=>match A2 Uu j with
  |some (.vec _ k n f _)=>some (.sl false k n f)
  |_=>none
 |.vecp j m=>match A2 Uu j with
  |some (.vec _ k n f _)=>some (.sl false k (min m n) f)
  |_=>none
 |.clo f [] []=>some (.v (.func (.func f) #[] #[]))
 |.clo f a b=>match Zq a,Zq b with
  |some a,some b=>some (.fn f a b)
  |_,_=>none
 |_=>none
def leP (x y:PV):Prop:= x=y \/ (∃nn k n f g,x=.sl nn k n f/\y=.sl false k n g/\∀i,i<n->f i=g i) \/ (∃k f,x=.v (.slice none 0 0)/\y=.sl false k 0 f) \/ (∃b,x=.v (.bool b)/\y=.bb b) \/ (∃b,x=.bb b/\y=.v (.bool b))
def lk (ids:List (Nat×Nat))(j:Nat):Option Nat:=
 match ids with
 |[]=>none
 |(a,b)::r=>ite (a=j) (some b) (lk r j)
mutual
def leA (Uu:C6)(ids:List (Nat×Nat))(a b:AV):Prop:=
 match b with
 |.top=>True
 |.p y=>∃x,viewP Uu a=some x/\leP x y
 |.reg j off=>∃i,lk ids j=some i/\a=.reg i off
 |.vec j=>(∃i,lk ids j=some i/\a=.vec i) \/ (lk ids j=none/\a=.p (.v (.slice none 0 0)))
 |.vecp j n=>∃i,lk ids j=some i/\a=.vecp i n
 |.elt j k n off=>∃i,lk ids j=some i/\a=.elt i k n off
 |.Uz j=>∃i,lk ids j=some i/\a=.Uz i
 |.clo f x y=>∃x' y',a=.clo f x' y' /\ leL Uu ids x' x/\leL Uu ids y' y
 |.tup l=>∃l',a=.tup l' /\ leL Uu ids l' l
 |.agr l=>∃l',a=.agr l' /\ leL Uu ids l' l
 |.yf j=>∃i,lk ids j=some i/\a=.yf i
def leL (Uu:C6)(ids:List (Nat×Nat))(a b:List AV):Prop:=
 match b with
 |[]=>a=[]
 |y::s=>∃x r,a=x::r/\leA Uu ids x y/\leL Uu ids r s
end
def Rn (Uu:C6)(ids:List (Nat×Nat))(env:Env):Env->Prop
 |[]=>True
 |(t,b)::r=>leA Uu ids (get env t) b/\Rn Uu ids env r
def nov:AV->AV->Bool
 |.p _,.p _|_,.vec _|_,.Uz _|_,.top=>true
 |_,_=>false
def leO (Uu:C6)(ids:List (Nat×Nat))(o p:Obj):Prop:=
 match p with
 |.cells cs=>∃cs',o=.cells cs' /\ leL Uu ids cs' cs
 |.vec e k n f vw=>∃g vw',o=.vec e k n g vw' /\ (∀i,i<n->g i=f i)/\(vw' = true->vw=true)
 |.map es=>o=.map es
 |.arr n f=>∃g,o=.arr n g/\∀i,i<n->g i=f i
 |.blk l jr=>∃jr',o=.blk l jr' /\ lk ids jr=some jr'
 |.ghost cs=>∃cs',o=.ghost cs' /\ leL Uu ids cs' cs
 |.yld r b=>o=.yld r b
 |.fam e n jr x=>∃jr' x',o=.fam e n jr' x' /\ lk ids jr=some jr' /\ match x with
  |none=>x' = none
  |some (i,a)=>∃a',x' = some (i,a')/\nov a' a=true/\leA Uu ids a' a
 |.rows n g=>∃g',o=.rows n g' /\ ∀i,i<n->g' i=g i
 |.dead=>True
def ZD (Uu:C6)(ids:List (Nat×Nat)):C6->Prop
 |[]=>True
 |(j,p)::r=>((∃i o,lk ids j=some i/\A2 Uu i=some o/\leO Uu ids o p) \/ (lk ids j=none/\∃e k f vw,p=.vec e k 0 f vw))/\ZD Uu ids r
def Bo0 {α : Type}:List (Nat × α)->Bool
 |(a,_)::(b,y)::r=>b<a&&Bo0 ((b,y)::r)
 |_=>true
mutual
def inA (js:List Nat)(a:AV):Bool:=
 match a with
 |.p _ | .top=>true
 |.reg j _ | .vec j | .vecp j _ | .elt j _ _ _ | .Uz j | .yf j=>js.contains j
 |.clo _ a b=>inL js a&&inL js b
 |.tup a | .agr a=>inL js a
def inL (js:List Nat)(l:List AV):Bool:=
 match l with
 |[]=>true
 |a::r=>inA js a&&inL js r
end
def inO (js:List Nat):Obj->Bool
 |.cells cs | .ghost cs=>inL js cs
 |.fam _ _ jr x=>js.contains jr&&(match x with|some (_,a)=>inA js a|none=>true)
 |.blk _ jr=>js.contains jr
 |_=>true
def wf (st:St):Bool:= Bo0 st.env&&Bo0 st.Uu&&st.env.all (λp=>inA (st.Uu.map (·.1)) p.2)&&st.Uu.all (λp=>inO (st.Uu.map (·.1)) p.2)
mutual
def MY (a b:AV):List Nat:=
 match b with
 |.p _=>match a with | .vec j | .vecp j _=>[j] | _=>[]
 |.clo _ x y=>match a with | .clo _ x' y'=>Ug x' x++Ug y' y|_=>[]
 |.tup l=>match a with | .tup l'=>Ug l' l|_=>[]
 |.agr l=>match a with | .agr l'=>Ug l' l|_=>[]
 |_=>[]
def Ug (a b:List AV):List Nat:=
 match b with
 |[]=>[]
 |y::s=>match a with
  |x::r=>MY x y++Ug r s
  |[]=>[]
end
def seen (env:Env):Env->List Nat
 |[]=>[]
 |(t,b)::r=>MY (get env t) b++seen env r
def MZ (ids:List (Nat×Nat))(Uu:C6):C6->List Nat
 |[]=>[]
 |(j,.cells cs)::r=>(match lk ids j with
  |some i=>match A2 Uu i with
   |some (.cells cs')=>Ug cs' cs
   |_=>[]
  |none=>[])++MZ ids Uu r
 |(j,.ghost cs)::r=>(match lk ids j with
  |some i=>match A2 Uu i with
   |some (.ghost cs')=>Ug cs' cs
   |_=>[]
  |none=>[])++MZ ids Uu r
 |_::r=>MZ ids Uu r
def Px (ids:List (Nat×Nat))(js:List Nat):C6->Bool
 |[]=>true
 |(j,.vec _ _ _ _ false)::r=>(match lk ids j with|some i=>!js.contains i|none=>true)&&Px ids js r
 |_::r=>Px ids js r
def AK7:List (Nat×Nat)->Bool
 |[]=>true
 |(j,i)::r=>(j==i||1000<=j)&&AK7 r
def Vo (ids:List (Nat×Nat)):C6->Bool
 |[]=>true
 |(j,_)::r=>((lk ids j).isSome||1000<=j)&&Vo ids r
def Le (ids:List (Nat×Nat))(s t:St):Prop:= (wf t=true/\I5 (ids.map (·.2))=true/\AK7 ids=true/\Vo ids t.Uu=true/\Px ids (seen s.env t.env++MZ ids s.Uu t.Uu) t.Uu=true)/\Rn s.Uu ids s.env t.env/\ZD s.Uu ids t.Uu
def frzA (j:Nat)(ps:List PV):AV->AV
 |.reg i o=>if i=j then .p (.ptr (ps.drop o))else .reg i o
 |a=>a
def Bn6 (j:Nat)(ps:List PV):Env->Env
 |[]=>[]
 |(t,a)::r=>(t,frzA j ps a)::Bn6 j ps r
def Bo1 (j n j' : Nat):AV->AV
 |.vecp i m=>if i=j/\m=n then .vec j' else .vecp i m
 |a=>a
def BB8 (j n j' : Nat):Env->Env
 |[]=>[]
 |(t,a)::r=>(t,Bo1 j n j' a)::BB8 j n j' r
def BB9 (j n j' : Nat):List AV->List AV
 |[]=>[]
 |a::r=>Bo1 j n j' a::BB9 j n j' r
def BR0 (j n j' : Nat):Obj->Obj
 |.cells cs=>.cells (BB9 j n j' cs)
 |o=>o
def AC1 (j n j' : Nat):C6->C6
 |[]=>[]
 |(t,o)::r=>(t,BR0 j n j' o)::AC1 j n j' r
def Bo2 (n:Nat)(f:Nat->PV):List AV:=(List.range n).map λi=>.p (f i)
inductive leQ:PV->PV->Prop
 |p {x y:PV}(h:leP x y):leQ x y
 |sl {nn:Bool}{k n:Nat}{f g:Nat->List PV}(hl:∀i,i<n->(f i).length=(g i).length) (h:∀i j,i<n->leQ ((f i).getD j default) ((g i).getD j default)):leQ (.sl nn k n f) (.sl false k n g)
 |agg {xs ys:List PV}(hl:xs.length=ys.length) (h:∀j,leQ (xs.getD j default) (ys.getD j default)):leQ (.agg xs) (.agg ys)
def leC (l m:List PV):Prop:=l.length=m.length/\∀j,leQ (l.getD j default) (m.getD j default)
def ZE:List AV->List AV->Prop
 |[],[]=>True
 |a::r,b::s=>(a=b \/ ∃x y,a=.p x/\b=.p y/\leQ x y)/\ZE r s
 |_,_=>False
inductive Xg where
 |fam (j jr:Nat) (g:Nat->Obj)
 |take (j i j' : Nat)
 |over (j i:Nat)
 |put (j jr:Nat)
 |psh (j jr:Nat)
 |pub (j:Nat)
def Ro (f:List PV):Obj->Prop
 |.vec _ _ 0 _ false=>f=[.v (.slice none 0 0)]
 |.ghost [.p x]=>f=[x]/\Mn x=true
 |_=>False
def rowA (j' : Nat):Obj->Option (AV×Obj)
 |.vec e k n f false=>some (.vec j', .vec e k n f false)
 |.map es=>some (.Uz j', .map es)
 |.ghost [.p x]=>some (.p x,.dead)
 |_=>none
def ofA (Uu:C6):AV->Option (Option Nat×Obj)
 |.vec j'=>match A2 Uu j' with
  |some (.vec e k l f false)=>some (some j', .vec e k l f false)
  |_=>none
 |.Uz j'=>match A2 Uu j' with
  |some (.map es)=>some (some j', .map es)
  |_=>none
 |.p x=>some (none,.ghost [.p x])
 |_=>none
def Ao2 (jo:Option Nat)(Uu:C6):C6:=match jo with
 |some j=>ins j .dead Uu
 |none=>Uu
def X6 (op:Xg)(st:St):Option (List Prop×St):=
 match op with
 |.fam j jr g=>match A2 st.Uu j,A2 st.Uu jr with
  |some (.vec e 1 n f false),none=>some ([1000<=jr/\∀i,i<n->Ro (f i) (g i)],⟨st.env,ins jr (.rows n g) (ins j (.fam e n jr none) st.Uu)⟩)
  |_,_=>none
 |.take j i j'=>match A2 st.Uu j,A2 st.Uu j' with
  |some (.fam e n jr none),none=>match A2 st.Uu jr with
   |some (.rows m g)=>match rowA j' (g i)with
    |some (a,o)=>some ([(1000<=j' /\ m=n)/\i<n],⟨st.env,ins j' o (ins jr (.rows n λl=>ite (l=i) (.dead) (g l)) (ins j (.fam e n jr (some (i,a))) st.Uu))⟩)
    |none=>none
   |_=>none
  |_,_=>none
 |.over j i=>match A2 st.Uu j with
  |some (.fam e n jr none)=>match A2 st.Uu jr with
   |some (.rows m g)=>some ([m=n/\i<n],⟨st.env,ins jr (.rows n λl=>ite (l=i) (.dead) (g l)) (ins j (.fam e n jr (some (i,.top))) st.Uu)⟩)
   |_=>none
  |_=>none
 |.put j jr'=>match A2 st.Uu j,A2 st.Uu jr' with
  |some (.fam e n jr (some (i,a))),none=>match A2 st.Uu jr,ofA st.Uu a with
   |some (.rows m g),some (jo,o)=>some ([(1000<=jr' /\ m=n)/\i<n],⟨st.env,ins jr' (.rows n λq=>ite (q=i) o (g q)) (Ao2 jo (ins jr .dead (ins j (.fam e n jr' none) st.Uu)))⟩)
   |_,_=>none
  |_,_=>none
 |.psh j jr'=>match A2 st.Uu j,A2 st.Uu jr' with
  |some (.fam e n jr (some (i,a))),none=>match A2 st.Uu jr,ofA st.Uu a with
   |some (.rows m g),some (jo,o)=>some ([1000<=jr' /\ n=m+1/\i=m],⟨st.env,ins jr' (.rows (m+1) λq=>ite (q=m) o (g q)) (Ao2 jo (ins jr .dead (ins j (.fam e (m+1) jr' none) st.Uu)))⟩)
   |_,_=>none
  |_,_=>none
 |.pub j=>match A2 st.Uu j with
  |some (.fam e n jr none)=>match A2 st.Uu jr with
   |some (.rows m g)=>some ([m=n/\∀i,i<n->(Xf (g i)).isSome=true],⟨st.env,ins jr .dead (ins j (.vec e 1 n (λi=>[(Xf (g i)).getD default]) false) st.Uu)⟩)
   |_=>none
  |_=>none
def Xh (a b:AV):Prop:=a=.top \/ a=b \/ ∃x,a=.p (.bb x)/\b=.p (.v (.bool x))
structure H3:Prop where
 refl:∀s K,K s->S.up s K
 trans:∀s K,S.up s (λt=>S.up t K)->S.up s K
 mono:∀s K K',(∀t,K t->K' t)->S.up s K->S.up s K'
 bool:∀(st:St) (t:Nat) (b:Bool) K,get st.env t=.p (.bb b)->K ⟨ins t (.p (.v (.bool b))) st.env,st.Uu⟩->S.up st K
 nil:∀(st:St) (t:Nat) (k n:Nat) (f:Nat->List PV) K,get st.env t=.p (.sl false k n f) ->
  (n=0->K ⟨ins t (.p (.v (.slice none 0 0))) st.env,st.Uu⟩)->K ⟨ins t (.p (.sl true k n f)) st.env,st.Uu⟩->S.up st K
 frz:∀(st:St) (j:Nat) (ps:List PV) K,A2 st.Uu j=some (.cells (ps.map .p))->K ⟨Bn6 j ps st.env,ins j .dead st.Uu⟩->S.up st K
 trunc:∀(st:St) (j j' n N k:Nat) (e:TypeId) (f:Nat->List PV) K,A2 st.Uu j=some (.vec e k N f false)->n<=N->A2 st.Uu j' = none->1000<=j' -> K ⟨BB8 j n j' st.env,ins j' (.vec e k n f false) (ins j .dead (AC1 j n j' st.Uu))⟩->S.up st K
 toArr:∀(st:St) (j n:Nat) (f:Nat->PV) K,A2 st.Uu j=some (.cells (Bo2 n f))->K ⟨st.env,ins j (.arr n f) st.Uu⟩->S.up st K
 ofArr:∀(st:St) (j n:Nat) (f:Nat->PV) K,A2 st.Uu j=some (.arr n f)->K ⟨st.env,ins j (.cells (Bo2 n f)) st.Uu⟩->S.up st K
 pq:∀(st:St) (t:Nat) (x y:PV) K,get st.env t=.p x->leQ x y->K ⟨ins t (.p y) st.env,st.Uu⟩->S.up st K
 vecq:∀(st:St) (j n k:Nat) (e:TypeId) (f g:Nat->List PV) (vw:Bool) K,A2 st.Uu j=some (.vec e k n f vw)->(∀i,i<n->leC (f i) (g i))->K ⟨st.env,ins j (.vec e k n g vw) st.Uu⟩->S.up st K
 le:∀ids s t K,Le ids s t->K t->S.up s K
 fam:∀(op:Xg) (s t:St) (c:List Prop) K,X6 op s=some (c,t)->D2 c->K t->S.up s K
 less:∀(s t:St) K,(∀x,Xh (get t.env x) (get s.env x))->(∀j,A2 s.Uu j=A2 t.Uu j)->K t->S.up s K
 eqv:∀(s t:St) K,(∀x,get s.env x=get t.env x)->(∀j,A2 s.Uu j=A2 t.Uu j)->K t->S.up s K
 func:∀f fn code args objs Q,P.funcs[f]? = some fn->fn.body=some code->(fn.name == "runtime.NumGoroutine")=false->BV fn.ntmps code=true->args.length<=fn.ntmps->objs.length<1000 ->
  S.up { env:=Yl args,Uu:=Uv objs } (awp S P code (Fk S P objs.length fn.results.toList Q))->S.F f args objs Q
 argLe:∀f args args' objs Q,ZE args args' -> S.F f args' objs Q->S.F f args objs Q
 monoF:∀f args objs Q Q',(∀r o y,Q r o y->Q' r o y)->S.F f args objs Q->S.F f args objs Q'
end Go.AM
namespace Go.AM
universe u
def fC {R:Type u}(c:List Prop)(d:List Prop)(κ : List Prop->R):R:=
 match c with
 |[]=>κ d
 |p::r=>fC r d λd=>κ (p::d)
def BT6 {R:Type u}(c d:List Prop)(κ : List Prop->R):fC c d κ = κ (c++d):=by
 induction c generalizing κ with
 |nil=>rfl
 |cons p r ih=>grind[fC]
def fP {R:Type u}(x:PV)(κ : PV->R):R:=
 match x with
 |.v x=>match x with
  |.bool b=>κ (.v (.bool b))
  |.int k n=>κ (.v (.int k n))
  |x=>κ (.v x)
 |.bb b=>κ (.bb b)
 |.str l=>κ (.str l)
 |.agg cs=>κ (.agg cs)
 |.sl nn k n f=>κ (.sl nn k n f)
 |.ptr cs=>κ (.ptr cs)
 |.iface t a=>κ (.iface t a)
 |.fn f a b=>κ (.fn f a b)
mutual
def fA {R:Type u}(a:AV)(κ : AV->R):R:=
 match a with
 |.p x=>fP x λx=>κ (.p x)
 |.reg j off=>κ (.reg j off)
 |.vec j=>κ (.vec j)
 |.vecp j n=>κ (.vecp j n)
 |.elt j k i off=>κ (.elt j k i off)
 |.Uz j=>κ (.Uz j)
 |.clo f a b=>fL a λa=>fL b λb=>κ (.clo f a b)
 |.tup l=>fL l λl=>κ (.tup l)
 |.agr l=>fL l λl=>κ (.agr l)
 |.yf j=>κ (.yf j)
 |.top=>κ .top
def fL {R:Type u}(l:List AV)(κ : List AV->R):R:=
 match l with
 |[]=>κ []
 |a::r=>fA a λa=>fL r λr=>κ (a::r)
end
def fO {R:Type u}(o:Obj)(κ : Obj->R):R:=
 match o with
 |.cells cs=>fL cs λcs=>κ (.cells cs)
 |.vec e k n f vw=>κ (.vec e k n f vw)
 |.map es=>κ (.map es)
 |.arr n f=>κ (.arr n f)
 |.blk l jr=>κ (.blk l jr)
 |.ghost cs=>fL cs λcs=>κ (.ghost cs)
 |.yld r b=>κ (.yld r b)
 |.fam e n jr x=>match x with
  |none=>κ (.fam e n jr none)
  |some (i,a)=>fA a λa=>κ (.fam e n jr (some (i,a)))
 |.rows n g=>κ (.rows n g)
 |.dead=>κ .dead
def fR {R:Type u}(l:C6)(κ : C6->R):R:=
 match l with
 |[]=>κ []
 |(j,o)::r=>fO o λo=>fR r λr=>κ ((j,o)::r)
def fE {R:Type u}(l:Env)(κ : Env->R):R:=
 match l with
 |[]=>κ []
 |(j,o)::r=>fA o λo=>fE r λr=>κ ((j,o)::r)
def AY0 {α : Type}{R:Type u}(k:Nat)(a : α)(l:List (Nat × α))(κ : List (Nat × α)->R):R:=
 match l with
 |[]=>κ [(k,a)]
 |(i,b)::r=>ite (i<k) (κ ((k,a)::(i,b)::r)) (ite (i=k) (κ ((k,a)::r)) (AY0 k a r λr=>κ ((i,b)::r)))
def fP_eq {R:Type u}(x:PV)(κ : PV->R):fP x κ = κ x:=by
 cases x<;>try rfl
 rename_i x;cases x<;>rfl
mutual
theorem AK8 {R:Type u}(a:AV)(κ : AV->R):fA a κ = κ a:=by cases a<;>simp only[fA,fP_eq,BG9]
theorem BG9 {R:Type u}(l:List AV)(κ : List AV->R):fL l κ = κ l:=by
 cases l with
 |nil=>rfl
 |cons a r=>simp only[fL,AK8 a,BG9 r]
end
theorem fO_eq {R:Type u}(o:Obj)(κ : Obj->R):fO o κ = κ o:=by
 cases o<;>simp only[fO,BG9]
 grind[AK8]
theorem BH0 {R:Type u}(l:C6)(κ : C6->R):fR l κ = κ l:=by
 induction l generalizing κ with
 |nil=>rfl
 |cons a r ih=>grind[fR,fO_eq]
theorem fE_eq {R:Type u}(l:Env)(κ : Env->R):fE l κ = κ l:=by
 induction l generalizing κ with
 |nil=>rfl
 |cons a r ih=>grind[fE,AK8]
def Mo {α : Type}{R:Type u}(k:Nat)(a : α)(l:List (Nat × α))(κ : List (Nat × α)->R):AY0 k a l κ = κ (ins k a l):=by
 induction l generalizing κ with
 |nil=>rfl
 |cons p r ih=>grind[AY0,ins]
def BH1:AV->Option Bool
 |.p (.v (.bool b))=>some b
 |_=>none
def Vp {a:AV}{b:Bool}(h:BH1 a=some b):Rl a=some b:=by unfold BH1 at h;grind[Rl]
def ZF (want:Bool):AV->Option Bool
 |.p (.v (.bool true))=>some want
 |.p (.v (.bool false))=>some (!want)
 |.p (.v (.tuple _))=>some false
 |_=>none
theorem ZG {want b:Bool}{a:AV}(h:ZF want a=some b):∃v,yv a=some v/\(b=true↔v=some want):=by
 unfold ZF at h;split at h
 .cases h;exact⟨_,rfl,by cases want<;>simp⟩
 .cases h;exact⟨_,rfl,by cases want<;>simp⟩
 .cases h;exact⟨_,rfl,by simp⟩
 grind
inductive It:Type 1 where
 |code (c:Code)
 |blk (id:Nat)
 |lp (X:Type) (s:X->St) (J:X->Prop) (m:X->Nat) (n:Nat)
 |mid (M:St->Prop)
 |scp
section
variable (S:X4) (P:Program)
def kp:List It->M0->M0
 |[],F=>F
 |.code c::K,F=>thn S (awp S P c (kp K F)) (kp K F)
 |.blk id::K,F=>blk id (kp K F)
 |.lp _ s J m n::K,F=>lop S s J m n (kp K F)
 |.mid M::K,F=>thn S M (kp K F)
 |.scp::K,F=>scp (kp K F)
inductive Cfg:Type 1 where
 |code (c:Code) (K:List It) (st:St)
 |ops (all rest:List Oper) (K:List It) (st:St)
 |pop (e:Rk) (K:List It) (st:St)
def G (F:M0):Cfg->Prop
 |.code c K st=>awp S P c (kp S P K F) st
 |.ops all rest K st=>Lj S P all rest (kp S P K F) st
 |.pop e K st=>kp S P K F e st
structure Res:Type 1 where
 conds:List Prop
 cfg:Cfg
def BR1:Op->Bool
 |.lookup .. | .mapUpdate .. | .mapEntry .. | .entryStore .. | .panic _ | .next ..=>false
 |.call { callee:=.builtin _,.. }=>true
 |.call _=>false
 |_=>true
def isAt:Option Nat->Option Nat->Bool
 |some d,some e=>Nat.beq d e
 |_,_=>false
def Bo3 (P:Program)(u:Option Nat)(all:List Oper)(K:List It):List Oper->List Prop->Env->C6->(List Prop->St->Res)->Res
 |[],c,env,Uu,κ=>κ c ⟨env,Uu⟩
 |o::rest,c,env,Uu,κ=>
  match isAt u o.dst with
  |true=>⟨c,.ops all (o::rest) K ⟨env,Uu⟩⟩
  |false=>match (match o.guard with
   |none=>some true
   |some (j,want)=>ZF want (get env (Id all j)):Option Bool)with
  |some true=>match BR1 o.op with
   |true=>match aop P env Uu (o.dst.getD 0) o.op with
    |none=>⟨c,.ops all (o::rest) K ⟨env,Uu⟩⟩
    |some ⟨p,v,regs'⟩=>fA v λv=>fR regs' λregs'=>fC p c λc=>
     match o.dst with
     |some d=>AY0 d v env λenv=>Bo3 P u all K rest c env regs' κ
     |none=>Bo3 P u all K rest c env regs' κ
   |false=>⟨c,.ops all (o::rest) K ⟨env,Uu⟩⟩
  |some false=>match o.dst with
   |some d=>AY0 d Dm env λenv=>Bo3 P u all K rest c env Uu κ
   |none=>Bo3 P u all K rest c env Uu κ
  |none=>⟨c,.ops all (o::rest) K ⟨env,Uu⟩⟩
def run (P:Program)(u:Option Nat):Nat->List Prop->Cfg->Res
 |0,c,g=>⟨c,g⟩
 |n+1,c,g=>
  match g with
  |.code x K st=>match x with
   |.skip=>run P u n c (.pop .normal K st)
   |.label _=>run P u n c (.pop .normal K st)
   |.region _ ops false=>Bo3 P u ops.toList K ops.toList c st.env st.Uu λc st=>run P u n c (.pop .normal K st)
   |.seq a b=>run P u n c (.code a (.code b::K) st)
   |.cond o t e=>match BH1 (aev st.env o)with
    |some true=>run P u n c (.code t K st)
    |some false=>run P u n c (.code e K st)
    |none=>⟨c,.code (.cond o t e) K st⟩
   |.block id b=>run P u n c (.code b (.blk id::K) st)
   |.scope b=>run P u n c (.code b (.scp::K) st)
   |.exit id=>run P u n c (.pop (.exit id) K st)
   |.ret=>run P u n c (.pop .ret K st)
   |x=>⟨c,.code x K st⟩
  |.ops all rest K st=>Bo3 P u all K rest c st.env st.Uu λc st=>run P u n c (.pop .normal K st)
  |.pop e K st=>match e,K with
   |.normal,.code x::K=>run P u n c (.code x K st)
   |.normal,.blk _::K=>run P u n c (.pop .normal K st)
   |.normal,.scp::K=>run P u n c (.pop .normal K st)
   |.exit i,.blk id::K=>if i=id then run P u n c (.pop .normal K st)else run P u n c (.pop (.exit i) K st)
   |.exit i,.code _::K=>run P u n c (.pop (.exit i) K st)
   |.exit i,.lp _ _ _ _ _::K=>run P u n c (.pop (.exit i) K st)
   |.exit i,.mid _::K=>run P u n c (.pop (.exit i) K st)
   |.exit i,.scp::K=>run P u n c (.pop (.exit i) K st)
   |.ret,_::K=>run P u n c (.pop .ret K st)
   |.panic x,_::K=>run P u n c (.pop (.panic x) K st)
   |e,K=>⟨c,.pop e K st⟩
end
section
variable {S:X4}{P:Program}{F:M0}
def QW {o:Oper}{k:St->Prop}{Q:M0}{st:St}{p:List Prop}{v:AV}{regs' : C6}(ha:BR1 o.op=true)
 (h:aop P st.env st.Uu (o.dst.getD 0) o.op=some ⟨p,v,regs'⟩) (hp:D2 p) (hk:k (put { st with Uu:=regs' } o.dst v)):wOp S P o k Q st:=by
 unfold wOp
 grind[BR1]
def AY1 {u:Option Nat}(hS:H3 S P)(all:List Oper)(K:List It)(κ : List Prop->St->Res)
 (hκ : ∀c st,D2 (κ c st).conds->D2 c/\(G S P F (κ c st).cfg->kp S P K F .normal st)) :
 ∀(rest:List Oper) (c:List Prop) (env:Env) (Uu:C6),D2 (Bo3 P u all K rest c env Uu κ).conds ->
  D2 c/\(G S P F (Bo3 P u all K rest c env Uu κ).cfg->Lj S P all rest (kp S P K F) ⟨env,Uu⟩):=by
 intro rest
 induction rest with
 |nil=>intro c env Uu h;exact hκ _ _ h
 |cons o rest ih=>
  intro c env Uu h;simp only[Bo3]at h⊢;cases m:isAt u o.dst with
  |true=>simp only[m]at h⊢;exact⟨h,λhw=>hw⟩
  |false=>
  simp only[m]at h⊢;have f:∀(b:Bool),(match o.guard with
   |none=>some true
   |some (j,want)=>ZF want (get env (Id all j)):Option Bool)=some b ->
    ((b=true->wOp S P o (Lj S P all rest (kp S P K F)) (kp S P K F) ⟨env,Uu⟩->Lj S P all (o::rest) (kp S P K F) ⟨env,Uu⟩) /\
     (b=false->Lj S P all rest (kp S P K F) (put ⟨env,Uu⟩ o.dst Dm)->Lj S P all (o::rest) (kp S P K F) ⟨env,Uu⟩)):=by
   intro b hb;cases l:o.guard with
   |none=>simp only[l]at hb;cases hb;exact⟨λ_ hw=>by simp only[Lj];refine hS.refl _ _ ?_;grind,λh=>by cases h⟩
   |some q=>
    obtain⟨j,want⟩:=q;simp only[l]at hb;obtain⟨v,r,n⟩:=ZG hb;refine⟨λht hw=>?_,λs hw=>?_⟩
    .simp only[Lj];refine hS.refl _ _ ?_
     grind
    simp only[Lj];refine hS.refl _ _ ?_
    grind
  split at h
  .rename_i hb;have f:=(f true (by simpa using hb)).1 rfl
   try simp only[hb]
   split at h
   .rename_i ha
    try simp only[ha]
    split at h
    .rename_i hn
     try simp only[hn]
     exact⟨h,λhw=>hw⟩
    rename_i p v regs' hs;simp only[AK8,BH0,BT6]at h⊢;cases a:o.dst with
    |some d=>simp only[a,Mo]at h⊢;obtain⟨g,hk⟩:=ih _ _ _ h;obtain⟨hc,hp⟩:=(FQ _ _).1 g;refine⟨hc,λi=>f (QW ha hs hp ?_)⟩;rw[a];exact hk i
    |none=>simp only[a]at h⊢;obtain⟨g,hk⟩:=ih _ _ _ h;obtain⟨hc,hp⟩:=(FQ _ _).1 g;refine⟨hc,λi=>f (QW ha hs hp ?_)⟩;rw[a];exact hk i
   rename_i ha
   try simp only[ha]
   exact⟨h,λhw=>hw⟩
  .rename_i hb;have f:=(f false (by simpa using hb)).2 rfl
   try simp only[hb]
   cases a:o.dst with
   |some d=>simp only[a,Mo]at h⊢;obtain⟨hc,hk⟩:=ih _ _ _ h;exact⟨hc,λi=>f (by rw[a];exact hk i)⟩
   |none=>simp only[a]at h⊢;obtain⟨hc,hk⟩:=ih _ _ _ h;exact⟨hc,λi=>f (by rw[a];exact hk i)⟩
  rename_i hb
  try simp only[hb]
  exact⟨h,λhw=>hw⟩
def Ig {u:Option Nat}(hS:H3 S P):∀(n:Nat) (c:List Prop) (g:Cfg),D2 (run P u n c g).conds->D2 c/\(G S P F (run P u n c g).cfg->G S P F g):=by
 intro n
 induction n with
 |zero=>intro c g h;exact⟨h,λhw=>hw⟩
 |succ n ih=>
  intro c g h;simp only[run]at h⊢;cases g with
  |code x K st=>
   cases x with
   |skip=>exact ih _ _ h
   |label l=>exact ih _ _ h
   |region id ops draw=>
    cases draw with
    |false=>
     obtain⟨hc,hk⟩:=AY1 (S:=S) (F:=F) hS ops.toList K _ (λc st h=>ih c (.pop .normal K st) h) _ _ _ _ h
     simp_all[G,awp]
    |true=>grind
   |seq a b=>exact ih _ _ h
   |cond o t e=>
    simp only at h⊢;split at h
    .rename_i d;try simp only[d]
     obtain⟨hc,hk⟩:=ih _ _ h;exact⟨hc,λf=>⟨true,Vp d,hk f⟩⟩
    .rename_i d;try simp only[d]
     obtain⟨hc,hk⟩:=ih _ _ h;exact⟨hc,λf=>⟨false,Vp d,hk f⟩⟩
    grind
   |block id b=>exact ih _ _ h
   |scope b=>exact ih _ _ h
   |exit id=>exact ih _ _ h
   |ret=>exact ih _ _ h
   |loop b=>grind
   |goto l=>grind
   |rangeFunc g ps asg body=>grind
   |refuse w=>grind
  |ops all rest K st=>exact AY1 (S:=S) (F:=F) hS all K _ (λc st h=>ih c (.pop .normal K st) h) _ _ _ _ h
  |pop e K st=>
   cases e with
   |normal=>
    cases K with
    |nil=>grind
    |cons i K=>
     cases i with
     |code x=>obtain⟨hc,hk⟩:=ih _ _ h;exact⟨hc,λf=>hS.refl _ _ (hk f)⟩
     |blk id=>exact ih _ _ h
     |lp X s J m k=>grind
     |mid M=>grind
     |scp=>exact ih _ _ h
   |exit j=>
    cases K with
    |nil=>grind
    |cons i K=>
     cases i with
     |code x=>exact ih _ _ h
     |blk id=>
      simp only at h⊢;by_cases q:j=id
      .simp only[q,Lo]at h⊢;obtain⟨hc,hk⟩:=ih _ _ h
       simp_all[G,kp,blk,Lo]
      simp only[q,Lp]at h⊢;obtain⟨hc,hk⟩:=ih _ _ h
      simp_all[G,kp,blk,Lp]
     |lp X s J m k=>exact ih _ _ h
     |mid M=>exact ih _ _ h
     |scp=>exact ih _ _ h
   |ret=>
    cases K with
    |nil=>grind
    |cons i K=>cases i<;>exact ih _ _ h
   |panic x=>
    cases K with
    |nil=>grind
    |cons i K=>cases i<;>exact ih _ _ h
   |goto l=>cases K<;>exact⟨h,λhw=>hw⟩
def go (hS:H3 S P){g g' : Cfg}{c:List Prop}(h:run P none 400 [] g=⟨c,g'⟩)(hc:D2 c)(hk:G S P F g'):G S P F g:=by
 have:=Ig (F:=F) hS 400 [] g (by rw[h];omega)
 rw[h]at this
 grind
end
def Uw (S:X4)(f:FuncId)(args:List AV)(objs:List Obj)(r:AV)(objs' : List Obj)(ks:List Bool):Prop:= S.F f args objs λres o k=>res=.ret r/\o=objs' /\ k=ks
def ZH (S:X4)(f:FuncId)(args:List AV)(r:AV):Prop:=Uw S f args [] r [] []
def Uw.le {S:X4}{P:Program}(hS:H3 S P){f:FuncId}{args args' : List AV}{objs:List Obj}{r:AV}{objs' : List Obj}{ks:List Bool}(h:ZE args args')(a:Uw S f args' objs r objs' ks):Uw S f args objs r objs' ks:=hS.argLe _ _ _ _ _ h a
def Na {nn:Bool}{k n m:Nat}{f g:Nat->List PV}(hn:n=m)(h:∀i,i<n->f i=g i):AV.p (.sl nn k n f)=.p (.sl false k m g) \/ ∃x y,AV.p (.sl nn k n f)=.p x/\AV.p (.sl false k m g)=.p y/\leQ x y:=by subst hn;exact .inr ⟨_,_,rfl,rfl,.p (.inr (by grind))⟩
def Cc2:leC [] []:=⟨rfl,λ_=>.p (.inl rfl)⟩
def leCq {x y:PV}{xs ys:List PV}(h:leQ x y)(hs:leC xs ys):leC (x::xs) (y::ys):=
 ⟨by rw[Ch8,Ch8,hs.1],λj=>by cases j with
  |zero=>exact h
  |succ j=>exact hs.2 j⟩
def Ih {x y:PV}{xs ys:List PV}(h:leP x y)(hs:leC xs ys):leC (x::xs) (y::ys):=leCq (.p h) hs
def BT7 {k:Nat}{g:Nat->List PV}:leP (.v (.slice none 0 0)) (.sl false k 0 g):=.inr (by grind)
def lePT {b:Bool}:leP (.v (.bool b)) (.bb b):=.inr (by grind)
def BT8 {xs ys:List PV}(h:leC xs ys):AV.p (.agg xs)=.p (.agg ys) \/ ∃x y,AV.p (.agg xs)=.p x/\AV.p (.agg ys)=.p y/\leQ x y:=.inr ⟨_,_,rfl,rfl,.agg h.1 h.2⟩
def BW (all:List Oper)(env:Env)(o:Oper):Option Bool:=
 match o.guard with
 |none=>some true
 |some (j,want)=>ZF want (get env (Id all j))
section
variable {S:X4}{P:Program}{F:M0}{K:List It}{st:St}
def BX (hS:H3 S P){all rest:List Oper}{o:Oper}{Q:M0}(a:BW all st.env o=some true)
 (h:wOp S P o (Lj S P all rest Q) Q st):Lj S P all (o::rest) Q st:=by
 unfold BW at a;simp only[Lj];refine hS.refl _ _ ?_
 grind[ZG]
def BT9 {c:Operand}{t e:Code}{b:Bool}(hc:aev st.env c=.p (.bb b))
 (ht:b=true->G S P F (.code t K st)) (a:b=false->G S P F (.code e K st)):G S P F (.code (.cond c t e) K st):=by
 refine⟨b,by rw[hc];rfl,?_⟩;cases b
 .exact a rfl
 exact ht rfl
def ZI (hS:H3 S P){all rest:List Oper}{o:Oper}(hle:S.up st λst1=>G S P F (.ops all (o::rest) K st1)):G S P F (.ops all (o::rest) K st):=
 hS.trans _ _ hle
def BU0 (all:List Oper)(j:Nat):Option Nat:=match all[j]? with
 |some o=>o.dst
 |none=>none
theorem BH2 (hS:H3 S P){all rest:List Oper}{o:Oper}{j d:Nat}{want b:Bool}(_hg:o.guard=some (j,want))(a:BU0 all j=some d)(hb:get st.env d=.p (.bb b))
 (ht:b=true->G S P F (.ops all (o::rest) K ⟨ins d (.p (.v (.bool true))) st.env,st.Uu⟩))
 (c:b=false->G S P F (.ops all (o::rest) K ⟨ins d (.p (.v (.bool false))) st.env,st.Uu⟩)):G S P F (.ops all (o::rest) K st):=by
 refine ZI hS (hS.bool st _ b _ hb ?_);cases b
 all_goals grind
def BU1 (hS:H3 S P){all rest:List Oper}{o:Oper}(t:Nat){k n:Nat}{f:Nat->List PV}(hb:get st.env t=.p (.sl false k n f))
 (ht:n=0->G S P F (.ops all (o::rest) K ⟨ins t (.p (.v (.slice none 0 0))) st.env,st.Uu⟩))
 (a:G S P F (.ops all (o::rest) K ⟨ins t (.p (.sl true k n f)) st.env,st.Uu⟩)):G S P F (.ops all (o::rest) K st):=
 ZI hS (hS.nil st t k n f _ hb ht a)
def BC0 (hS:H3 S P){all rest:List Oper}{o:Oper}{out:Out}(a:BW all st.env o=some true)(ha:aop P st.env st.Uu (o.dst.getD 0) o.op=some out)
 (hn:∀c,o.op=.call c->∃b,c.callee=.builtin b) (hp:∀x,o.op ≠ .panic x) (hc:D2 out.cond)
 (hk:G S P F (.ops all rest K (put { st with Uu:=out.Uu } o.dst out.val))):G S P F (.ops all (o::rest) K st):=by
 refine BX hS a ?_;unfold wOp;split
 .grind
 .grind
 .grind
 .grind[aop]
 exact .inl ⟨_,ha,hc,hk⟩
theorem BH3 (hS:H3 S P){all rest:List Oper}{o:Oper}{c:Call}{f:Operand}{as:List AV}{Uu:C6}{fn:FuncId}{as' args:List AV}{objs objs' : List Obj}{ks:List Bool}{r:AV}(ids:List Nat)
 (d:BW all st.env o=some true) (g:o.op=.call c) (b:c.callee=.value f) (ha:Jt st.Uu (c.args.toList.map (aev st.env))=some (as,Uu))
 (hw:Zt st.env f as=some (fn,as')) (i:Fc ids as' = some args) (a:M9 ids Uu ids=some objs) (j:Uw S fn args objs r objs' ks)
 (l:I5 ids=true) (hy:GM objs=true) (hn:Z6 Uu ids ks (o.dst.getD 0) objs'.length=true)
 (hk:G S P F (.ops all rest K (put { env:=st.env,Uu:=back (I3 (o.dst.getD 0) ids ks objs'.length) (I3 (o.dst.getD 0) ids ks objs'.length) objs' (K9 ids ks Uu) } o.dst (unA (I3 (o.dst.getD 0) ids ks objs'.length) r)))) :
 G S P F (.ops all (o::rest) K st):=by
 refine BX hS d ?_;unfold wOp;obtain⟨callee,cargs,types⟩:=c;simp only at b ha;subst b;rw[g];refine .inl ⟨as,Uu,_,_,.inl ha,hw,ids,args,objs,l,i,a,hy,hS.monoF _ _ _ _ _ ?_ j⟩;rintro _ _ _ ⟨rfl,rfl,rfl⟩;exact⟨hn,hk⟩
theorem BH4 (hS:H3 S P){all rest:List Oper}{o:Oper}{c:Call}{f:Operand}{fn:FuncId}{as' args:List AV}{objs objs' : List Obj}{ks:List Bool}{r:AV}(ids:List Nat)
 (d:BW all st.env o=some true) (g:o.op=.call c) (b:c.callee=.value f)
 (hw:Zt st.env f (c.args.toList.map (aev st.env))=some (fn,as')) (i:Fc ids as' = some args) (a:M9 ids st.Uu ids=some objs) (j:Uw S fn args objs r objs' ks)
 (l:I5 ids=true) (hy:GM objs=true) (hn:Z6 st.Uu ids ks (o.dst.getD 0) objs'.length=true)
 (hk:G S P F (.ops all rest K (put { env:=st.env,Uu:=back (I3 (o.dst.getD 0) ids ks objs'.length) (I3 (o.dst.getD 0) ids ks objs'.length) objs' (K9 ids ks st.Uu) } o.dst (unA (I3 (o.dst.getD 0) ids ks objs'.length) r)))) :
 G S P F (.ops all (o::rest) K st):=by
 refine BX hS d ?_;unfold wOp;obtain⟨callee,cargs,types⟩:=c;simp only at b hw;subst b;rw[g];refine .inl ⟨_,st.Uu,_,_,.inr ⟨rfl,rfl⟩,hw,ids,args,objs,l,i,a,hy,hS.monoF _ _ _ _ _ ?_ j⟩;rintro _ _ _ ⟨rfl,rfl,rfl⟩;exact⟨hn,hk⟩
def AC2 (hS:H3 S P){b:Code}{X:Type}(s:X->St)(J:X->Prop)(m:X->Nat)(x0:X)(ids:List (Nat×Nat))(hle:Le ids st (s x0))(a:J x0)
 (c:∀x,J x->G S P F (.code b (.lp X s J m (m x)::K) (s x))):G S P F (.code (.loop b) K st):=
 ⟨X,s,J,m,hS.le ids _ _ _ hle ⟨x0,rfl,a⟩,c⟩
def Ao3 (hS:H3 S P){X:Type}{s:X->St}{J:X->Prop}{m:X->Nat}{n:Nat}(x:X)(ids:List (Nat×Nat))(hle:Le ids st (s x))(a:J x)(hm:m x<n) :G S P F (.pop .normal (.lp X s J m n::K) st):=hS.le ids _ _ _ hle ⟨x,rfl,a,hm⟩
def le_p {Uu:C6}{ids:List (Nat×Nat)}{a:AV}{y:PV}(h:viewP Uu a=some y):leA Uu ids a (.p y):=by unfold leA;exact⟨y,h,.inl rfl⟩
def le_sl {Uu:C6}{ids:List (Nat×Nat)}{a:AV}{nn:Bool}{k n:Nat}{f g:Nat->List PV}(h:viewP Uu a=some (.sl nn k n f))(b:∀i,i<n->f i=g i):leA Uu ids a (.p (.sl false k n g)):=by unfold leA;exact⟨_,h,.inr (by grind)⟩
def le_nil {Uu:C6}{ids:List (Nat×Nat)}{k:Nat}{f:Nat->List PV}:leA Uu ids (.p (.v (.slice none 0 0))) (.p (.sl false k 0 f)):=by unfold leA;exact⟨_,rfl,.inr (by grind)⟩
def BU2 {Uu:C6}{ids:List (Nat×Nat)}{i j:Nat}(h:lk ids j=some i):leA Uu ids (.vec i) (.vec j):=by unfold leA;exact .inl ⟨i,h,rfl⟩
def BH5 {Uu:C6}{ids:List (Nat×Nat)}{j:Nat}(h:lk ids j=none):leA Uu ids (.p (.v (.slice none 0 0))) (.vec j):=by unfold leA;exact .inr ⟨h,rfl⟩
def BU3 {Uu:C6}{ids:List (Nat×Nat)}{i j off:Nat}(h:lk ids j=some i):leA Uu ids (.reg i off) (.reg j off):=by unfold leA;exact⟨i,h,rfl⟩
def AY2 {Uu:C6}{ids:List (Nat×Nat)}{i j:Nat}(h:lk ids j=some i):leA Uu ids (.Uz i) (.Uz j):=by unfold leA;exact⟨i,h,rfl⟩
def BU4 {Uu:C6}{ids:List (Nat×Nat)}{f:FuncId}{a b c d:List AV}(h:leL Uu ids a c)(h' : leL Uu ids b d):leA Uu ids (.clo f a b) (.clo f c d):=by
 grind[leA]
def BH6 {Uu:C6}{ids:List (Nat×Nat)}:leL Uu ids [] []:=by grind[leL]
def Bo4 {Uu:C6}{ids:List (Nat×Nat)}{a b:AV}{l m:List AV}(h:leA Uu ids a b)(h' : leL Uu ids l m):leL Uu ids (a::l) (b::m):=by
 grind[leL]
def BC1 {Uu:C6}{ids:List (Nat×Nat)}{env:Env}{t:Nat}{b:AV}{r:Env}{a:AV}(c:get env t=a)(h:leA Uu ids a b)(h' : Rn Uu ids env r):Rn Uu ids env ((t,b)::r):=by subst c;exact⟨h,h'⟩
theorem Bo5 {Uu:C6}{ids:List (Nat×Nat)}{l m:List AV}(h:leL Uu ids l m):leO Uu ids (.cells l) (.cells m):=⟨l,rfl,h⟩
theorem le_mk {s t:St}{ids:List (Nat×Nat)}(h1:(wf t&&I5 (ids.map (·.2))&&AK7 ids&&Vo ids t.Uu&&Px ids (seen s.env t.env++MZ ids s.Uu t.Uu) t.Uu)=true)
 (a:Rn s.Uu ids s.env t.env) (b:ZD s.Uu ids t.Uu):Le ids s t:=by
 simp at h1;exact⟨by grind,a,b⟩
section
variable {n:Nat}{rs:List ResultVar}{Q:ARes->List Obj->List Bool->Prop}{l:List AV}{a:AV}
end
def AY3 (hS:H3 S P){f:FuncId}{fn:Func}{code:Code}{args:List AV}{objs objs' : List Obj}{ks:List Bool}{r:AV}{rs:List ResultVar}(d:P.funcs[f]? = some fn)(hc:fn.body=some code)(hn:args.length<=fn.ntmps)(g:objs.length<1000)
 (a:fn.results.toList=rs) (b:BV fn.ntmps code=true) (c:(fn.name == "runtime.NumGoroutine")=false)
 (h:G S P (Fk S P objs.length rs λres o k=>res=.ret r/\o=objs' /\ k=ks) (.code code [] { env:=Yl args,Uu:=Uv objs })):Uw S f args objs r objs' ks:=by
 subst a;exact hS.func f fn code args objs _ d hc c b hn g (hS.refl _ _ h)
end
def Ext (w w' : World):Prop:=w'.os=w.os/\w'.output=w.output
def Ext.refl (w:World):Ext w w:=⟨rfl,rfl⟩
def Ext.trans {w w' w'' : World}(h:Ext w w')(h' : Ext w' w''):Ext w w'':=⟨h'.1.trans h.1,h'.2.trans h.2⟩
inductive Uy (w:World) (Pi:Nat->Nat->Prop):Value->PV->Prop
 |v (x:Value):Uy w Pi x (.v x)
 |bb (b:Bool):Uy w Pi (.bool b) (.bb b)
 |str (l:List UInt8):Uy w Pi (.string ⟨l.toArray⟩) (.str l)
 |agg (vs:Array Value) (cs:List PV) (hs:vs.size=cs.length) (h1:∀i,i<cs.length->(vs.getD i undef).oneCell' = true)
  (h:∀i,i<cs.length->Uy w Pi (vs.getD i undef) (cs.getD i default)):Uy w Pi (.agg vs) (.agg cs)
 |slnil (k:Nat) (f:Nat->List PV):Uy w Pi (.slice none 0 0) (.sl false k 0 f)
 |sl (nn:Bool) (b off cap k n:Nat) (f:Nat->List PV) (c:Nat->Nat->Value) (hn:n<=cap) (hk:∀i,i<n->(f i).length=k)
  (hc:∀i j,i<n->j<k->w.cell? ⟨b,off+i*k+j,none⟩=some (c i j)/\¬Pi b (off+i*k+j)/\(c i j).oneCell' = true)
  (h:∀i j,i<n->j<k->Uy w Pi (c i j) ((f i).getD j default)) (sp:Option Nat) (hsp:0<n->sp=none):Uy w Pi (.slice (some ⟨b,off,sp⟩) n cap) (.sl nn k n f)
 |ptr (b off:Nat) (cs:List PV) (c:Nat->Value) (hc:∀j,j<cs.length->w.cell? ⟨b,off+j,none⟩=some (c j)/\¬Pi b (off+j)/\(c j).oneCell' = true)
  (h:∀j,j<cs.length->Uy w Pi (c j) (cs.getD j default)):Uy w Pi (.pointer (some ⟨b,off,none⟩)) (.ptr cs)
 |iface (t:TypeId) (x:Value) (a:PV) (h:Uy w Pi x a):Uy w Pi (.iface t x) (.iface t a)
 |fn (f:FuncId) (x y:Array Value) (a b:List PV) (hx:x.size=a.length) (hy:y.size=b.length)
  (ha:∀i,i<a.length->Uy w Pi (x.getD i undef) (a.getD i default)) (hb:∀i,i<b.length->Uy w Pi (y.getD i undef) (b.getD i default)) :
  Uy w Pi (.func (.func f) x y) (.fn f a b)
def Ux (w:World)(Pi:Nat->Nat->Prop)(w' : World)(Pi' : Nat->Nat->Prop):Prop:= ∀b o v,¬Pi b o->w.cell? ⟨b,o,none⟩=some v->w'.cell? ⟨b,o,none⟩=some v/\¬Pi' b o
def Ux.refl (w:World)(Pi:Nat->Nat->Prop):Ux w Pi w Pi:=λ_ _ _ h h'=>⟨h',h⟩
def Ux.trans {w w' w'' : World}{p p' p'' : Nat->Nat->Prop}(h:Ux w p w' p')(h' : Ux w' p' w'' p''):Ux w p w'' p'':=
 λb o v hp hc=>let ⟨a,c⟩:=h b o v hp hc;h' b o v c a
def Uy.keeps {w w' : World}{Pi Pi' : Nat->Nat->Prop}(hk:Ux w Pi w' Pi'){v:Value}{x:PV}(h:Uy w Pi v x):Uy w' Pi' v x:=by
 induction h with
 |v x=>exact .v x
 |bb b=>exact .bb b
 |str l=>exact .str l
 |agg vs cs hs h1 h ih=>exact .agg vs cs hs h1 ih
 |slnil k f=>exact .slnil k f
 |sl nn b off cap k n f c hn hk' hc h sp hsp ih=>
  refine .sl nn b off cap k n f c hn hk' (λi j m d=>?_) ih sp hsp;obtain⟨h1,g,o⟩:=hc i j m d;obtain⟨q,r⟩:=hk _ _ _ g h1
  grind
 |ptr b off cs c hc h ih=>
  refine .ptr b off cs c (λj d=>?_) ih;obtain⟨h1,g,o⟩:=hc j d;obtain⟨q,r⟩:=hk _ _ _ g h1
  grind
 |iface t x a h ih=>exact .iface t x a ih
 |fn f x y a b hx hy ha hb iha ihb=>exact .fn f x y a b hx hy iha ihb
def Uy.nP {w:World}{Pi:Nat->Nat->Prop}{v:Value}{x:PV}(h:Uy w Pi v x):Uy w Pi v (nP x):=by
 cases x with
 |v y=>cases h;cases v<;>first|exact .v _|exact .bb _
 |_=>exact h
def Uy.leP {w:World}{Pi:Nat->Nat->Prop}{v:Value}{x y:PV}(hl:leP x y)(h:Uy w Pi v x):Uy w Pi v y:=by
 rcases hl with rfl|⟨nn,k,n,f,g,rfl,rfl,a⟩ | ⟨k,f,rfl,rfl⟩ | ⟨b,rfl,rfl⟩ | ⟨b,rfl,rfl⟩
 .exact h
 .cases h with
  |slnil=>exact .slnil _ _
  |sl _ b off cap _ _ _ c hn hk hc h sp hsp=>exact .sl false b off cap k n g c hn (by grind) hc (by grind) sp hsp
 .cases h;exact .slnil _ _
 .cases h;exact .bb _
 cases h;exact .v _
def Uy.leQ {w:World}{Pi:Nat->Nat->Prop}{v:Value}{x y:PV}(hl:Go.AM.leQ x y)(h:Uy w Pi v x):Uy w Pi v y:=by
 induction hl generalizing v with
 |p hl=>exact h.leP hl
 | @sl nn k n f g hl hq ih=>
  cases h with
  |slnil=>exact .slnil _ _
  |sl _ b off cap _ _ _ c hn hk hc h sp hsp=>exact .sl false b off cap k n g c hn (by grind) hc (by grind) sp hsp
 | @agg xs ys hl hq ih=>
  cases h with
  |agg vs _ hs h1 h=>exact .agg vs ys (hs.trans hl) (by grind) (by grind)
def Uy.cell {w:World}{Pi:Nat->Nat->Prop}{v:Value}{x:PV}(h:Uy w Pi v x)(hx:Mn x=true):v.oneCell' = true:=by
 cases h with
 |v=>cases v<;>simp_all [Mn,Value.oneCell']
 |agg=>grind[Mn]
 |_=>rfl
inductive Yj (w:World) (Pi:Nat->Nat->Prop) (live:Nat->Prop) (rho:Nat->Value):Value->AV->Prop
 |p (v:Value) (x:PV) (h:Uy w Pi v x):Yj w Pi live rho v (.p x)
 |reg (j off b:Nat) (hl:live j) (h:rho j=.pointer (some ⟨b,0,none⟩)):Yj w Pi live rho (.pointer (some ⟨b,off,none⟩)) (.reg j off)
 |vec (j:Nat) (base:Option Addr) (n cap:Nat) (hl:live j) (h:rho j=.slice base n cap):Yj w Pi live rho (.slice base n cap) (.vec j)
 |vecp (j m:Nat) (base:Option Addr) (n cap:Nat) (hl:live j) (h:rho j=.slice base n cap) (hm:m<=n):Yj w Pi live rho (.slice base m cap) (.vecp j m)
 |elt (j k i off b n cap:Nat) (hl:live j) (h:rho j=.slice (some ⟨b,0,none⟩) n cap):Yj w Pi live rho (.pointer (some ⟨b,i*k+off,none⟩)) (.elt j k i off)
 |Uz (j r:Nat) (hl:live j) (h:rho j=.map (some r)):Yj w Pi live rho (.map (some r)) (.Uz j)
 |clo (f:FuncId) (x y:Array Value) (a b:List AV) (hx:x.size=a.length) (hy:y.size=b.length)
  (ha:∀i,i<a.length->Yj w Pi live rho (x.getD i undef) (a.getD i .top)) (hb:∀i,i<b.length->Yj w Pi live rho (y.getD i undef) (b.getD i .top)) :
  Yj w Pi live rho (.func (.func f) x y) (.clo f a b)
 |tup (x:Array Value) (a:List AV) (hx:x.size=a.length) (ha:∀i,i<a.length->Yj w Pi live rho (x.getD i undef) (a.getD i .top)):Yj w Pi live rho (.tuple x) (.tup a)
 |agr (x:Array Value) (a:List AV) (hx:x.size=a.length) (h1:∀i,i<a.length->(x.getD i undef).oneCell' = true)
  (ha:∀i,i<a.length->Yj w Pi live rho (x.getD i undef) (a.getD i .top)):Yj w Pi live rho (.agg x) (.agr a)
 |yf (j l:Nat) (hl:live j) (h:rho j=.func (.yield l) #[] #[]):Yj w Pi live rho (.func (.yield l) #[] #[]) (.yf j)
 |top (v:Value):Yj w Pi live rho v .top
def Yj.keeps {w w' : World}{Pi Pi' : Nat->Nat->Prop}{live live' : Nat->Prop}{rho rho' : Nat->Value}(hk:Ux w Pi w' Pi')
 (hl:∀j,live j->live' j/\rho' j=rho j) {v:Value}{a:AV}(h:Yj w Pi live rho v a):Yj w' Pi' live' rho' v a:=by
 induction h with
 |p v x h=>exact .p v x (h.keeps hk)
 |reg j off b hj h=>obtain⟨a,c⟩:=hl j hj;exact .reg j off b a (c.trans h)
 |vec j base n cap hj h=>obtain⟨a,c⟩:=hl j hj;exact .vec j base n cap a (c.trans h)
 |vecp j m base n cap hj h hm=>obtain⟨a,c⟩:=hl j hj;exact .vecp j m base n cap a (c.trans h) hm
 |elt j k i off b n cap hj h=>obtain⟨a,c⟩:=hl j hj;exact .elt j k i off b n cap a (c.trans h)
 |Uz j r hj h=>obtain⟨a,c⟩:=hl j hj;exact .Uz j r a (c.trans h)
 |clo f x y a b hx hy ha hb iha ihb=>exact .clo f x y a b hx hy iha ihb
 |tup x a hx ha ih=>exact .tup x a hx ih
 |agr x a hx h1 ha ih=>exact .agr x a hx h1 ih
 |yf j l hj h=>obtain⟨a,c⟩:=hl j hj;exact .yf j l a (c.trans h)
 |top v=>exact .top v
def Cc3 (l:List Nat)(b:Nat)(v:Value):Go.Obj:=match l with
 |0::T::u::_=>.cells #[ite (u=0) (.pointer none) (.pointer (some ⟨b,0,none⟩)),v] T (0,0)
 |_::cl::last::seen=>.mapIter (match v with | .map r=>r|_=>none) cl seen.reverse.toArray last
 |_=>.cells #[] 0 (0,0)
def R8 (h:Value):Obj->Option Nat
 |.cells _=>match h with | .pointer (some a)=>some a.block|_=>none
 |.vec _ _ _ _ _=>match h with | .slice (some a) _ _=>some a.block|_=>none
 |.map _=>match h with | .map r=>r|_=>none
 |.arr _ _=>match h with | .pointer (some a)=>some a.block|_=>none
 |.blk _ _=>match h with | .pointer (some a)=>some a.block|_=>none
 |.fam _ _ _ _=>match h with | .slice (some a) _ _=>some a.block|_=>none
 |.ghost _ | .yld _ _ | .dead | .rows _ _=>none
def blkS (l:List Nat)(v:Value):Prop:=(∀vs,v ≠ .tuple vs)/\(l.head? = some 0->∃a n c,v=.slice a n c)
def G0 (h:Value)(o:Obj)(b:Nat):Prop:=
 match o with
 |.rows n g=>∃rv,h=.agg rv/\∃i,i<n/\R8 (rv.getD i undef) (g i)=some b
 |o=>R8 h o=some b
def MT (o:Obj)(off:Nat):Prop:=
 match o with
 |.vec _ k n _ true=>n*k<=off
 |_=>True
section
variable (w:World) (Pi:Nat->Nat->Prop) (live:Nat->Prop) (rho:Nat->Value)
def HoldsC (h:Value):Obj->Prop
 |.cells cs=>∃b c T,h=.pointer (some ⟨b,0,none⟩)/\w.heap[b]? = some (.cells c T (0,0))/\c.size=cs.length /\
  ∀i,i<cs.length->Yj w Pi live rho (c.getD i undef) (cs.getD i .top)/\(c.getD i undef).oneCell' = true
 |.vec e k n f _=>(h=.slice none 0 0/\n=0) \/ ∃b cap c,h=.slice (some ⟨b,0,none⟩) n cap/\w.heap[b]? = some (.cells c e (0,0))/\n<=cap/\c.size=cap*k/\cap<=maxLen /\
  (∀i,i<n->(f i).length=k)/\∀i j,i<n->j<k->Uy w Pi (c.getD (i*k+j) undef) ((f i).getD j default)/\(c.getD (i*k+j) undef).oneCell' = true
 |.map es=>∃b Ya clock,h=.map (some b)/\w.heap[b]? = some (.map Ya clock)/\Ya.size=es.length /\
  (∀i,i<es.length->Uy w Pi (Ya.getD i default).key (es.getD i default).1/\Uy w Pi (Ya.getD i default).val (es.getD i default).2)/\clock=Ya.size/\∀i,i<Ya.size->(Ya.getD i default).born=i
 |.arr n f=>∃b c T,h=.pointer (some ⟨b,0,none⟩)/\w.heap[b]? = some (.cells c T (0,0))/\c.size=n /\
  ∀i,i<n->Uy w Pi (c.getD i undef) (f i)/\(c.getD i undef).oneCell' = true
 |.blk l jr=>live jr/\blkS l (rho jr)/\∃b,h=.pointer (some ⟨b,0,none⟩)/\w.heap[b]? = some (Cc3 l b (rho jr))
 |.yld _ _=>∃l,h=.func (.yield l) #[] #[]
 |.ghost cs=>∃vs,h=.tuple vs/\vs.size=cs.length/\∀i,i<cs.length->Yj w Pi live rho (vs.getD i undef) (cs.getD i .top)
 |.dead=>True
 |.rows _ _=>False
 |.fam e n jr x=>∃rv,live jr/\rho jr=.agg rv/\((h=.slice none 0 0/\n=0) \/ ∃b cap c,h=.slice (some ⟨b,0,none⟩) n cap/\w.heap[b]? = some (.cells c e (0,0))/\n<=cap/\c.size=cap/\cap<=maxLen /\
  (∀i,i<n->(c.getD i undef).oneCell' = true/\(x.map (·.1)≠some i->c.getD i undef=rv.getD i undef)) /\
  match x with
  |none=>True
  |some (i,a)=>Yj w Pi live rho (c.getD i undef) a)
def rowV (v:Value):Obj->Prop
 |.vec e k n f false=>HoldsC w Pi live rho v (.vec e k n f false)
 |.map es=>HoldsC w Pi live rho v (.map es)
 |.ghost [.p x]=>Uy w Pi v x
 |.dead=>True
 |_=>False
def Yk (h:Value)(o:Obj):Prop:=
 match o with
 |.rows n g=>∃rv,h=.agg rv/\(∀i,i<n->rowV w Pi live rho (rv.getD i undef) (g i)) /\
  ∀i l b,i<n->l<n->R8 (rv.getD i undef) (g i)=some b->R8 (rv.getD l undef) (g l)=some b->i=l
 |o=>HoldsC w Pi live rho h o
end
def HoldsC.keeps {w w' : World}{Pi Pi' : Nat->Nat->Prop}{live live' : Nat->Prop}{rho rho' : Nat->Value}(hk:Ux w Pi w' Pi')
 (hl:∀j,live j->live' j/\rho' j=rho j) {h:Value}{o:Obj}(hb:∀b,R8 h o=some b->w'.heap[b]? = w.heap[b]?) (m:HoldsC w Pi live rho h o):HoldsC w' Pi' live' rho' h o:=by
 cases o with
 |cells cs=>obtain⟨b,c,T,rfl,h1,g,d⟩:=m;exact⟨b,c,T,rfl,(hb b rfl).trans h1,g,λi a=>⟨(d i a).1.keeps hk hl,(d i a).2⟩⟩
 |vec e k n f vw=>
  rcases m with hn|⟨b,cap,c,rfl,h1,g,d,t,u,s⟩
  .exact .inl hn
  exact .inr ⟨b,cap,c,rfl,(hb b rfl).trans h1,g,d,t,u,λi j a v=>⟨(s i j a v).1.keeps hk,(s i j a v).2⟩⟩
 |map es=>obtain⟨b,Ya,clock,rfl,h1,g,d,z⟩:=m;exact⟨b,Ya,clock,rfl,(hb b rfl).trans h1,g,λi a=>⟨(d i a).1.keeps hk,(d i a).2.keeps hk⟩,z⟩
 |arr n f=>obtain⟨b,c,T,rfl,h1,g,d⟩:=m;exact⟨b,c,T,rfl,(hb b rfl).trans h1,g,λi a=>⟨(d i a).1.keeps hk,(d i a).2⟩⟩
 |blk l jr=>obtain⟨g1,g2,b,rfl,h1⟩:=m;exact⟨(hl jr g1).1,by rw[(hl jr g1).2];omega,b,rfl,by rw[(hl jr g1).2];exact (hb b rfl).trans h1⟩
 |ghost cs=>obtain⟨vs,rfl,h1,g⟩:=m;exact⟨vs,rfl,h1,λi a=>(g i a).keeps hk hl⟩
 |yld r b=>exact m
 |dead=>trivial
 |fam e n jr x=>
  obtain⟨rv,g1,g2,y⟩:=m;refine⟨rv,(hl jr g1).1,(hl jr g1).2.trans g2,?_⟩;rcases y with y|⟨b,cap,c,rfl,h1,g,d,t,u,s⟩
  .grind
  refine .inr ⟨b,cap,c,rfl,(hb b rfl).trans h1,g,d,t,u,?_⟩;cases x with
  |none=>simp
  |some q=>exact s.keeps hk hl
 |rows=>exact m.elim
def rowV.keeps' {w w' : World}{Pi Pi' : Nat->Nat->Prop}{live live' : Nat->Prop}{rho rho' : Nat->Value}(hk:Ux w Pi w' Pi')
 {v:Value}{o:Obj}(a:rowV w Pi live rho v o) (hb:∀b,R8 v o=some b->w'.heap[b]? = w.heap[b]?):rowV w' Pi' live' rho' v o:=by
 unfold rowV at a⊢;split at a
 .obtain h|⟨b,cap,c,rfl,h1,g,f,h4,h5,h6⟩:=a
  .exact .inl h
  exact .inr ⟨b,cap,c,rfl,(hb b rfl).trans h1,g,f,h4,h5,λi j d l=>⟨(h6 i j d l).1.keeps hk,(h6 i j d l).2⟩⟩
 .obtain⟨b,Ya,clock,rfl,h1,g,f,m⟩:=a;exact⟨b,Ya,clock,rfl,(hb b rfl).trans h1,g,λi d=>⟨(f i d).1.keeps hk,(f i d).2.keeps hk⟩,m⟩
 .exact a.keeps hk
 all_goals omega
theorem KO {w w' : World}{Pi Pi' : Nat->Nat->Prop}{live live' : Nat->Prop}{rho rho' : Nat->Value}(hk:Ux w Pi w' Pi'){h:Value}{n:Nat}{g:Nat->Obj}
 (hb:∀b,G0 h (.rows n g) b->w'.heap[b]? = w.heap[b]?) (c:Yk w Pi live rho h (.rows n g)):Yk w' Pi' live' rho' h (.rows n g):=by
 obtain⟨rv,rfl,h1,d⟩:=c;exact⟨rv,rfl,λi a=>(h1 i a).keeps' hk λb f=>hb b ⟨rv,rfl,i,a,f⟩,d⟩
def Yk.keeps {w w' : World}{Pi Pi' : Nat->Nat->Prop}{live live' : Nat->Prop}{rho rho' : Nat->Value}(hk:Ux w Pi w' Pi')
 (hl:∀j,live j->live' j/\rho' j=rho j) {h:Value}{o:Obj}(hb:∀b,G0 h o b->w'.heap[b]? = w.heap[b]?) (a:Yk w Pi live rho h o):Yk w' Pi' live' rho' h o:=by
 cases o with
 |rows n g=>grind[KO]
 |_=>exact HoldsC.keeps hk hl hb a
def Lv (R:Nat->Option Obj)(j:Nat):Prop:=(R j).isSome=true
def Prv (X:Nat->Nat->Prop)(R:Nat->Option Obj)(rho:Nat->Value)(b off:Nat):Prop:= X b off \/ ∃j o,R j=some o/\G0 (rho j) o b/\MT o off
def Own (R:Nat->Option Obj)(rho:Nat->Value)(b:Nat):Prop:=∃j o,R j=some o/\G0 (rho j) o b
structure Hp (X:Nat->Nat->Prop) (R:Nat->Option Obj) (rho:Nat->Value) (w:World):Prop where
 holds:∀j o,R j=some o->Yk w (Prv X R rho) (Lv R) rho (rho j) o
 sep:∀i j oi oj b,R i=some oi->R j=some oj->G0 (rho i) oi b->G0 (rho j) oj b->i=j
 out:∀j o b off,R j=some o->G0 (rho j) o b->¬X b off
 bound:∀b off,X b off->b<w.heap.size
def HoldsC.lt {w:World}{Pi:Nat->Nat->Prop}{live:Nat->Prop}{rho:Nat->Value}{h:Value}{o:Obj}(a:HoldsC w Pi live rho h o){b:Nat}(hb:R8 h o=some b):b<w.heap.size:=by
 cases o with
 |cells cs=>obtain⟨b',c,T,rfl,h1,_⟩:=a;cases hb;grind
 |vec e k n f vw=>
  rcases a with⟨rfl,_⟩ | ⟨b',cap,c,rfl,h1,_⟩
  .cases hb
  cases hb;grind
 |map es=>obtain⟨b',Ya,clock,rfl,h1,_⟩:=a;cases hb;grind
 |arr n f=>obtain⟨b',c,T,rfl,h1,_⟩:=a;cases hb;grind
 |blk l jr=>obtain⟨_,_,b',rfl,h1⟩:=a;cases hb;grind
 |ghost cs=>cases hb
 |yld r b=>cases hb
 |dead=>cases hb
 |fam e n jr x=>
  rcases a with⟨rv,_,_,⟨rfl,_⟩ | ⟨b',cap,c,rfl,h1,_⟩⟩
  .cases hb
  cases hb;grind
 |rows=>exact a.elim
theorem BU5 {w:World}{Pi:Nat->Nat->Prop}{live:Nat->Prop}{rho:Nat->Value}{v:Value}{o:Obj}(h:rowV w Pi live rho v o){b:Nat}(hb:R8 v o=some b):HoldsC w Pi live rho v o:=by
 unfold rowV at h;split at h
 .exact h
 .exact h
 .cases hb
 .cases hb
 grind
def Yk.own {w:World}{Pi:Nat->Nat->Prop}{live:Nat->Prop}{rho:Nat->Value}{h:Value}{o:Obj}(a:Yk w Pi live rho h o){b:Nat}(hb:G0 h o b):∃h' o',HoldsC w Pi live rho h' o' /\ R8 h' o' = some b:=by
 cases o with
 |rows n g=>
  obtain⟨rv,rfl,h1,c⟩:=a;obtain⟨rv',d,i,j,hb⟩:=hb
  grind[Value.agg.injEq,BU5]
 |cells cs=>exact⟨h,.cells cs,a,hb⟩
 |vec e k n f vw=>exact⟨h,.vec e k n f vw,a,hb⟩
 |map es=>exact⟨h,.map es,a,hb⟩
 |arr n f=>exact⟨h,.arr n f,a,hb⟩
 |blk l jr=>exact⟨h,.blk l jr,a,hb⟩
 |fam e n jr x=>exact⟨h,.fam e n jr x,a,hb⟩
 |_=>cases hb
def Yk.lt {w:World}{Pi:Nat->Nat->Prop}{live:Nat->Prop}{rho:Nat->Value}{h:Value}{o:Obj}(a:Yk w Pi live rho h o){b:Nat}(hb:G0 h o b):b<w.heap.size:=by obtain⟨h',o',h1,c⟩:=a.own hb;exact h1.lt c
def Hp.lt {X:Nat->Nat->Prop}{R:Nat->Option Obj}{rho:Nat->Value}{w:World}(h:Hp X R rho w){b:Nat}(hb:Own R rho b):b<w.heap.size:=by obtain⟨j,o,a,hb⟩:=hb;exact (h.holds j o a).lt hb
def Hp.update {X:Nat->Nat->Prop}{R R' : Nat->Option Obj}{rho rho' : Nat->Value}{w w' : World}(D:Nat->Prop)(h:Hp X R rho w)
 (c:∀j,¬D j->R' j=R j) (a:∀j,Lv R j->Lv R' j/\rho' j=rho j) (a1:w.heap.size<=w'.heap.size)
 (x:∀b,b<w.heap.size->(∀j o,D j->R j=some o->¬G0 (rho j) o b)->w'.heap[b]? = w.heap[b]?)
 (m:∀j o b,D j->R' j=some o->G0 (rho' j) o b->(∃i oi,D i/\R i=some oi/\G0 (rho i) oi b) \/ w.heap.size<=b)
 (a2:∀i j oi oj b,D i->D j->R' i=some oi->R' j=some oj->G0 (rho' i) oi b->G0 (rho' j) oj b->i=j)
 (s:∀i oi b off v,D i->R i=some oi->G0 (rho i) oi b->¬Prv X R rho b off->w.cell? ⟨b,off,none⟩=some v->w'.cell? ⟨b,off,none⟩=some v/\∀j o,D j->R' j=some o->G0 (rho' j) o b->¬MT o off)
 (hh:Ux w (Prv X R rho) w' (Prv X R' rho')->∀j o,D j->R' j=some o->Yk w' (Prv X R' rho') (Lv R') rho' (rho' j) o) :
 Hp X R' rho' w' /\ Ux w (Prv X R rho) w' (Prv X R' rho'):=by
 have hk:Ux w (Prv X R rho) w' (Prv X R' rho'):=by
  intro b off v hp hc;have hlt:b<w.heap.size:=Cj2 w ⟨b,off,none⟩ hc;by_cases hD:∃i oi,D i/\R i=some oi/\G0 (rho i) oi b
  .obtain⟨i,oi,q,hr,hb⟩:=hD;obtain⟨h1,h2⟩:=s i oi b off v q hr hb hp hc;refine⟨h1,λt=>?_⟩;rcases t with r|⟨j,o,l,f,hpj⟩
   .exact hp (.inl r)
   by_cases d:D j
   .grind
   rw[c j d]at l;rw[(a j (by grind[Lv])).2]at f;exact hp (.inr (by grind))
  refine⟨?_,λt=>?_⟩
  .rw[<- hc]
   grind[Go.World.cell?_of_block]
  rcases t with r|⟨j,o,l,f,hpj⟩
  .exact hp (.inl r)
  by_cases d:D j
  .grind
  rw[c j d]at l;rw[(a j (by grind[Lv])).2]at f;exact hp (.inr (by grind))
 refine⟨⟨λj o l=>?_,λi j oi oj b q l g f=>?_,λj o b off l hb r=>?_,λb off r=>Cf5 (h.bound b off r) a1⟩,hk⟩
 .by_cases d:D j
  .grind
  rw[c j d]at l;have hr:=(a j (by grind[Lv])).2;rw[hr];refine (h.holds j o l).keeps hk a λb hb=>x b ((h.holds j o l).lt hb) λi oi q n g=>?_
  have:=h.sep i j oi o b n l g hb
  grind
 .by_cases u:D i<;>by_cases d:D j
  .grind
  .rw[c j d]at l;rw[(a j (by grind[Lv])).2]at f;rcases m i oi b u q g with⟨i',oi',hi',n,y⟩ | z
   .have:=h.sep i' j oi' oj b n l y f
    grind
   have:=(h.holds j oj l).lt f;omega
  .rw[c i u]at q;rw[(a i (by grind[Lv])).2]at g;rcases m j oj b d l f with⟨j',oj',hj',hrj,a0⟩ | z
   .have:=h.sep j' i oj' oi b hrj q a0 g
    grind
   have:=(h.holds i oi q).lt g;omega
  rw[c i u]at q;rw[c j d]at l;rw[(a i (by grind[Lv])).2]at g;rw[(a j (by grind[Lv])).2]at f;exact h.sep i j oi oj b q l g f
 by_cases d:D j
 .rcases m j o b d l hb with⟨i,oi,q,n,g⟩ | z
  .exact h.out i oi b off n g r
  have:=h.bound b off r;omega
 rw[c j d]at l;rw[(a j (by grind[Lv])).2]at hb;exact h.out j o b off l hb r
def Rp (env:Env)(d t:Nat)(x:AV):get (ins d x env) t=ite (d=t) x (get env t):=by
 induction env with
 |nil=>simp[ins,get]
 |cons p r ih=>
  obtain⟨i,b⟩:=p;simp only[ins];split
  .grind[get]
  split
  .grind[get]
  rename_i h1 a;simp only[get,ih]
  grind
theorem A4 (Uu:C6)(d t:Nat)(x:Obj):A2 (ins d x Uu) t=ite (d=t) (some x) (A2 Uu t):=by
 induction Uu with
 |nil=>simp[ins,A2]
 |cons p r ih=>
  obtain⟨i,b⟩:=p;simp only[ins];split
  .grind[A2]
  split
  .grind[A2]
  rename_i h1 a;simp only[A2,ih]
  grind
structure Ctx where
 X:Nat->Nat->Prop
 w0:World
 E0:Nat->Prop
 Pi0:Nat->Nat->Prop
 rho0:Nat->Value
 Y:List (List PV)->Bool->Prop
 yv:Value
structure SatE (C:Ctx) (R:C6) (w:World) (rho:Nat->Value):Prop where
 hp:Hp C.X (A2 R) rho w
 ext:Ext C.w0 w
 size:C.w0.heap.size<=w.heap.size
 same:∀b,b<C.w0.heap.size->¬C.E0 b->w.heap[b]? = C.w0.heap[b]?
 keep:Ux C.w0 C.Pi0 w (Prv C.X (A2 R) rho)
 own:∀b,Own (A2 R) rho b->C.E0 b \/ C.w0.heap.size<=b
 yld:∀j r b,A2 R j=some (.yld r b)->C.Y r b/\rho j=C.yv
def Marks (C:Ctx)(l:List Deferred)(w:World):Prop:= l.Nodup/\∀d∈l,∃r,d={ target:=.collected r,args:=#[] }/\(C.E0 r \/ C.w0.heap.size<=r)/\w.heap[r]? = some (.deferred (some []))/\∀off,¬C.X r off
structure Sat (C:Ctx) (st:St) (a:Act) (w:World) (rho:Nat->Value):Prop extends SatE C st.Uu w rho where
 env:∀t,Yj w (Prv C.X (A2 st.Uu) rho) (Lv (A2 st.Uu)) rho (a.tmps.getD t undef) (get st.env t)
 pin:∀j,j<1000->Lv (A2 st.Uu) j->rho j=C.rho0 j
 marks:Marks C a.defers w
theorem O6 (w:World)(Pi:Nat->Nat->Prop)(v:Value):Uy w Pi v (Uf v):=by
 cases v<;>try exact .v _
 rename_i s
 have:=Uy.str (w:=w) (Pi:=Pi) s.data.toList
 simp_all[Uf]
def Ao4 (w:World)(Pi:Nat->Nat->Prop)(v:Value):Uy w Pi v (pvK v):=by
 cases v with
 |agg cs=>
  simp only[pvK];split
  .rename_i h;refine .agg cs _ (by simp) (λi b=>?_) λi b=>?_
   .have a : i<cs.size:=by grind
    have:=Array.all_eq_true.1 h i a
    simp_all
   have a : i<cs.size:=by grind
   have e1:cs.getD i undef=cs[i]:=by simp_all
   have e2:(cs.toList.map Uf).getD i default=Uf cs[i]:=by grind
   rw[e1,e2];grind[O6]
  exact .v _
 |_=>exact O6 w Pi _
def Bo6 {w:World}{Pi:Nat->Nat->Prop}{live:Nat->Prop}{rho:Nat->Value}{env:Env}{a:Act}(h:∀t,Yj w Pi live rho (a.tmps.getD t undef) (get env t))(x:Operand):Yj w Pi live rho (a.eval x) (aev env x):=by
 cases x with
 |tmp t=>exact h t
 |const v=>exact .p _ _ (Ao4 w Pi v)
 |global g=>exact .top _
 |func f=>exact .clo f #[] #[] [] [] rfl rfl (by grind) (by grind)
def Sat.aev {C:Ctx}{st:St}{a:Act}{w:World}{rho:Nat->Value}(h:Sat C st a w rho)(x:Operand):Yj w (Prv C.X (A2 st.Uu) rho) (Lv (A2 st.Uu)) rho (a.eval x) (AM.aev st.env x):=Bo6 h.env x
def Sat.put {C:Ctx}{st:St}{a:Act}{w:World}{rho:Nat->Value}(h:Sat C st a w rho){v:Value}{x:AV}(b:Yj w (Prv C.X (A2 st.Uu) rho) (Lv (A2 st.Uu)) rho v x){d:Option Nat}
 (c:∀t,d=some t->t<a.tmps.size):Sat C (AM.put st d x) (a.put d v) w rho:=by
 cases d with
 |none=>exact h
 |some d=>
  refine⟨h.toSatE,λt=>?_,h.pin,h.marks⟩;show Yj w (Prv C.X (A2 st.Uu) rho) (Lv (A2 st.Uu)) rho ((a.tmps.setIfInBounds d v).getD t undef) (AM.get (ins d x st.env) t);rw[Rp];split
  .simp_all
  rename_i e
  have:=h.env t
  simp_all
def isC:Option Go.Obj->Bool
 |some (.cells ..)|some (.map ..)|some (.mapIter ..)=>true
 |_=>false
def HoldsC.kind {w:World}{Pi:Nat->Nat->Prop}{live:Nat->Prop}{rho:Nat->Value}{h:Value}{o:Obj}(a:HoldsC w Pi live rho h o){b:Nat}(hb:R8 h o=some b):isC w.heap[b]? = true:=by
 cases o with
 |cells cs=>obtain⟨b',c,T,rfl,h1,_⟩:=a;cases hb;rw[h1];rfl
 |vec e k n f vw=>
  rcases a with⟨rfl,_⟩ | ⟨b',cap,c,rfl,h1,_⟩
  .cases hb
  cases hb;rw[h1];rfl
 |map es=>obtain⟨b',Ya,clock,rfl,h1,_⟩:=a;cases hb;rw[h1];rfl
 |arr n f=>obtain⟨b',c,T,rfl,h1,_⟩:=a;cases hb;rw[h1];rfl
 |blk l jr=>obtain⟨_,_,b',rfl,h1⟩:=a;cases hb;rw[h1];unfold Cc3;split<;>rfl
 |ghost cs=>cases hb
 |yld r b=>cases hb
 |dead=>cases hb
 |fam e n jr x=>
  rcases a with⟨rv,_,_,⟨rfl,_⟩ | ⟨b',cap,c,rfl,h1,_⟩⟩
  .cases hb
  cases hb;rw[h1];rfl
 |rows=>exact a.elim
def Yk.kind {w:World}{Pi:Nat->Nat->Prop}{live:Nat->Prop}{rho:Nat->Value}{h:Value}{o:Obj}(a:Yk w Pi live rho h o){b:Nat}(hb:G0 h o b):isC w.heap[b]? = true:=by obtain⟨h',o',h1,c⟩:=a.own hb;exact h1.kind c
def Yk.nd {w:World}{Pi:Nat->Nat->Prop}{live:Nat->Prop}{rho:Nat->Value}{h:Value}{o:Obj}(a:Yk w Pi live rho h o){b:Nat}(hb:G0 h o b)(c:w.heap[b]? = some (.deferred (some []))):False:=by
 have:=a.kind hb;rw[c]at this;cases this
def Sat.step {C:Ctx}{st:St}{a:Act}{w:World}{rho:Nat->Value}(h:Sat C st a w rho){R' : C6}{rho' : Nat->Value}{w' : World}(D:Nat->Prop)
 (f:∀j,¬D j->A2 R' j=A2 st.Uu j) (c:∀j,Lv (A2 st.Uu) j->Lv (A2 R') j/\rho' j=rho j) (u:w.heap.size<=w'.heap.size)
 (a3:∀j,¬Lv (A2 st.Uu) j->Lv (A2 R') j->1000<=j) (a4:∀j r b,D j->A2 R' j≠some (.yld r b))
 (g:∀b,b<w.heap.size->(∀j o,D j->A2 st.Uu j=some o->¬G0 (rho j) o b)->w'.heap[b]? = w.heap[b]?)
 (m:∀j o b,D j->A2 R' j=some o->G0 (rho' j) o b->(∃i oi,D i/\A2 st.Uu i=some oi/\G0 (rho i) oi b) \/ w.heap.size<=b)
 (n:∀i j oi oj b,D i->D j->A2 R' i=some oi->A2 R' j=some oj->G0 (rho' i) oi b->G0 (rho' j) oj b->i=j)
 (q:∀i oi b off v,D i->A2 st.Uu i=some oi->G0 (rho i) oi b->¬Prv C.X (A2 st.Uu) rho b off->w.cell? ⟨b,off,none⟩=some v ->
  w'.cell? ⟨b,off,none⟩=some v/\∀j o,D j->A2 R' j=some o->G0 (rho' j) o b->¬MT o off)
 (hh:Ux w (Prv C.X (A2 st.Uu) rho) w' (Prv C.X (A2 R') rho')->∀j o,D j->A2 R' j=some o->Yk w' (Prv C.X (A2 R') rho') (Lv (A2 R')) rho' (rho' j) o) (hext:Ext w w':=by exact⟨rfl,rfl⟩) :
 Sat C { st with Uu:=R' } a w' rho' /\ Ux w (Prv C.X (A2 st.Uu) rho) w' (Prv C.X (A2 R') rho'):=by
 obtain⟨y,hk⟩:=h.hp.update D f c u g m n q hh;refine⟨⟨⟨y,h.ext.trans hext,Ch9 h.size u,λb hb hE=>?_,h.keep.trans hk,?_,?_⟩,λt=>(h.env t).keeps hk c,?_,?_⟩,hk⟩
 .rw[g b (Cf5 hb h.size) λj o l z s=>?_]
  .exact h.same b hb hE
  rcases h.own b ⟨j,o,z,s⟩with h1|h1
  all_goals grind
 .rintro b ⟨j,o,l,hb⟩;by_cases x:D j
  .rcases m j o b x l hb with⟨i,oi,_,hi,a0⟩ | a1
   .exact h.own b ⟨i,oi,hi,a0⟩
   exact .inr (Ch9 h.size a1)
  rw[f j x]at l;rw[(c j (by grind[Lv])).2]at hb;exact h.own b ⟨j,o,l,hb⟩
 .intro j r b l;by_cases x:D j
  .grind
  rw[f j x]at l;rw[(c j (by grind[Lv])).2];exact h.yld j r b l
 .intro j a2 hl;by_cases l:Lv (A2 st.Uu) j
  .rw[(c j l).2];exact h.pin j a2 l
  grind
 refine⟨h.marks.1,λd hd=>?_⟩;obtain⟨r,h1,h2,h3,h4⟩:=h.marks.2 d hd;refine⟨r,h1,h2,?_,h4⟩;rw[g r (by grind) λj o l z s=>(h.hp.holds j o z).nd s h3];omega
section
variable {C:Ctx}{st:St}{a:Act}{w:World}{rho:Nat->Value}
abbrev PiS (C:Ctx)(st:St)(rho:Nat->Value):Nat->Nat->Prop:=Prv C.X (A2 st.Uu) rho
abbrev RS (C:Ctx)(st:St)(w:World)(rho:Nat->Value):Value->AV->Prop:=Yj w (Prv C.X (A2 st.Uu) rho) (Lv (A2 st.Uu)) rho
def Sat.fresh (h:Sat C st a w rho){j:Nat}(s:1000<=j)(hn:A2 st.Uu j=none)(ob:Obj)(c:Value){w' : World}(g:w.heap.size<=w'.heap.size)
 (l:∀b,b<w.heap.size->w'.heap[b]? = w.heap[b]?) (hb:∀b,G0 c ob b->w.heap.size<=b)
 (t:Ux w (PiS C st rho) w' (Prv C.X (A2 (ins j ob st.Uu)) (λi=>ite (i=j) c (rho i))) ->
  Yk w' (Prv C.X (A2 (ins j ob st.Uu)) (λi=>ite (i=j) c (rho i))) (Lv (A2 (ins j ob st.Uu))) (λi=>ite (i=j) c (rho i)) c ob) (hy:∀r b,ob ≠ .yld r b:=by intro _ _ h;cases h) (hext:Ext w w':=by exact⟨rfl,rfl⟩) :
 Sat C { st with Uu:=ins j ob st.Uu } a w' (λi=>ite (i=j) c (rho i))/\Ux w (PiS C st rho) w' (Prv C.X (A2 (ins j ob st.Uu)) (λi=>ite (i=j) c (rho i))) /\
  ∀i,Lv (A2 st.Uu) i->Lv (A2 (ins j ob st.Uu)) i/\(ite (i=j) c (rho i))=rho i:=by
 have d:∀i,Lv (A2 st.Uu) i->Lv (A2 (ins j ob st.Uu)) i/\(ite (i=j) c (rho i))=rho i:=by
  intro i f;by_cases e:i=j
  all_goals simp_all[Lv,Lp,A4,Js,Cl4,trivial]
 obtain⟨h1,u⟩:=h.step (R':=ins j ob st.Uu) (rho':=λi=>ite (i=j) c (rho i)) (w':=w') (· = j) (λi f=>by rw[A4,Js (Cl4 f)]) d g
  (λi f m=>by
   simp_all[Lv,A4,Js,Cl4,Ke])
  (λi r b f v=>by simp_all[A4,Lo,Cd9])
  (by grind)
  (λi o b f n q=>by
   simp_all[A4,Lo,Cd9])
  (by omega)
  (by grind)
  (λhk i o f n=>by
   simp_all[A4,Lo,Cd9]) hext
 grind
def Sat.modify (h:Sat C st a w rho){j:Nat}{o ob:Obj}{b:Nat}(s:A2 st.Uu j=some o)(t:G0 (rho j) o b)(hp:∀off,MT o off)(m : ∀b',G0 (rho j) ob b' -> b' = b){w' : World}(u:w'.heap.size=w.heap.size)
 (f:∀b',b' ≠ b->w'.heap[b']? = w.heap[b']?)
 (y:Ux w (PiS C st rho) w' (Prv C.X (A2 (ins j ob st.Uu)) rho)->Yk w' (Prv C.X (A2 (ins j ob st.Uu)) rho) (Lv (A2 (ins j ob st.Uu))) rho (rho j) ob) (hy:∀r b,ob ≠ .yld r b:=by intro _ _ h;cases h) (hext:Ext w w':=by exact⟨rfl,rfl⟩) :
 Sat C { st with Uu:=ins j ob st.Uu } a w' rho/\Ux w (PiS C st rho) w' (Prv C.X (A2 (ins j ob st.Uu)) rho)/\∀i,Lv (A2 st.Uu) i->Lv (A2 (ins j ob st.Uu)) i/\rho i=rho i:=by
 have d:∀i,Lv (A2 st.Uu) i->Lv (A2 (ins j ob st.Uu)) i/\rho i=rho i:=by
  intro i c;refine⟨?_,rfl⟩
  grind[Lv,A4]
 obtain⟨h1,z⟩:=h.step (R':=ins j ob st.Uu) (rho':=rho) (w':=w') (· = j) (λi c=>by rw[A4,Js (Cl4 c)]) d (by omega)
  (λi c x=>by
   grind[Lv,A4,Ke])
  (λi r b c he=>by simp_all[A4,Lo,Cd9])
  (by grind)
  (λi oi b' c n g=>by
   subst c;simp only[A4,Lo,Cd9]at n
   grind)
  (by omega)
  (λi oi b' off v c q g l _=>by subst c;rw[s]at q;cases q;exact Ke (.inr (by grind)) l)
  (λhk i oi c n=>by
   simp_all[A4,Lo,Cd9]) hext
 grind
def Sat.viewed (h:Sat C st a w rho){j:Nat}{e:TypeId}{k n:Nat}{f:Nat->List PV}{vw:Bool}(s:A2 st.Uu j=some (.vec e k n f vw)) :Sat C { st with Uu:=ins j (.vec e k n f true) st.Uu } a w rho/\Ux w (PiS C st rho) w (Prv C.X (A2 (ins j (.vec e k n f true) st.Uu)) rho) /\
  (∀i,Lv (A2 st.Uu) i->Lv (A2 (ins j (.vec e k n f true) st.Uu)) i/\rho i=rho i):=by
 have c:∀i,Lv (A2 st.Uu) i->Lv (A2 (ins j (.vec e k n f true) st.Uu)) i/\rho i=rho i:=by
  intro i d;refine⟨?_,rfl⟩
  grind[Lv,A4]
 obtain⟨h1,y⟩:=h.step (R':=ins j (.vec e k n f true) st.Uu) (rho':=rho) (w':=w) (· = j) (λi d=>by rw[A4,Js (Cl4 d)]) c (Ce5 _)
  (λi d l=>by
   grind[Lv,A4,Ke])
  (λi r b d z=>by grind[A4])
  (λb' _ _=>rfl)
  (λi oi b' d m g=>by subst d;simp only[A4,Lo,Cd9]at m;subst m;exact .inl ⟨i,_,rfl,s,g⟩)
  (by omega)
  (λi oi b' off v d u g t hc=>by
   subst d;rw[s]at u;cases u;refine⟨hc,λi' oi' l q x hp=>?_⟩;subst l;simp only[A4,Lo,Cd9]at q;subst q;refine t (.inr ⟨i',_,s,g, ?_⟩);cases vw
   .trivial
   omega)
  (λhk i oi d m=>by subst d;simp only[A4,Lo,Cd9]at m;subst m;exact (h.hp.holds i _ s).keeps (o:=.vec e k n f vw) hk c (λ_ _=>rfl))
 grind
theorem M1 {i j k n:Nat}(a:i<n)(b:j<k):i*k+j<n*k:=
 Cf5 (Nat.add_lt_add_left b _) (by rw[<- Cq9];exact Cf4 k a)
def Hp.pubd {X:Nat->Nat->Prop}{R:Nat->Option Obj}{w:World}(h:Hp X R rho w){j:Nat}{o:Obj}{b off:Nat}(c:R j=some o)(hb:G0 (rho j) o b)(hp:¬MT o off):¬Prv X R rho b off:=by
 rintro (d|⟨i,oi,f,a,g⟩)
 .exact h.out j o b off c hb d
 have:=h.sep i j oi o b f c a hb
 grind
theorem cell_of_heap {w:World}{b:Nat}{c:Array Value}{T:TypeId}{fz:Nat×Nat}(h:w.heap[b]? = some (.cells c T fz)){o:Nat}(a:o<c.size):w.cell? ⟨b,o,none⟩=some (c.getD o undef):=by
 simp_all[World.cell?,Ce1]
def Sat.sl (h:Sat C st a w rho){j m:Nat}{e:TypeId}{k n:Nat}{f:Nat->List PV}(g:A2 st.Uu j=some (.vec e k n f true)){base:Option Addr}{cap n' : Nat}(o:rho j=.slice base n' cap)(hm:m<=n) :Uy w (PiS C st rho) (.slice base m cap) (.sl false k m f):=by
 have d:=h.hp.holds j _ g;rw[o]at d;rcases d with⟨hn,rfl⟩ | ⟨b,cap',c,d,h1,q,r,t,u,v⟩
 .cases hn
  have:m=0:=by omega
  subst this;exact .slnil k f
 cases d;refine .sl false b 0 cap k m f (λi j=>c.getD (i*k+j) undef) (by omega) (by grind) (λi l x hl=>?_) (by grind) none (λ_=>rfl);have s:=M1 (show i<n by omega) hl;have hle:n*k<=c.size:=by rw[r];exact Cf4 k q
 rw[Ch0];refine⟨cell_of_heap h1 (by omega),h.hp.pubd g (b:=b) (by grind[G0,R8]) (by grind[MT]),by grind⟩
structure Kp (C:Ctx) (R R' : C6) (w w' : World) (rho rho' : Nat->Value):Prop where
 keeps:Ux w (Prv C.X (A2 R) rho) w' (Prv C.X (A2 R') rho')
 live:∀i,Lv (A2 R) i->Lv (A2 R') i/\rho' i=rho i
def Kp.refl (C:Ctx)(R:C6)(w:World)(rho:Nat->Value):Kp C R R w w rho rho:=⟨Ux.refl _ _,by grind⟩
def Kp.trans {C:Ctx}{R R' R'' : C6}{w w' w'' : World}{rho rho' rho'' : Nat->Value}(h:Kp C R R' w w' rho rho')(h' : Kp C R' R'' w' w'' rho' rho''):Kp C R R'' w w'' rho rho'':=
 ⟨h.keeps.trans h'.keeps,λi a=>⟨(h'.live i (h.live i a).1).1,((h'.live i (h.live i a).1).2).trans (h.live i a).2⟩⟩
def Kp.p {R R' : C6}{w w' : World}{rho rho' : Nat->Value}(h:Kp C R R' w w' rho rho'){v:Value}{x:PV}(a:Uy w (Prv C.X (A2 R) rho) v x):Uy w' (Prv C.X (A2 R') rho') v x:=a.keeps h.keeps
def Kp.av {R R' : C6}{w w' : World}{rho rho' : Nat->Value}(h:Kp C R R' w w' rho rho'){v:Value}{x:AV}(a:Yj w (Prv C.X (A2 R) rho) (Lv (A2 R)) rho v x):Yj w' (Prv C.X (A2 R') rho') (Lv (A2 R')) rho' v x:=a.keeps h.keeps h.live
def Nb {w:World}{Pi:Nat->Nat->Prop}{live:Nat->Prop}{h:Value}{e:TypeId}{k n:Nat}{f:Nat->List PV}{vw:Bool}(a:Yk w Pi live rho h (.vec e k n f vw)):∃base cap,h=.slice base n cap:=by
 rcases a with⟨rfl,rfl⟩ | ⟨b,cap,c,rfl,_⟩
 all_goals grind
def Nc:∀{cs:List AV}{l:List PV},Zq cs=some l->cs=l.map .p
 |[],l,h=>by simp[Zq]at h;subst h;rfl
 |.p x::r,l,h=>by
  simp only[Zq]at h;split at h
  .rename_i l' hl;cases h;rw[Nc hl];rfl
  cases h
 |.reg .. :: _,_,h | .vec .. :: _,_,h | .vecp .. :: _,_,h | .elt .. :: _,_,h | .Uz .. :: _,_,h | .clo .. :: _,_,h | .tup .. :: _,_,h | .agr .. :: _,_,h | .yf .. :: _,_,h | .top::_,_,h=>by simp[Zq]at h
def Yj.toP {w:World}{Pi:Nat->Nat->Prop}{live:Nat->Prop}{v:Value}{x:PV}(h:Yj w Pi live rho v (.p x)):Uy w Pi v x:=by cases h;omega
def Yj.clo_fn {w:World}{Pi:Nat->Nat->Prop}{live:Nat->Prop}{f:FuncId}{x y:Array Value}{a b:List AV}{a' b' : List PV}(ha:Zq a=some a')(hb:Zq b=some b')
 (h:Yj w Pi live rho (.func (.func f) x y) (.clo f a b)):Uy w Pi (.func (.func f) x y) (.fn f a' b'):=by
 have:=Nc ha;subst this
 have:=Nc hb;subst this
 cases h with
 |clo _ _ _ _ _ hx hy hl hr=>
  refine .fn f x y a' b' (by grind) (by grind) (λi c=>?_) λi c=>?_
  .have:=hl i (by simpa using c)
   simp only[Ce0,Ce7,Ce3 c,Cf0,Ce6]at this⊢;exact this.toP
  have:=hr i (by simpa using c)
  simp only[Ce0,Ce7,Ce3 c,Cf0,Ce6]at this⊢;exact this.toP
def Rq {w:World}{Pi:Nat->Nat->Prop}{live:Nat->Prop}{rho:Nat->Value}:∀{cs:List AV}{l:List PV},AK6 cs=some l->l.length=cs.length/\∀i,i<cs.length->∀{v:Value},Yj w Pi live rho v (cs.getD i .top)->Uy w Pi v (l.getD i default)
 |[],l,h=>by simp only[AK6,Cd9]at h;subst h;exact⟨rfl,λi c=>Ke c (by simp)⟩
 |a::r,l,h=>by
  unfold AK6 at h;split at h
  .grind
  .rename_i x r' e;cases e;split at h
   .rename_i l' hl;cases h;obtain⟨g1,g2⟩:=Rq hl;refine⟨by simp[g1],λi c v b=>?_⟩;cases i with
    |zero=>exact b.toP
    |succ i=>simpa using g2 i (by simpa using c) (by simpa using b)
   grind
  .rename_i f r' e;cases e;split at h
   .rename_i l' hl;cases h;obtain⟨g1,g2⟩:=Rq hl;refine⟨by simp[g1],λi c v b=>?_⟩;cases i with
    |zero=>
     have b:Yj w Pi live rho v (.clo f [] []):=b;cases b with
     |clo _ x y _ _ hx hy _ _=>have d : x = #[]:=Co6.1 (by simpa using hx);have g : y = #[]:=Co6.1 (by simpa using hy);subst d;subst g;exact .v _
    |succ i=>simpa using g2 i (by simpa using c) (by simpa using b)
   grind
  grind
def FD (h:Sat C st a w rho){v:Value}{x:AV}(u:RS C st w rho v x){y' : PV}{R' : C6}(c:Fj st.Uu x=some (y',R')) :Sat C { st with Uu:=R' } a w rho/\Uy w (Prv C.X (A2 R') rho) v y' /\ Kp C st.Uu R' w w rho rho:=by
 cases u with
 |p _ x hx=>simp only[Fj,Cd9,Cf2]at c;obtain⟨rfl,rfl⟩:=c;exact⟨h,hx.nP,Kp.refl _ _ _ _⟩
 |vec j base n' cap hl hr=>
  simp only[Fj]at c;split at c
  .rename_i e k n f vw g;simp only[Cd9,Cf2]at c;obtain⟨rfl,rfl⟩:=c;obtain⟨h1,o,q⟩:=h.viewed g;obtain⟨base',cap',d⟩:=Nb (h.hp.holds j _ g);rw[hr]at d;cases d;exact⟨h1,h1.sl (j:=j) (m:=n') (e:=e) (k:=k) (n:=n') (f:=f) (by simp[A4]) hr (Ce5 _),o,q⟩
  cases c
 |vecp j m base n cap hl hr hm=>
  simp only[Fj]at c;split at c
  .rename_i e k n' f vw g;simp only[Cd9,Cf2]at c;obtain⟨rfl,rfl⟩:=c;obtain⟨h1,o,q⟩:=h.viewed g;obtain⟨base',cap',d⟩:=Nb (h.hp.holds j _ g);rw[hr]at d;cases d;rw[Ck8 hm];exact⟨h1,h1.sl (j:=j) (m:=m) (e:=e) (k:=k) (n:=n) (f:=f) (by simp[A4]) hr hm,o,q⟩
  cases c
 |clo f x y l r hx hy hl hr=>
  have gen:(match Zq l,Zq r with
   |some a,some b=>some (PV.fn f a b,st.Uu)
   |_,_=>none)=some (y',R')->Sat C { st with Uu:=R' } a w rho/\Uy w (Prv C.X (A2 R') rho) (.func (.func f) x y) y' /\ Kp C st.Uu R' w w rho rho:=by
   intro c;split at c
   .rename_i a' b' ha hb;simp only[Cd9,Cf2]at c;obtain⟨rfl,rfl⟩:=c;exact⟨h,Yj.clo_fn ha hb (.clo f x y l r hx hy hl hr),Kp.refl _ _ _ _⟩
   cases c
  cases l with
  |cons _ _=>exact gen c
  |nil=>
   cases r with
   |cons _ _=>exact gen c
   |nil=>simp only[Fj,Cd9,Cf2]at c;obtain⟨rfl,rfl⟩:=c;have s : x = #[]:=Co6.1 (by simpa using hx);have t : y = #[]:=Co6.1 (by simpa using hy);subst s;subst t;exact⟨h,.v _,Kp.refl _ _ _ _⟩
 |reg=>simp[Fj]at c
 |elt=>simp[Fj]at c
 |yf=>simp[Fj]at c
 |Uz=>simp[Fj]at c
 |tup=>simp[Fj]at c
 |agr x l hx h1 ha=>
  simp only[Fj]at c;split at c
  .rename_i ps hp;simp only[Cd9,Cf2]at c;obtain⟨rfl,rfl⟩:=c;obtain⟨g1,g2⟩:=Rq hp;exact⟨h,.agg x ps (hx.trans g1.symm) (λi z=>h1 i (by omega)) (λi z=>g2 i (by omega) (ha i (by omega))),Kp.refl _ _ _ _⟩
  cases c
 |top=>simp[Fj]at c
end
section
variable {P:Program}
theorem Dn {t:TypeId}{k:TK}(h:tk P t=some k):∃d,P.underlying t=some d/\Zx d=k:=by
 unfold tk at h;cases a:P.underlying t with
 |none=>simp[a]at h
 |some d=>exact⟨d,rfl,by simpa[a]using h⟩
def P7 {t e:TypeId}(h:tk P t=some (.slice e)):P.underlying t=some (.slice e):=by obtain⟨d,a,hk⟩:=Dn h;cases d<;>simp[Zx]at hk<;>subst hk<;>exact a
def Lx {t:TypeId}(h:tk P t=some .str):P.underlying t=some .string:=by obtain⟨d,a,hk⟩:=Dn h;cases d<;>simp[Zx]at hk<;>exact a
def ZJ {t:TypeId}{k:IntKind}(h:tk P t=some (.int k)):P.underlying t=some (.int k):=by obtain⟨d,a,hk⟩:=Dn h;cases d<;>simp[Zx]at hk<;>subst hk<;>exact a
theorem BH7 {t:TypeId}(h:tk P t=some .bool):P.underlying t=some .bool:=by obtain⟨d,a,hk⟩:=Dn h;cases d<;>simp[Zx]at hk<;>exact a
def Nd {t k e:TypeId}(h:tk P t=some (.map k e)):P.underlying t=some (.map k e):=by
 obtain⟨d,a,hk⟩:=Dn h;cases d<;>simp[Zx]at hk
 grind
def Nf {t e:TypeId}{n:Nat}(h:tk P t=some (.arr n e)):P.underlying t=some (.array n e):=by
 obtain⟨d,a,hk⟩:=Dn h;cases d<;>simp[Zx]at hk
 grind
def Hs {t:TypeId}{fs:List (Nat×TypeId)}(h:tk P t=some (.struct fs)):∃fa:Array Field,P.underlying t=some (.struct fa)/\fs=fa.toList.map λf=>(f.offset,f.type):=by
 obtain⟨d,a,hk⟩:=Dn h;cases d<;>simp[Zx]at hk
 grind
theorem QX {t:TypeId}{n:Nat}(h:tsz P t=some n):∃i,P.info? t=some i/\i.size=n:=by
 unfold tsz at h;cases a:P.info? t with
 |none=>simp[a]at h
 |some d=>exact⟨d,rfl,by simpa[a]using h⟩
def CX {t:TypeId}{z:List PV}(h:Ri P t=some z):∃i v,P.info? t=some i/\i.zero=some v/\z=v.cells.toList.map Uf:=by
 unfold Ri at h;cases a:P.info? t with
 |none=>grind
 |some d=>cases b:d.zero<;>grind
variable (w:World)
def BY {t:TypeId}{d:TypeDesc}(h:P.underlying t=some d):(underlying t).run P w=.ok d w:=by simp[underlying,h]
def BH8 {t:TypeId}{i:TypeInfo}(h:P.info? t=some i):(typeInfo t).run P w=.ok i w:=by simp[typeInfo,h]
def Ly {t:TypeId}{n:Nat}(h:tsz P t=some n):(sizeOf t).run P w=.ok n w:=by
 obtain⟨i,a,rfl⟩:=QX h
 simp_all[sizeOf,BH8]
def Bo7 {t:TypeId}{i:TypeInfo}{v:Value}(h:P.info? t=some i)(a:i.zero=some v):(zeroValue t).run P w=.ok v w:=by
 simp_all[zeroValue,BH8]
def H8 {t:TypeId}{k:TK}(h:tk P t=some k):(isAgg t).run P w=.ok (Zy k) w:=by obtain⟨d,a,rfl⟩:=Dn h;cases d<;>simp[isAgg,BY w a,Zx,Zy]
end
section
variable {w:World}{Pi:Nat->Nat->Prop}{live:Nat->Prop}{rho:Nat->Value}
def RepL (w:World)(Pi:Nat->Nat->Prop)(live:Nat->Prop)(rho:Nat->Value)(f:Nat->Value)(cs:List AV):Prop:= ∀i,i<cs.length->Yj w Pi live rho (f i) (cs.getD i .top)/\(f i).oneCell' = true
def RepL.keeps {w' : World}{Pi' : Nat->Nat->Prop}{live' : Nat->Prop}{rho' : Nat->Value}(hk:Ux w Pi w' Pi')(hl:∀j,live j->live' j/\rho' j=rho j){f:Nat->Value}{cs:List AV}
 (h:RepL w Pi live rho f cs):RepL w' Pi' live' rho' f cs:=λi a=>⟨(h i a).1.keeps hk hl,(h i a).2⟩
def RepL.drop {f:Nat->Value}{cs:List AV}(h:RepL w Pi live rho f cs)(n:Nat):RepL w Pi live rho (λi=>f (n+i)) (cs.drop n):=by
 intro i a;simp at a
 have:=h (n+i) (by omega)
 grind
def RepL.take {f:Nat->Value}{cs:List AV}(h:RepL w Pi live rho f cs)(n:Nat):RepL w Pi live rho f (cs.take n):=by
 intro i a;simp at a
 have:=h i (by omega)
 grind
def RepL.mkAgg {f:Nat->Value}{cs:List AV}(h:RepL w Pi live rho f cs){vs:Array Value}(hs:vs.size=cs.length)(b:∀i,i<cs.length->vs.getD i undef=f i):Yj w Pi live rho (.agg vs) (mkAgg cs):=by
 unfold AM.mkAgg;split
 .rename_i l hl
  have:=Nc hl
  subst this;simp only[Co9]at hs b h;refine .p _ _ (.agg vs l hs (λi a=>?_) λi a=>?_)
  .rw[b i a];exact (h i (by grind)).2
  rw[b i a]
  have:=(h i (by grind)).1
  simp only[Ce0,Ce7,Ce3 a,Cf0,Ce6]at this⊢;exact this.toP
 exact .agr vs cs hs (λi a=>by rw[b i a];exact (h i a).2) λi a=>by rw[b i a];exact (h i a).1
def AY4 {v:Value}(h:v.oneCell' = true):v.cells = #[v]:=by cases v<;>first|rfl|grind[Value.oneCell']
def KP {v:Value}{x:AV}(h:Yj w Pi live rho v x)(hs:Eo x=true) :v.cells.size=(cellsOf x).length/\RepL w Pi live rho (λi=>v.cells.getD i undef) (cellsOf x):=by
 have one:∀{v:Value}{x:AV},v.oneCell' = true->Yj w Pi live rho v x->v.cells.size=[x].length/\RepL w Pi live rho (λi=>v.cells.getD i undef) [x]:=by
  intro v x h1 d;rw[AY4 h1];refine⟨rfl,λi c=>?_⟩;simp only[Cm0]at c;obtain rfl:i=0:=by omega
  exact⟨d,h1⟩
 cases h with
 |p _ y hy=>
  cases y with
  |agg cs=>
   cases hy with
   |agg vs _ hsz h1 h=>
    refine⟨by simp[Value.cells,cellsOf,hsz],λi c=>?_⟩;simp only[cellsOf,Co9]at c⊢;refine⟨?_,h1 i c⟩
    have:=h i c
    simp only[Ce0,Ce7,Ce3 c,Cf0,Ce6]at this⊢;exact .p _ _ this
  |v y=>exact one (hy.cell (by simpa[Eo,AX5]using hs)) (.p _ _ hy.nP)
  |bb b=>exact one (hy.cell rfl) (.p _ _ hy)
  |str l=>exact one (hy.cell rfl) (.p _ _ hy)
  |sl nn k n f=>exact one (hy.cell rfl) (.p _ _ hy)
  |ptr cs=>exact one (hy.cell rfl) (.p _ _ hy)
  |iface t a=>exact one (hy.cell rfl) (.p _ _ hy)
  |fn f a b=>exact one (hy.cell rfl) (.p _ _ hy)
 |reg j off b hl h=>exact one rfl (.reg j off b hl h)
 |vec j base n cap hl h=>exact one rfl (.vec j base n cap hl h)
 |vecp j m base n cap hl h hm=>exact one rfl (.vecp j m base n cap hl h hm)
 |elt j k i off b n cap hl h=>exact one rfl (.elt j k i off b n cap hl h)
 |Uz j r hl h=>exact one rfl (.Uz j r hl h)
 |clo f x y a b hx hy ha hb=>exact one rfl (.clo f x y a b hx hy ha hb)
 |tup x a hx ha=>simp[Eo,AX5]at hs
 |agr x a hx h1 ha=>exact⟨hx,λi c=>⟨ha i c,h1 i c⟩⟩
 |yf j l hl h=>exact one rfl (.yf j l hl h)
 |top=>simp[Eo,AX5]at hs
end
section
variable {P:Program}{C:Ctx}{st:St}{a:Act}{w:World}{rho:Nat->Value}{o:Oper}{out:Out}{d:Nat}
def OpOk (P:Program)(C:Ctx)(o:Oper)(st:St)(a:Act)(w:World)(rho:Nat->Value)(out:Out):Prop:= ∃nx v w' rho',(execOp a.eval o).run P w=.ok nx w' /\ (nx=.value v \/ (nx=.skip/\v=undef))/\Sat C { st with Uu:=out.Uu } a w' rho' /\ Kp C st.Uu out.Uu w w' rho rho' /\ Yj w' (Prv C.X (A2 out.Uu) rho') (Lv (A2 out.Uu)) rho' v out.val
def OpOk.pure (h:Sat C st a w rho){c:List Prop}{v:Value}{x:AV}(b:(execOp a.eval o).run P w=.ok (.value v) w)(hx:RS C st w rho v x):OpOk P C o st a w rho ⟨c,x,st.Uu⟩:=
 ⟨_,v,w,rho,b,.inl rfl,h,Kp.refl _ _ _ _,hx⟩
def Uy.toInt {w:World}{Pi:Nat->Nat->Prop}{v:Value}{k:IntKind}{n:Int}(h:Uy w Pi v (.v (.int k n))):v=.int k n:=by cases h;rfl
def Uy.toBool {w:World}{Pi:Nat->Nat->Prop}{v:Value}{b:Bool}(h:Uy w Pi v (.bb b)):v=.bool b:=by cases h;rfl
def Uy.toV {w:World}{Pi:Nat->Nat->Prop}{v x:Value}(h:Uy w Pi v (.v x)):v=x:=by cases h;rfl
def Uy.toStr {w:World}{Pi:Nat->Nat->Prop}{v:Value}{l:List UInt8}(h:Uy w Pi v (.str l)):v=.string ⟨l.toArray⟩:=by cases h;rfl
def AY5 (h:Sat C st a w rho){x:Operand}(b:o.op=.move x \/ o.op=.assign x)(d:out.Uu=st.Uu)(f:out.val=aev st.env x):OpOk P C o st a w rho out:=by obtain⟨c,v,r⟩:=out;simp only at d f;subst d;subst f;refine OpOk.pure (v:=a.eval x) h ?_ (h.aev x);rcases b with b|b<;>simp[execOp,b]
def BH9 (h:Sat C st a w rho){c x y:Operand}(f:o.op=.pick c x y)(b:aop P st.env st.Uu d o.op=some out):OpOk P C o st a w rho out:=by
 rw[f]at b;simp only[aop]at b;have hc:=h.aev c;split at b
 .rename_i hk;cases b;rw[hk]at hc;refine OpOk.pure (v:=a.eval x) h ?_ (h.aev x);simp[execOp,f,hc.toP.toV,asBool]
 .rename_i hk;cases b;rw[hk]at hc;refine OpOk.pure (v:=a.eval y) h ?_ (h.aev y);simp[execOp,f,hc.toP.toV,asBool]
 .rename_i hk;cases b;rw[hk]at hc;refine OpOk.pure (v:=a.eval x) h ?_ (h.aev x);simp[execOp,f,hc.toP.toBool,asBool]
 .rename_i hk;cases b;rw[hk]at hc;refine OpOk.pure (v:=a.eval y) h ?_ (h.aev y);simp[execOp,f,hc.toP.toBool,asBool]
 grind
theorem Dp (d i:Nat):1000<=nid d i:=by grind[nid]
def Rr {w:World}{Pi:Nat->Nat->Prop}{live:Nat->Prop}{rho:Nat->Value}{v:Value}{t:TypeId}{ps:List PV}(h:Yk w Pi live rho v (.cells (ps.map .p))):Yk w Pi live rho v (Xe P t ps):=by
 unfold Xe;split
 .split
  .rename_i n e hk l;obtain⟨b,c,T,h1,f,g,j⟩:=h;have g:c.size=ps.length:=by grind
   refine⟨b,c,T,h1,f,by omega,λi m=>?_⟩;have a : i<ps.length:=by omega
   have d:=j i (by simpa using a);have e:(ps.map AV.p).getD i .top=.p (ps.getD i default):=by grind
   rw[e]at d;have e2:(ps.map nP).getD i default=nP (ps.getD i default):=by grind
   show Uy w Pi (c.getD i undef) ((ps.map nP).getD i default)/\_;rw[e2];exact⟨d.1.toP.nP,d.2⟩
  omega
 omega
def ZK {w:World}{Pi:Nat->Nat->Prop}{live:Nat->Prop}{rho:Nat->Value}{v:Value}{t:TypeId}{x:AV}(h:Yk w Pi live rho v (.cells (cellsOf x))):Yk w Pi live rho v (Pw P t x):=by
 unfold Pw;split
 .exact Rr h
 omega
theorem Vq {v:Value}{t:TypeId}{ps:List PV}{b:Nat}:G0 v (Xe P t ps) b↔(match v with | .pointer (some a)=>some a.block|_=>none:Option Nat)=some b:=by
 unfold Xe;split
 .split<;>rfl
 rfl
theorem Ao5 {v:Value}{t:TypeId}{x:AV}{b:Nat}:G0 v (Pw P t x) b↔(match v with | .pointer (some a)=>some a.block|_=>none:Option Nat)=some b:=by
 unfold Pw;split
 .exact Vq
 rfl
theorem AC3 {t:TypeId}{ps:List PV}(r:List (List PV))(b:Bool):Xe P t ps ≠ .yld r b:=by
 grind[Xe]
def AY6 {t:TypeId}{x:AV}(r:List (List PV))(b:Bool):Pw P t x ≠ .yld r b:=by
 unfold Pw
 grind[AC3]
def Bo8 (h:Sat C st a w rho){t:TypeId}(j:o.op=.alloc t)(f:aop P st.env st.Uu d o.op=some out):OpOk P C o st a w rho out:=by
 rw[j]at f;simp only[aop]at f
 repeat' split at f<;>try contradiction
 rename_i z hn l c;cases f;obtain⟨i,v,g,m,rfl⟩:=CX l;obtain⟨h1,n,q⟩:=h.fresh (Dp d 0) hn (Xe P t (v.cells.toList.map Uf)) (.pointer (some ⟨w.heap.size,0,none⟩)) (w':=w.alloc (.cells v.cells t)) (by simp)
  (λb hb=>heap_alloc_old w _ b hb) (λb hb=>by grind[Vq]) (λhk=>by
   refine Rr ⟨w.heap.size,v.cells,t,rfl,heap_alloc_new w _,by simp,λi g=>?_⟩;simp at g;have e:(v.cells.getD i undef)=v.cells[i]:=by simp_all
   rw[e];refine⟨?_,?_⟩
   .simp only[Ce0,Ce7,Ci8,Ch4 g,Cf0,Ce6];exact .p _ _ (O6 _ _ _)
   simp only[Cn3,Ce8,Function.comp]at c;exact (O6 w (λ_ _=>False) _).cell (c _ (by simp))) (λr b=>AC3 r b)
 refine⟨_,_,_,_,?_,.inl rfl,h1,⟨n,q⟩,.reg _ 0 w.heap.size (by simp[Lv,A4]) (by simp)⟩
 simp_all[execOp,Instr.alloc,Bo7,newVar,newRow]
def BU6 (h:Sat C st a w rho){t:TypeId}{x:Operand}(g:o.op=.box t x)(c:aop P st.env st.Uu d o.op=some out):OpOk P C o st a w rho out:=by
 rw[g]at c;simp only[aop]at c;split at c
 .rename_i hn hs;cases c;obtain⟨f,hl⟩:=KP (h.aev x) hs;obtain⟨h1,j,l⟩:=h.fresh (Dp d 0) hn (Pw P t (aev st.env x)) (.pointer (some ⟨w.heap.size,0,none⟩)) (w':=w.alloc (.cells (a.eval x).cells t)) (by simp)
   (λb hb=>heap_alloc_old w _ b hb) (λb hb=>by grind[Ao5]) (λhk=>by
    refine ZK ⟨w.heap.size,(a.eval x).cells,t,rfl,heap_alloc_new w _,f,hl.keeps hk ?_⟩;intro i m;by_cases e:i=nid d 0
    all_goals simp_all[Lv,Lp,A4,Js,Cl4,trivial]) (λr b=>AY6 r b)
  refine⟨_,_,_,_,?_,.inl rfl,h1,⟨j,l⟩,.reg _ 0 w.heap.size (by simp[Lv,A4]) (by simp)⟩
  simp_all[execOp,Instr.box,newVar,newRow]
 grind
def BI0 {t:TypeId}{k:TK}(h:tk P t=some k)(w:World):(isAgg t).run P w=.ok (Zy k) w:=H8 w h
def AL {Pi:Nat->Nat->Prop}{live:Nat->Prop}{f:Nat->Value}{cs:List AV}{t:TypeId}{x:AV}{b off:Nat}(hl:RepL w Pi live rho f cs)
 (hc:∀i,i<cs.length->w.cell? ⟨b,off+i,none⟩=some (f i)) (a:ldA P t cs=some x):∃v,(loadVar t ⟨b,off,none⟩).run P w=.ok v w/\Yj w Pi live rho v x:=by
 unfold ldA at a;split at a
 .rename_i k n hk hn;split at a
  .rename_i d;split at a
   .rename_i hle;cases a;have g:=run_loadCells (P:=P) w ⟨b,off,none⟩ n f (λj m=>by rw[Cj4];grind);refine⟨_,?_,(hl.take n).mkAgg (vs:=((List.range n).map f).toArray) (by grind) (λi o=>?_)⟩
    all_goals simp_all[loadVar,H8,Ly,Ct0,Ce1]
   grind
  rename_i d;cases cs with
  |nil=>grind
  |cons c r=>
   cases a;have l:=hc 0 (by simp);rw[Cm1]at l;refine⟨f 0,?_,(hl 0 (by simp)).1⟩
   simp_all[loadVar,H8]
 grind
def AC4 (l:List PV):Zq (l.map .p)=some l:=by
 induction l with
 |nil=>rfl
 |cons x r ih=>grind[Zq]
def AY7 {t:TypeId}{cs:List PV}{c:List Prop}{x:AV}(a:ldP P t cs=some (c,x))(hc:D2 c):ldA P t (cs.map .p)=some x:=by
 unfold ldP at a;unfold ldA;split at a
 .rename_i k n hk hn;split at a
  .rename_i b;cases a;simp only[D2]at hc;simp only[Co9,hc,Lo,<- List.map_take,mkAgg,AC4]
  grind
 grind
def Vr (h:Sat C st a w rho){v:Value}{x y:AV}{t:TypeId}{c:List Prop}(hv:RS C st w rho v x)(o:load P st.Uu t x=some (c,y))(hc:D2 c) :∃u,(Instr.loadAt t v).run P w=.ok u w/\RS C st w rho u y:=by
 cases hv with
 |reg j off b hl hr=>
  simp only[load]at o;split at o
  .rename_i cs hj;split at o
   .rename_i y' z;cases o;have hh:=h.hp.holds j _ hj;rw[hr]at hh;obtain⟨b',c,T,r,d,hsz,g⟩:=hh;cases r;obtain⟨u,hu,hru⟩:=AL (P:=P) (t:=t) (b:=b) (off:=off) (RepL.drop (f:=λi=>c.getD i undef) g off) (λi s=>by
     grind[List.length_drop,cell_of_heap]) z
    grind[Instr.loadAt,Instr.sureAddr]
   grind
  .rename_i n f hj;have hh:=h.hp.holds j _ hj;rw[hr]at hh;obtain⟨b',c,T,r,d,hsz,g⟩:=hh;cases r;split at o
   .rename_i k m hk hm;split at o
    .rename_i hag;split at o
     .rename_i hmn;cases o;obtain⟨hmn,hoff⟩:=hmn;subst hoff;subst hmn;obtain⟨u,hu,hru⟩:=AL (P:=P) (t:=t) (b:=b) (off:=0) (w:=w) (rho:=rho) (Pi:=PiS C st rho) (live:=Lv (A2 st.Uu)) (f:=λi=>c.getD i undef) (cs:=(Fa m f).map .p) (x:=.p (.agg (Fa m f)))
       (λi s=>by
        have s:i<m:=by grind[Fa]
        have e:((Fa m f).map AV.p).getD i .top=.p (f i):=by grind[Fa]
        rw[e];exact⟨.p _ _ (g i s).1,(g i s).2⟩)
       (λi s=>by
        have s:i<m:=by grind[Fa]
        rw[Ch0]
        grind[cell_of_heap])
       (by
        have hl:((Fa m f).map AV.p).length=m:=by simp[Fa]
        simp_all[ldA,Ce5,Lo,List.take_of_length_le,mkAgg,AC4])
      grind[Instr.loadAt,Instr.sureAddr]
     grind
    rename_i hag;cases o;have hoff:off<n:=hc;refine⟨c.getD off undef,?_,.p _ _ (g off hoff).1⟩;have h0:w.cell? ⟨b,off,none⟩=some (c.getD off undef):=cell_of_heap d (by omega)
    have:(loadVar t ⟨b,off,none⟩).run P w=.ok (c.getD off undef) w:=by simp_all[loadVar,H8]
    grind[Instr.loadAt,Instr.sureAddr]
   grind
  .rename_i T u l jr hj;split at o
   .rename_i y' z;cases o;obtain⟨hlj,hs,b',r,d⟩:=h.hp.holds j _ hj;rw[hr]at r;cases r;obtain⟨base,m,cap,hv⟩:=hs.2 rfl;have d:w.heap[b]? = some (.cells #[ite (u=0) (.pointer none) (.pointer (some ⟨b,0,none⟩)),rho jr] T (0,0)):=d;have g:RepL w (PiS C st rho) (Lv (A2 st.Uu)) rho (λi=>(#[ite (u=0) (Value.pointer none) (.pointer (some ⟨b,0,none⟩)),rho jr]:Array Value).getD i undef) (BQ9 j u jr):=λi s=>match i,s with
     |0,_=>by
      by_cases hu:u=0
      .simp only[BQ9,hu,Lo];exact⟨.p _ _ (.v _),rfl⟩
      simp only[BQ9,hu,Lp];exact⟨.reg j 0 b hl hr,rfl⟩
     |1,_=>by
      simp only[BQ9];refine⟨?_,?_⟩
      .show Yj _ _ _ _ (rho jr) (.vec jr);rw[hv];exact .vec jr base m cap hlj hv
      show (rho jr).oneCell' = true;rw[hv];rfl
     |_+2,s=>Ke s (by show ¬_<2;omega)
    obtain⟨u',hu,hru⟩:=AL (P:=P) (t:=t) (b:=b) (off:=off) (RepL.drop g off) (λi s=>by simp at s;exact cell_of_heap d (by show off+i<2;have:(BQ9 j u jr).length=2:=rfl;omega)) z
    grind[Instr.loadAt,Instr.sureAddr]
   grind
  grind
 |elt j k i off b n cap hl hr=>
  simp only[load]at o;split at o
  .rename_i e m n' f vw hj;split at o
   .rename_i hkm;subst hkm;split at o
    .rename_i c' y' z;cases o;have hc':=(Rm _ _).1 hc;have hlt:=hc'.2;have hh:=h.hp.holds j _ hj;rw[hr]at hh;rcases hh with⟨hn,_⟩ | ⟨b',cap',cc,r,d,hncap,hsz,hmax,hlen,g⟩
     .omega
     cases r;have hle:n*k<=cc.size:=by rw[hsz];simp_all[Cf4]
     obtain⟨u,hu,hru⟩:=AL (P:=P) (t:=t) (b:=b) (off:=i*k+off) (w:=w) (rho:=rho) (Pi:=PiS C st rho) (live:=Lv (A2 st.Uu)) (f:=λl=>cc.getD (i*k+(off+l)) undef) (cs:=((f i).drop off).map .p)
      (λl hl=>by
       simp only[Co9,Cl5,hlen i hlt]at hl;obtain⟨h1,h2⟩:=g i (off+l) hlt (by omega);refine⟨?_,h2⟩
       have:l<((f i).drop off).length:=by grind
       simp only[Ce0,Ce7,Ce3 this,Cf0,Ce6];have h3:(f i).getD (off+l) default=((f i).drop off)[l]:=by rw[List.getElem_drop,Ce0,Ce3 (by rw[hlen i hlt];omega),Ce6]
       rw[h3]at h1;exact .p _ _ h1)
      (λl hl=>by
       grind[List.length_map,List.length_drop,M1,Nat.add_assoc,cell_of_heap]) (AY7 z hc'.1)
     grind[Instr.loadAt,Instr.sureAddr]
    grind
   grind
  .rename_i e n' jr i0 x0 hj
   repeat' split at o<;>try contradiction
   rename_i q hk hag;obtain⟨hag,rfl,rfl⟩:=hag;cases o;obtain⟨hin,rfl⟩:=hc;obtain⟨rv,_,_,hh⟩:=h.hp.holds j _ hj;rw[hr]at hh;rcases hh with⟨hn,_⟩ | ⟨b',cap',cc,r,d,hncap,hsz,hmax,hrow,hx⟩
   .omega
   cases r;refine⟨cc.getD i undef,?_,hx⟩;have h0:w.cell? ⟨b,i,none⟩=some (cc.getD i undef):=cell_of_heap d (by omega)
   have:(loadVar t ⟨b,i,none⟩).run P w=.ok (cc.getD i undef) w:=by simp_all[loadVar,H8]
   rw[Ci3,Cm1]
   grind[Instr.loadAt,Instr.sureAddr]
  grind
 |p _ x hx=>
  cases hx with
  |ptr b off cs f hcell g=>
   simp only[load]at o;obtain⟨u,hu,hru⟩:=AL (P:=P) (t:=t) (b:=b) (off:=off) (w:=w) (rho:=rho) (Pi:=PiS C st rho) (live:=Lv (A2 st.Uu)) (f:=f) (cs:=cs.map .p)
    (λl hl=>by
     simp at hl;refine⟨?_,(hcell l hl).2.2⟩
     have:=g l hl
     simp only[Ce0,Ce7,Ce3 hl,Cf0,Ce6]at this⊢;exact .p _ _ this)
    (by grind) (AY7 o hc)
   grind[Instr.loadAt,Instr.sureAddr]
  |_=>simp[load]at o
 |_=>simp[load]at o
def BI1 (h:Sat C st a w rho){t:TypeId}{x:Operand}(f:o.op=.load t x)(b:aop P st.env st.Uu d o.op=some out)(hc:D2 out.cond):OpOk P C o st a w rho out:=by
 rw[f]at b;simp only[aop]at b;split at b
 .rename_i c y hl;cases b;obtain⟨u,g,i⟩:=Vr h (h.aev x) hl hc
  simp_all[OpOk.pure,execOp]
 grind
end
def J0 {α : Type}(l new:List α)(off:Nat)(h:off+new.length<=l.length):(splice l off new).length=l.length:=by simp only[splice,Cg1,Ct0,Cl5];omega
def Z7 {α : Type}(l new:List α)(off i:Nat)(d : α)(h:off+new.length<=l.length) :(splice l off new).getD i d=ite (off<=i/\i<off+new.length) (new.getD (i-off) d) (l.getD i d):=by
 simp only[splice,Ce0,List.getElem?_append,Cm2,Cp8,Cg1,Ct0];have hm:min off l.length=off:=by omega
 rw[hm];by_cases h1:i<off
 .have b:i<off+new.length:=by omega
  have a:¬(off<=i):=by omega
  simp[h1,b,a]
 by_cases b:i<off+new.length
 .have a:off<=i:=by omega
  simp[h1,b,a]
 have a:off+new.length+(i-(off+new.length))=i:=by omega
 simp[b,a]
theorem E5 (c:Array Value)(i:Nat):c.getD i undef=c.toList.getD i undef:=by simp[Ce1,Ce0]
def AY8 {l i k a b:Nat}(h:l*k+a=i*k+b)(ha:a<k)(hb:b<k):l=i/\a=b:=by
 have h1:(l*k+a) / k=l:=by rw[Cn4,Cu2 (by omega),Cl8 ha];omega
 have c:(i*k+b) / k=i:=by rw[Cn4,Cu2 (by omega),Cl8 hb];omega
 have:l=i:=by rw[<- h1,h,c]
 subst this;exact⟨rfl,by omega⟩
section
variable {w:World}{Pi:Nat->Nat->Prop}{live:Nat->Prop}{rho:Nat->Value}
def RepL.splice {c:List Value}{cs:List AV}{vs:List Value}{new:List AV}{off:Nat}(hs:c.length=cs.length)(h:RepL w Pi live rho (λi=>c.getD i undef) cs)
 (hn:vs.length=new.length) (h' : RepL w Pi live rho (λi=>vs.getD i undef) new) (a:off+new.length<=cs.length):RepL w Pi live rho (λi=>(splice c off vs).getD i undef) (splice cs off new):=by
 intro i b;rw[J0 _ _ _ a]at b;simp only[Z7 c vs off i undef (by omega),Z7 cs new off i .top a,hn];split
 .exact h' (i-off) (by omega)
 exact h i b
end
section
variable {P:Program}{C:Ctx}{st:St}{a:Act}{w:World}{rho:Nat->Value}{o:Oper}{out:Out}{d:Nat}
def EB {v:Value}{x:AV}{w:World}{Pi:Nat->Nat->Prop}{live:Nat->Prop}(hc:v.cells.size=(cellsOf x).length/\RepL w Pi live rho (λi=>v.cells.getD i undef) (cellsOf x)) :∀u∈v.cells.toList,u.oneCell' = true:=by
 intro u b;obtain⟨i,a,rfl⟩:=Ck5 b;simp only[Cn6]at a
 have:=(hc.2 i (by omega)).2
 simpa[Ce1,a]using this
def EC {b off:Nat}{T t:TypeId}{cur:Array Value}{v:Value}{m:Nat}(hm:tsz P t=some m)(hs:v.cells.size=m)(a:w.heap[b]? = some (.cells cur T (0,0)))(c:off+m<=cur.size)
 (h1:∀u∈v.cells.toList,u.oneCell' = true):(storeVar t ⟨b,off,none⟩ v).run P w=.ok () (w.setRow b (splice cur.toList off v.cells.toList).toArray):=by
 have:=run_storeCells_at (P:=P) b off T v.cells.toList 0 cur w a (by simp[hs];omega) h1
 simp only[Cm1]at this;simp[storeVar,Ly w hm,hs,this,splice]
def Rs (h:Sat C st a w rho){t:TypeId}{va vx:Value}{x y:AV}(hva:RS C st w rho va x)(hvx:RS C st w rho vx y){c:List Prop}{R' : C6}
 (he:store P st.Uu t x y=some (c,R')) (hc:D2 c):∃w',(Instr.storeAt t va vx).run P w=.ok () w' /\ Sat C { st with Uu:=R' } a w' rho/\Kp C st.Uu R' w w' rho rho:=by
 unfold store at he;split at he
 .rename_i m hm hsto;have d:=KP hvx hsto;cases hva with
  |reg j off b hl hr=>
   simp only at he;split at he
   .rename_i cs hj;split at he
    .rename_i hsz;cases he;have hh:=h.hp.holds j _ hj;rw[hr]at hh;obtain⟨b',c,T,o,q,r,hrep⟩:=hh;cases o;have s:=EC (P:=P) (t:=t) (off:=off) (v:=vx) hm (d.1.trans hsz.1) q (by omega) (EB d);obtain⟨h1,h2,h3⟩:=h.modify (ob:=.cells (splice cs off (cellsOf y))) hj (b:=b) (by simp[G0,R8,hr]) (λ_=>trivial) (λb' o=>by simp[G0,R8,hr]at o;exact o.symm)
      (w':=w.setRow b (splice c.toList off vx.cells.toList).toArray) (by simp) (λb' o=>setRow_other w b b' _ o) (λhk=>by
       refine⟨b,_,T,hr,setRow_heap w b c _ T _ q,?_,?_⟩
       .rw[Cj7,J0 _ _ _ (by simp;omega),J0 _ _ _ (by omega)];simpa using r
       have hlive:∀i,Lv (A2 st.Uu) i->Lv (A2 (ins j (.cells (splice cs off (cellsOf y))) st.Uu)) i/\rho i=rho i:=by
        intro i hi;refine⟨?_,rfl⟩;simp only[Lv,A4];split
        .rfl
        exact hi
       have:=RepL.splice (c:=c.toList) (cs:=cs) (vs:=vx.cells.toList) (new:=cellsOf y) (off:=off) (by simpa using r)
        (RepL.keeps hk hlive (by intro i hi;have:=hrep i hi;simpa only[E5]using this)) (by simpa using d.1)
        (RepL.keeps hk hlive (by intro i hi;have:=d.2 i hi;simpa only[E5]using this)) (by omega)
       intro i hi
       have:=this i hi
       simpa[Ce1,Ce0]using this)
     exact⟨_,by simp[Instr.storeAt,Instr.sureAddr,s],h1,h2,h3⟩
    cases he
   .rename_i n f hj;have hh:=h.hp.holds j _ hj;rw[hr]at hh;obtain⟨b',c,T,o,q,r,hrep⟩:=hh;cases o;have fin:∀g:Nat->PV,vx.cells.size=m->off+m<=n->(∀i,i<n->¬(off<=i/\i<off+m)->g i=f i)->(∀i,i<m->∃y',(cellsOf y).getD i .top=.p y' /\ g (off+i)=y') ->
     ∃w',(Instr.storeAt t (.pointer (some ⟨b,off,none⟩)) vx).run P w=.ok () w' /\ Sat C { st with Uu:=ins j (.arr n g) st.Uu } a w' rho/\Kp C st.Uu (ins j (.arr n g) st.Uu) w w' rho rho:=by
     intro g hvs hle hg1 hg2;have s:=EC (P:=P) (t:=t) (off:=off) (v:=vx) hm hvs q (by omega) (EB d);obtain⟨h1,h2,h3⟩:=h.modify (ob:=.arr n g) hj (b:=b) (by simp[G0,R8,hr]) (λ_=>trivial) (λb' o=>by simp[G0,R8,hr]at o;exact o.symm)
      (w':=w.setRow b (splice c.toList off vx.cells.toList).toArray) (by simp) (λb' o=>setRow_other w b b' _ o) (λhk=>by
       refine⟨b,_,T,hr,setRow_heap w b c _ T _ q,?_,λi hi=>?_⟩
       .rw[Cj7,J0 _ _ _ (by simp;omega)];simpa using r
       have e1:((splice c.toList off vx.cells.toList).toArray).getD i undef=(splice c.toList off vx.cells.toList).getD i undef:=by simp[Ce1,Ce0]
       rw[e1,Z7 _ _ _ _ _ (by simp;omega)];by_cases hpos:off<=i/\i<off+vx.cells.toList.length
       .rw[Jk hpos];have hi2:i-off<m:=by simp at hpos;omega
        obtain⟨y',hy1,hy2⟩:=hg2 (i-off) hi2;rw[show off+(i-off)=i by omega]at hy2;have hc2:=d.2 (i-off) (by omega);rw[hy1]at hc2;rw[hy2];simp only[E5]at hc2;exact⟨hc2.1.toP.keeps hk,hc2.2⟩
       rw[Js hpos,<- E5,hg1 i hi (by simp at hpos⊢;omega)];exact⟨(hrep i hi).1.keeps hk,(hrep i hi).2⟩)
     exact⟨_,by simp[Instr.storeAt,Instr.sureAddr,s],h1,h2,h3⟩
    split at he
    .rename_i ps;split at he
     .rename_i hmn;cases he;obtain⟨hoff,hpl⟩:off=0/\ps.length=n:=hc;subst hoff;refine fin _ ?_ (by omega) (λi hi hn=>Ke ⟨Cl6 _,by omega⟩ hn) (λi hi=>?_)
      .rw[d.1];simp[cellsOf];omega
      refine⟨ps.getD i default,?_,by rw[Ch0]⟩;simp[cellsOf,Ce0,show i<ps.length by omega]
     cases he
    .rename_i y' hna;split at he
     .rename_i hm1;cases he;have hoff:off<n:=hc;have hco:cellsOf (.p y')=[.p (nP y')]:=by
       cases y' with
       |agg ps=>exact Ke rfl (hna ps)
       |_=>rfl
      refine fin _ ?_ (by omega) (λi hi hn=>?_) (λi hi=>?_)
      .rw[d.1,hco];simp;omega
      .show (ite (i=off) (nP y') (f i))=f i;rw[Js (by omega)]
      obtain rfl:i=0:=by omega
      exact⟨nP y',by rw[hco];rfl,by simp⟩
     cases he
    cases he
   .rename_i T u l jr0 hj
    repeat' split at he<;>try contradiction
    rename_i jr hh2;cases he;obtain⟨⟨hm1,hoff⟩,hne⟩:=hh2;subst hoff;obtain⟨hlj,hs,b',o,q⟩:=h.hp.holds j _ hj;rw[hr]at o;cases o;have q:w.heap[b]? = some (.cells #[ite (u=0) (.pointer none) (.pointer (some ⟨b,0,none⟩)),rho jr0] T (0,0)):=q;obtain⟨base,n,cap,hvx2,hvr,hljr⟩:∃base n cap,vx=.slice base n cap/\rho jr=.slice base n cap/\Lv (A2 st.Uu) jr:=by
     cases hvx with
     |vec _ base n cap hl hr=>exact⟨base,n,cap,rfl,hr,hl⟩
    have s:=EC (P:=P) (t:=t) (off:=1) (v:=vx) (m:=m) hm (by rw[hvx2,hm1];rfl) q (by show 1+m<=2;omega) (EB d);obtain⟨h1,h2,h3⟩:=h.modify (ob:=.blk (0::T::u::l) jr) hj (b:=b) (by simp[G0,R8,hr]) (λ_=>trivial) (λb' o=>by simp[G0,R8,hr]at o;exact o.symm)
     (w':=w.setRow b (splice (#[ite (u=0) (Value.pointer none) (.pointer (some ⟨b,0,none⟩)),rho jr0]:Array Value).toList 1 vx.cells.toList).toArray) (by simp) (λb' o=>setRow_other w b b' _ o) (λhk=>by
      refine⟨?_,⟨λvs e=>(by rw[hvr]at e;cases e),λ_=>⟨_,_,_,hvr⟩⟩,b,hr,?_⟩
      .simp only[Lv,A4];split
       .rfl
       exact hljr
      rw[setRow_heap w b _ _ T _ q,hvr,hvx2];rfl)
    exact⟨_,by simp[Instr.storeAt,Instr.sureAddr,s],h1,h2,h3⟩
   cases he
  |elt j k i off b n cap hl hr=>
   simp only at he;split at he
   .rename_i e k' n' f p hj;split at he
    .rename_i hkk;subst hkk;cases he;obtain⟨hpl,hin,hoff⟩:=hc;have hh:=h.hp.holds j _ hj;rw[hr]at hh;rcases hh with⟨hn,_⟩ | ⟨b',cap',c,o,q,hncap,r,hmax,hlen,hrep⟩
     .cases hn
     cases o;have hcp:(cellsOf (.p p)).length=(CW p).length:=by cases p<;>simp[cellsOf,CW]
     have hcp' : cellsOf (.p p)=(CW p).map .p:=by cases p<;>simp[cellsOf,CW]
     have hle:n*k<=c.size:=by rw[r];exact Cf4 k hncap
     have hik:i*k+k<=n*k:=by rw[<- Cq9];exact Cf4 k hin
     have s:=EC (P:=P) (t:=t) (off:=i*k+off) (v:=vx) hm (d.1.trans (hcp.trans hpl)) q (by omega) (EB d);have hvl:vx.cells.toList.length=m:=by simpa using d.1.trans (hcp.trans hpl)
     obtain⟨h1,h2,h3⟩:=h.modify (ob:=.vec e k n (λl=>ite (l=i) (splice (f l) off (CW p)) (f l)) false) hj (b:=b) (by simp[G0,R8,hr]) (λ_=>trivial) (λb' o=>by simp[G0,R8,hr]at o;exact o.symm)
      (w':=w.setRow b (splice c.toList (i*k+off) vx.cells.toList).toArray) (by simp) (λb' o=>setRow_other w b b' _ o) (λhk=>by
       have hlive:∀l,Lv (A2 st.Uu) l->Lv (A2 (ins j (.vec e k n (λl=>ite (l=i) (splice (f l) off (CW p)) (f l)) false) st.Uu)) l/\rho l=rho l:=by
        intro l hl;refine⟨?_,rfl⟩;simp only[Lv,A4];split
        .rfl
        exact hl
       refine .inr ⟨b,cap,_,hr,setRow_heap w b c _ e _ q,hncap,?_,hmax,λl hl=>?_,λl jj hl hjj=>?_⟩
       .rw[Cj7,J0 _ _ _ (by simp;omega)];simpa using r
       .by_cases z:l=i
        .subst z;simp only[Lo];rw[J0 _ _ _ (by rw[hlen l hl];omega)];exact hlen l hl
        simp only[z,Lp];exact hlen l hl
       have hold:=hrep l jj hl hjj;have e1:((splice c.toList (i*k+off) vx.cells.toList).toArray).getD (l*k+jj) undef=(splice c.toList (i*k+off) vx.cells.toList).getD (l*k+jj) undef:=by simp[Ce1,Ce0]
       rw[e1,Z7 _ _ _ _ _ (by simp at hvl⊢;omega)];by_cases hpos:i*k+off<=l*k+jj/\l*k+jj<i*k+off+vx.cells.toList.length
       .rw[Jk hpos];have z:=AY8 (l:=l) (i:=i) (k:=k) (a:=jj) (b:=l*k+jj-i*k) (by omega) hjj (by omega);obtain⟨rfl,hjj'⟩:=z;simp only[Lo];rw[Z7 _ _ _ _ _ (by rw[hlen l hl];omega),Jk (by omega)];have hc2:=d.2 (jj-off) (by omega);rw[hcp']at hc2;simp only[Ce0,Ce7,Ce3 (show jj-off<(CW p).length by omega),Cf0,Ce6]at hc2⊢;rw[show l*k+jj-(l*k+off)=jj-off by omega];refine⟨?_,?_⟩
        .have:=(Yj.toP hc2.1).keeps hk
         simpa[Ce1]using this
        simpa[Ce1]using hc2.2
       rw[Js hpos,<- E5];refine⟨?_,hold.2⟩;by_cases z:l=i
       .subst z;simp only[Lo];rw[Z7 _ _ _ _ _ (by rw[hlen l hl];omega),Js (by omega)];exact hold.1.keeps hk
       simp only[z,Lp];exact hold.1.keeps hk)
     exact⟨_,by simp[Instr.storeAt,Instr.sureAddr,s],h1,h2,h3⟩
    cases he
   .rename_i x1 e n' jr i0 x0 hj
    repeat' split at he<;>try contradiction
    rename_i y' hy hm1;obtain⟨rfl,rfl,rfl⟩:=hm1;cases he;obtain⟨hin,rfl⟩:=hc;obtain⟨rv,g1,g2,hh⟩:=h.hp.holds j _ hj;rw[hr]at hh;have hone:=EB d;rw[hy]at d;have hv1:vx.cells.size=1:=d.1;have hv0:=d.2 0 (by simp);rcases hh with⟨hn,_⟩ | ⟨b',cap',c,o,q,hncap,r,hmax,hrow,hx⟩
    .cases hn
    cases o;rw[Ci3,Cm1];have s:=EC (P:=P) (t:=t) (off:=i) (v:=vx) hm hv1 q (by omega) hone;have hjr:j≠jr:=by rintro rfl;rw[hr]at g2;cases g2
    obtain⟨h1,h2,h3⟩:=h.modify (ob:=.fam e n jr (some (i,y'))) hj (b:=b) (by simp[G0,R8,hr]) (λ_=>trivial) (λb' o=>by simp[G0,R8,hr]at o;exact o.symm)
     (w':=w.setRow b (splice c.toList (i) vx.cells.toList).toArray) (by simp) (λb' o=>setRow_other w b b' _ o) (λhk=>by
      have hlive:∀l,Lv (A2 st.Uu) l->Lv (A2 (ins j (.fam e n jr (some (i,y'))) st.Uu)) l/\rho l=rho l:=by
       intro l hl;refine⟨?_,rfl⟩;simp only[Lv,A4];split
       .rfl
       exact hl
      have hget:∀l,l<n->((splice c.toList (i) vx.cells.toList).toArray).getD l undef=ite (l=i) (vx.cells.getD 0 undef) (c.getD l undef):=by
       intro l hl;have e1:((splice c.toList (i) vx.cells.toList).toArray).getD l undef=(splice c.toList (i) vx.cells.toList).getD l undef:=by simp[Ce1,Ce0]
       rw[e1,Z7 _ _ _ _ _ (by simp[hv1];omega)];by_cases z:l=i
       .subst z;rw[Jk (by simp[hv1]),Jk rfl,E5];simp
       rw[Js (by simp[hv1];omega),Js z,<- E5]
      refine⟨rv,(hlive jr g1).1,g2,.inr ⟨b,cap,_,hr,setRow_heap w b c _ e _ q,hncap,?_,hmax,λl hl=>?_,?_⟩⟩
      .rw[Cj7,J0 _ _ _ (by simp[hv1];omega)];simpa using r
      .rw[hget l hl];by_cases z:l=i
       .subst z;rw[Jk rfl];exact⟨hv0.2,λe=>Ke rfl e⟩
       rw[Js z];exact⟨(hrow l hl).1,λ_=>(hrow l hl).2 (by simp;exact λe=>z e.symm)⟩
      show Yj _ _ _ rho _ y';rw[hget i hin,Jk rfl]
      have:=hv0.1
      simp only[List.getD_cons_zero]at this;exact this.keeps hk hlive)
    exact⟨_,by simp[Instr.storeAt,Instr.sureAddr,s],h1,h2,h3⟩
   cases he
  |_=>simp at he
 cases he
def Bo9 (h:Sat C st a w rho){t:TypeId}{x y:Operand}(g:o.op=.store t x y)(b:aop P st.env st.Uu d o.op=some out)(hc:D2 out.cond):OpOk P C o st a w rho out:=by
 rw[g]at b;simp only[aop]at b;split at b
 .rename_i c R' hs;cases b;obtain⟨w',f,h1,i⟩:=Rs h (h.aev x) (h.aev y) hs hc;exact⟨.skip,undef,w',rho,by simp[execOp,g,f],.inr ⟨rfl,rfl⟩,h1,i,.p _ _ (.v _)⟩
 cases b
end
section
variable {P:Program}{C:Ctx}{st:St}{a:Act}{w:World}{rho:Nat->Value}{o:Oper}{out:Out}{d:Nat}
theorem Uh (l:List UInt8):(⟨l.toArray⟩:ByteArray).size=l.length:=by show l.toArray.size=_;simp
theorem CY {Pi:Nat->Nat->Prop}{live:Nat->Prop}{v:Value}{x:AV}{n:Int}(h:Yj w Pi live rho v x)(a:asInt x=some n):∃k,v=.int k n:=by
 unfold asInt at a;split at a
 .rename_i k m;cases a;exact⟨k,h.toP.toInt⟩
 grind
def Jx {t:TypeId}{fs:List (Nat×TypeId)}{f off:Nat}{ft:TypeId}(hk:tk P t=some (.struct fs))(a:fs[f]? = some (off,ft)) :∃fa:Array Field,∃fd:Field,P.underlying t=some (.struct fa)/\fa[f]? = some fd/\fd.offset=off/\fd.type=ft:=by
 obtain⟨fa,b,rfl⟩:=Hs hk
 grind
def ZL (h:Sat C st a w rho){t:TypeId}{x:Operand}{f:Nat}(u:o.op=.fieldAddr t x f)(r:aop P st.env st.Uu d o.op=some out):OpOk P C o st a w rho out:=by
 rw[u]at r;simp only[aop]at r;split at r
 .rename_i y hy;cases r;have hx:=h.aev x;unfold BB5 at hy;split at hy
  .rename_i fs hk;split at hy
   .rename_i off ft z;obtain⟨fa,fd,hu,a0,rfl,rfl⟩:=Jx hk z;split at hy
    .grind
    .rename_i m a1 hm;have a2:(m=0)=False:=by
      grind
     have s:∀ad:Addr,(fieldPlace ad fd).run P w=.ok (ad.add fd.offset) w:=by
      simp_all[fieldPlace,Ly]
     have g:∀ad:Addr,a.eval x=.pointer (some ad)->(execOp a.eval o).run P w=.ok (.value (.pointer (some (ad.add fd.offset)))) w:=by
      simp_all[execOp,Instr.fieldAt,BY,Instr.sureAddr]
     split at hy
     .rename_i j oo l;cases hy;rw[l]at hx;generalize q:a.eval x=v at hx;cases hx with
      |reg j off b hl hr=>refine OpOk.pure h (g _ q) ?_;rw[Cj4];exact .reg j _ b hl hr
     .rename_i j k i oo l;cases hy;rw[l]at hx;generalize q:a.eval x=v at hx;cases hx with
      |elt j k i off b n cap hl hr=>refine OpOk.pure h (g _ q) ?_;rw[Cj4,Cr3];exact .elt j k i _ b n cap hl hr
     .rename_i cs l;cases hy;rw[l]at hx;have hx:=hx.toP;generalize q:a.eval x=v at hx;cases hx with
      |ptr b off cs c hc hrep=>
       refine OpOk.pure h (g _ q) ?_;rw[Cj4];refine .p _ _ (.ptr b _ _ (λj=>c (fd.offset+j)) (λj hj=>?_) λj hj=>?_)
       all_goals grind
     grind
    grind
   grind
  grind
 grind
def Vs {Pi:Nat->Nat->Prop}{live:Nat->Prop}{t:TypeId}{vs:Array Value}{cs:List PV}{off:Nat}{x:AV}{c:List Prop}(hs:vs.size=cs.length)(h1:∀i,i<cs.length->(vs.getD i undef).oneCell' = true)
 (h:∀i,i<cs.length->Uy w Pi (vs.getD i undef) (cs.getD i default)) (a:ldP P t (cs.drop off)=some (c,x)) (hc:D2 c):∃v,(part t vs off).run P w=.ok v w/\Yj w Pi live rho v x:=by
 unfold ldP at a;split at a
 .rename_i k n hk hn;split at a
  .rename_i b;cases a;simp only[D2,Cl5]at hc;by_cases d:n=0
   .subst d;refine⟨.agg (vs.extract off off),by simp_all[part,H8,Ly],.p _ _ (.agg _ _ (by grind) (by grind) (by grind))⟩
   refine⟨.agg (vs.extract off (off+n)),by simp_all[part,H8,Ly],.p _ _ (.agg _ _ (by grind) (λi f=>?_) λi f=>?_)⟩
   .simp at f
    have:=h1 (off+i) (by omega)
    simpa[Ce1,Co7,show i<min (off+n) vs.size-off by omega,show off+i<vs.size by omega]using this
   simp at f
   have:=h (off+i) (by omega)
   simpa[Ce1,Co7,show i<min (off+n) vs.size-off by omega,show off+i<vs.size by omega,show off+i<cs.length by omega,Ce0,Cm2,show i<n by omega,Cp8]using this
  rename_i b;split at a
  .rename_i y r j;cases a;have g:off<cs.length:=by
    have:=congrArg List.length j
    grind
   have hy:cs.getD off default=y:=by
    have:=congrArg (λl=>l.head?) j
    grind[List.head?_drop,List.head?_cons]
   have:=h off g
   rw[hy]at this;refine⟨vs.getD off undef,?_,.p _ _ this⟩
   simp_all[part,H8,Ce1]
  grind
 grind
def Ao6 {Pi:Nat->Nat->Prop}{live:Nat->Prop}{t:TypeId}{vs:Array Value}{cs:List AV}{off:Nat}{x:AV}(hs:vs.size=cs.length)(h1:∀i,i<cs.length->(vs.getD i undef).oneCell' = true)
 (h:∀i,i<cs.length->Yj w Pi live rho (vs.getD i undef) (cs.getD i .top)) (a:ldA P t (cs.drop off)=some x):∃v,(part t vs off).run P w=.ok v w/\Yj w Pi live rho v x:=by
 have hl:RepL w Pi live rho (λi=>vs.getD (off+i) undef) (cs.drop off):=λi f=>by
  grind
 unfold ldA at a;split at a
 .rename_i k n hk hn;split at a
  .rename_i c;split at a
   .rename_i hle;cases a;simp at hle;by_cases d:n=0
    .subst d;refine⟨.agg (vs.extract off off),by simp_all[part,H8,Ly],?_⟩;exact (hl.take 0).mkAgg (vs:=vs.extract off off) (by grind) (by grind)
    refine⟨.agg (vs.extract off (off+n)),by simp_all[part,H8,Ly],(hl.take n).mkAgg (by grind) (λi f=>?_)⟩;simp at f;simp[Ce1,Co7,show i<min (off+n) vs.size-off by omega,show off+i<vs.size by omega]
   grind
  rename_i c;cases b:cs.drop off with
  |nil=>rw[b]at a;grind
  |cons y r=>
   rw[b]at a;cases a;have g:off<cs.length:=by
    have:=congrArg List.length b
    grind
   have j:=(hl 0 (by simp only[Cl5];omega)).1;rw[b]at j
   simp_all[undef,part,H8,Ce1]
 grind
def Bp0 (h:Sat C st a w rho){t:TypeId}{x:Operand}{f:Nat}(q:o.op=.field t x f)(i:aop P st.env st.Uu d o.op=some out)(hc:D2 out.cond):OpOk P C o st a w rho out:=by
 rw[q]at i;simp only[aop]at i;split at i
 .rename_i c y hy;cases i;have hx:=h.aev x;unfold BB6 at hy;split at hy
  .rename_i fs cs hk g;rw[g]at hx;have hx:=hx.toP;generalize j:a.eval x=v at hx;cases hx with
   |agg vs cs hs h1 hrep=>
    split at hy
    .rename_i off ft l;obtain⟨fa,fd,r,m,rfl,rfl⟩:=Jx hk l;obtain⟨u,n,s⟩:=Vs (rho:=rho) (live:=Lv (A2 st.Uu)) hs h1 hrep hy hc
     simp_all[OpOk.pure,execOp,Instr.field,BY,asAgg]
    grind
  .rename_i fs cs hk g;rw[g]at hx;generalize j:a.eval x=v at hx;cases hx with
   |agr vs cs hs h1 hrep=>
    repeat' split at hy<;>try contradiction
    rename_i off ft l _ b hb;cases hy;obtain⟨fa,fd,r,m,rfl,rfl⟩:=Jx hk l;obtain⟨u,n,s⟩:=Ao6 (rho:=rho) (live:=Lv (A2 st.Uu)) hs h1 hrep hb
    simp_all[OpOk.pure,execOp,Instr.field,BY,asAgg]
  grind
 grind
def Ao7 (h:Sat C st a w rho){x:Operand}(c:o.op=.nilCheck x)(b:aop P st.env st.Uu d o.op=some out):OpOk P C o st a w rho out:=by
 rw[c]at b;simp only[aop]at b;split at b
 .rename_i hn;cases b;have hx:=h.aev x;refine OpOk.pure (v:=a.eval x) h ?_ hx;simp only[execOp,c];generalize f:a.eval x=v at hx⊢;generalize g:aev st.env x=y at hn hx;cases hx with
  |p _ z hz=>
   cases hz with
   |v z=>simp only[Bn9]at hn;split at hn<;>simp_all
   |_=>first|rfl|simp[Bn9]at hn
  |_=>first|rfl|grind[Bn9]
 grind
def AK9 (h:Sat C st a w rho){x:Operand}{i:Nat}(f:o.op=.extract x i)(b:aop P st.env st.Uu d o.op=some out):OpOk P C o st a w rho out:=by
 rw[f]at b;simp only[aop]at b
 repeat' split at b<;>try contradiction
 rename_i l c _ y hy;cases b;have hx:=h.aev x;rw[c]at hx;generalize g:a.eval x=v at hx;cases hx with
 |tup vs l hs hl=>
  obtain⟨j,rfl⟩:=Ch5.1 hy
  have:=hl i j
  simp_all[OpOk.pure,undef,Ce0,execOp,Instr.extract,Ce1]
def Qz (h:Sat C st a w rho){t:TypeId}{x:Operand}(c:o.op=.makeInterface t x)(b:aop P st.env st.Uu d o.op=some out):OpOk P C o st a w rho out:=by
 rw[c]at b;simp only[aop]at b;split at b
 .rename_i y R' k f hk;obtain⟨h1,g,i⟩:=FD h (h.aev x) f;obtain⟨dd,j,l⟩:=Dn hk;split at b
  .grind
  rename_i m;cases b;refine⟨_,.iface t (a.eval x),w,rho,?_,.inl rfl,h1,i,.p _ _ (.iface t _ _ g)⟩
  have:∀ms,dd ≠ .interface ms:=by rintro ms rfl;grind[Zx]
  cases dd<;>first|(simp[execOp,c,Instr.makeInterface,BY w j];done)|grind
 grind
def Ao8 (h:Sat C st a w rho){f:FuncId}{x y:Array Operand}(g:o.op=.makeFunc (.func f) x y)(b:aop P st.env st.Uu d o.op=some out):OpOk P C o st a w rho out:=by
 rw[g]at b;simp only[aop,Cd9]at b;subst b;refine OpOk.pure (v:=.func (.func f) (x.map a.eval) (y.map a.eval)) h (by simp[execOp,g,Instr.makeFunc]) ?_;refine .clo f _ _ _ _ (by simp) (by simp) (λi c=>?_) λi c=>?_
 .simp at c
  have:=h.aev x[i]
  simp_all
 simp at c
 have:=h.aev y[i]
 simp_all
def AL0 (h:Sat C st a w rho){t:TypeId}(f:o.op=.makeMap t none)(c:aop P st.env st.Uu d o.op=some out):OpOk P C o st a w rho out:=by
 rw[f]at c;simp only[aop]at c;split at c
 .rename_i hn;cases c;obtain⟨h1,g,i⟩:=h.fresh (Dp d 0) hn (.map []) (.map (some w.heap.size)) (w':=w.alloc (.map #[] 0)) (by simp)
   (λb hb=>heap_alloc_old w _ b hb) (λb hb=>by grind[G0,R8]) (λhk=>⟨w.heap.size,#[],0,rfl,heap_alloc_new w _,rfl,by grind,rfl,by grind⟩)
  refine⟨_,_,_,_,?_,.inl rfl,h1,⟨g,i⟩,.Uz _ w.heap.size (by simp[Lv,A4]) (by simp)⟩;simp[execOp,f,Instr.makeMap]
 grind
def BI2 (h:Sat C st a w rho){op:UnOp}{t:TypeId}{x:Operand}(f:o.op=.unOp op t x)(i:aop P st.env st.Uu d o.op=some out):OpOk P C o st a w rho out:=by
 rw[f]at i;simp only[aop]at i;split at i
 .rename_i r g;cases i;have hx:=h.aev x;unfold un at g;split at g
  .rename_i b c;cases g;rw[c]at hx;exact OpOk.pure (v:=.bool !b) h (by simp[execOp,f,Op.unary,hx.toP.toV]) (.p _ _ (.v _))
  .rename_i b c;cases g;rw[c]at hx;exact OpOk.pure (v:=.bool !b) h (by simp[execOp,f,Op.unary,hx.toP.toBool]) (.p _ _ (.bb _))
  .rename_i k n c;cases g;rw[c]at hx;exact OpOk.pure (v:=.int k (k.wrap (0-n))) h (by simp[execOp,f,Op.unary,hx.toP.toInt,Op.intArith]) (.p _ _ (.v _))
  .rename_i k n c;cases g;rw[c]at hx;exact OpOk.pure (v:=.int k (F3 .xor k (ite k.signed (-1) k.max) n)) h (by first|(simp[execOp,f,Op.unary,hx.toP.toInt,Op.intBits];done)|(simp[execOp,f,Op.unary,hx.toP.toInt,Op.intBits];rfl)) (.p _ _ (.v _))
  grind
 grind
def BU7 (h:Sat C st a w rho){c:Call}(hc:c.callee=.builtin .len)(ho:o.op=.call c)(u:aop P st.env st.Uu d o.op=some out):OpOk P C o st a w rho out:=by
 obtain⟨callee,args,types⟩:=c;simp only at hc;subst hc;rw[ho]at u;simp only[aop]at u;split at u
 .rename_i x t q i;split at u
  .rename_i n hn;cases u;obtain⟨args⟩:=args;obtain⟨types⟩:=types;simp only at q i;subst q;subst i;have hx:=h.aev x;refine OpOk.pure (v:=.int .i64 n) h ?_ (.p _ _ (.v _));have key:(Builtin.len_ #[t] o.type #[a.eval x]).run P w=.ok (.int .i64 n) w:=by
    unfold AW7 at hn;split at hn
    .rename_i l hk g;cases hn;rw[g]at hx;simp[Builtin.len_,BY w (Lx hk),hx.toP.toStr,goInt,Uh]
    .rename_i e nn k m f hk g;cases hn;rw[g]at hx;have hx:=hx.toP;generalize s:a.eval x=v at hx;cases hx<;>simp[Builtin.len_,BY w (P7 hk),goInt]
    .rename_i hk g;cases hn;rw[g]at hx;rw[hx.toP.toV];simp_all[Builtin.len_,BY,P7,goInt]
    .rename_i hk g;cases hn;rw[g]at hx;rw[hx.toP.toV];simp[Builtin.len_,BY w (Nd hk),goInt]
    .rename_i j hk g;rw[g]at hx;split at hn
     .rename_i e k m f vw y;cases hn;generalize s:a.eval x=v at hx;cases hx with
      |vec j base n' cap hl hr=>obtain⟨b',c',a0⟩:=Nb (h.hp.holds j _ y);rw[hr]at a0;simp_all[Builtin.len_,BY,P7,goInt]
     .rename_i e m jr x0 y;cases hn;generalize s:a.eval x=v at hx;cases hx with
      |vec j base n' cap hl hr=>
       obtain⟨rv,_,_,z⟩:=h.hp.holds j _ y;rw[hr]at z;rcases z with⟨hs,rfl⟩ | ⟨b,cap',c,hb',_⟩
       .simp_all[Builtin.len_,BY,P7,goInt]
       simp_all[Builtin.len_,BY,P7,goInt]
     grind
    .rename_i j m hk g;cases hn;rw[g]at hx;generalize s:a.eval x=v at hx;cases hx;simp_all[Builtin.len_,BY,P7,goInt]
    .rename_i j hk g;rw[g]at hx;split at hn
     .rename_i es y;cases hn;generalize s:a.eval x=v at hx;cases hx with
      |Uz j r hl hr=>
       have z:=h.hp.holds j _ y;rw[hr]at z;obtain⟨b,Ya,clock,hb,a1,a2,_⟩:=z;cases hb;have hg:(getObj r).run P w=.ok (.map Ya clock) w:=by grind[getObj,Sem.run]
       simp[Builtin.len_,BY w (Nd hk),goInt,hg,a2]
     grind
    .rename_i n' e hk;cases hn;simp[Builtin.len_,BY w (Nf hk),goInt]
    grind
   simp_all[execOp,resolve,invoke,builtin]
  grind
 grind
def ZM (h:Sat C st a w rho){c:Call}(hc:c.callee=.builtin .min \/ c.callee=.builtin .max)(g:o.op=.call c)(f:aop P st.env st.Uu d o.op=some out):OpOk P C o st a w rho out:=by
 obtain⟨callee,args,types⟩:=c;simp only at hc;rw[g]at f;rcases hc with hc|hc<;>subst hc<;>simp only[aop]at f<;>split at f<;>try cases f
 all_goals
  rename_i k x l y b;obtain⟨args⟩:=args;rcases args with _|⟨p,_|⟨q,_|⟨r,s⟩⟩⟩<;>simp only[Cf8,Cn5,Ck9,and_true,and_false,reduceCtorEq]at b
  have hp:=h.aev p;have i:=h.aev q;rw[b.1]at hp;rw[b.2]at i;refine OpOk.pure h ?_ (.p _ _ (.v _));simp[execOp,g,resolve,invoke,builtin,Builtin.min_,Builtin.max_,Builtin.min2,Builtin.max2,hp.toP.toInt,i.toP.toInt]
end
def bget (l:List UInt8)(n:Nat):(⟨l.toArray⟩:ByteArray)[n]? = l[n]?:=by
 by_cases h:n<l.length
 .rw[getElem?_pos _ _ (by rw[Uh];exact h),Ce3 h];rfl
 grind[Uh,List.getElem?_eq_none]
def Bp1 (l:List UInt8)(i j:Nat):(⟨l.toArray⟩:ByteArray).extract i j=⟨((l.take j).drop i).toArray⟩:=by apply ByteArray.ext;simp[List.drop_take]
def BI3 (x y:List UInt8):(⟨x.toArray⟩:ByteArray)++⟨y.toArray⟩=⟨(x++y).toArray⟩:=by apply ByteArray.ext;simp
def CC (c:Nat->Nat->Value)(n k:Nat):List Value:=(List.range (n*k)).map λp=>c (p / k) (p % k)
def J7 (c:Nat->Nat->Value)(n k:Nat):(CC c n k).length=n*k:=by simp[CC]
theorem AY9 (c:Nat->Nat->Value){n k i j:Nat}(b:i<n)(a:j<k):(CC c n k).getD (i*k+j) undef=c i j:=by
 have h:=M1 b a;have h1:(i*k+j) / k=i:=by rw[Cn4,Cu2 (by omega),Cl8 a];omega
 have d:(i*k+j) % k=j:=by rw[Cn4,Cp9,Ck4 a]
 grind[CC]
def Rt {c:Nat->Nat->Value}{n k p:Nat}{u:Value}(h:(CC c n k)[p]? = some u):p / k<n/\p % k<k/\p=p / k*k+p % k/\u=c (p / k) (p % k):=by
 obtain⟨hp,rfl⟩:=Ch5.1 h;rw[J7]at hp;have hk:0<k:=by
  grind
 refine⟨Nat.div_lt_of_lt_mul (by rwa [Cn4]at hp),Nat.mod_lt _ hk,(Nat.div_add_mod' p k).symm,by simp[CC]⟩
section
variable {P:Program}{C:Ctx}{st:St}{a:Act}{w:World}{rho:Nat->Value}{o:Oper}{out:Out}{d:Nat}
def Ru (h:Sat C st a w rho){v:Value}{x:AV}(hv:RS C st w rho v x){k n:Nat}{g:Nat->List PV}(d:elems st.Uu k x=some (n,g)){tx:TypeId}{k2:TK}(ht:tk P tx=some k2)
 (hk2:srcK k2=true) :
 ∃c:Nat->Nat->Value,Src P k tx v n (CC c n k) w/\(∀i,i<n->(g i).length=k)/\∀i j,i<n->j<k->Uy w (PiS C st rho) (c i j) ((g i).getD j default)/\(c i j).oneCell' = true:=by
 have o:(∃e',P.underlying tx=some (.slice e')) \/ P.underlying tx=some .string:=by
  cases k2<;>simp[srcK]at hk2
  all_goals simp_all[Lx,P7]
 have sliceSrc:∀(ad:Addr) (cap:Nat) (c:Nat->Nat->Value),(∀i j,i<n->j<k->w.cell? (ad.add (i*k+j))=some (c i j)/\(c i j).oneCell' = true)->Src P k tx (.slice (some ad) n cap) n (CC c n k) w:=by
  intro ad cap c hc;have z:∀p u,(CC c n k)[p]? = some u->w.cell? (ad.add p)=some u:=by
   intro p u hp;obtain⟨h1,h2,h3,rfl⟩:=Rt hp;rw[h3]
   have:=(hc (p / k) (p % k) h1 h2).1
   rwa [<- h3]at this⊢
  refine⟨o,λ_=>rfl,run_firstCells_some w k n ad n cap _ (J7 _ _ _) z,run_firstCells_some w.drew k n ad n cap _ (J7 _ _ _) (by simp_all),J7 _ _ _,?_⟩;intro u hu;obtain⟨p,hp⟩:=Cu7 hu;obtain⟨h1,h2,h3,rfl⟩:=Rt hp
  grind
 have nilSrc:∀cap,n=0->∀c,Src P k tx (.slice none 0 cap) n (CC c n k) w:=by
  intro cap hn c;subst hn;refine⟨o,λ_=>rfl,?_,?_,by simp[CC],by simp[CC]⟩
  all_goals grind[CC,run_firstCells_none]
 cases hv with
 |p _ y hy=>
  cases hy with
  |v y=>
   simp only[elems]at d;split at d<;>try cases d
   all_goals simp_all
  |str l=>
   simp only[elems]at d;split at d
   .rename_i hk1;cases d;subst hk1;have hsrc:P.underlying tx=some .string->Src P 1 tx (.string ⟨l.toArray⟩) l.length (CC (λi _=>.int .u8 ((l.getD i 0).toNat:Nat)) l.length 1) w:=by
     intro hs
     have:=Src.ofString (P:=P) w hs ⟨l.toArray⟩
     rw[Uh]at this;have e:byteCells ⟨l.toArray⟩=CC (λi _=>.int .u8 ((l.getD i 0).toNat:Nat)) l.length 1:=by
      apply Cs0;intro i;simp only[byteCells,CC,Ce7,Ci3]
      grind
     rwa [e]at this
    refine⟨λi _=>.int .u8 ((l.getD i 0).toNat:Nat),?_,λi hi=>rfl,λi j hi s=>?_⟩
    .rcases o with⟨e',hs⟩ | hs
     .refine⟨.inl ⟨e',hs⟩,λw'=>?_,?_,?_,J7 _ _ _,?_⟩
      .have hx:=Lx (P:=P) (t:=tx);simp[Builtin.lenOf,Uh]
      .have:=firstCells_string (P:=P) ⟨l.toArray⟩ w
       rw[Uh]at this;rw[this];congr 2;apply Cs0;intro i;simp only[byteCells,CC,Ce7,Ci3]
       grind
      .have:=firstCells_string (P:=P) ⟨l.toArray⟩ w.drew
       rw[Uh]at this;rw[this];congr 2;apply Cs0;intro i;simp only[byteCells,CC,Ce7,Ci3]
       grind
      intro u hu;obtain⟨p,hp⟩:=Cu7 hu;obtain⟨_,_,_,rfl⟩:=Rt hp;rfl
     grind
    obtain rfl:j=0:=by omega
    exact⟨.v _,rfl⟩
   grind
  |slnil k' f=>
   simp only[elems]at d;split at d
   .rename_i hkk;cases d
    simp_all
   grind
  |sl nn b off cap k' n' f c hn q hc r sp hsp=>
   simp only[elems]at d;split at d
   .rename_i hkk;cases d;subst hkk;refine⟨c,sliceSrc _ _ _ (λi j hi s=>?_),q,by grind⟩;obtain rfl:=hsp (by omega);rw[Cj4,<- Cr3]
    grind
   grind
  |_=>simp[elems]at d
 |vec j base n' cap hl hr=>
  simp only[elems]at d
  repeat' split at d<;>try contradiction
  rename_i e m n'' f vw s hm;cases d;subst hm;have hh:=h.hp.holds j _ s;rw[hr]at hh;rcases hh with⟨hn,rfl⟩ | ⟨b,cap',cc,a0,a1,a2,a3,hmax,q,r⟩
  .simp_all
  cases a0;have hle:n*m<=cc.size:=by rw[a3];simp_all[Cf4]
  refine⟨λi j=>cc.getD (i*m+j) undef,sliceSrc _ _ _ (λi j hi s=>?_),q,r⟩;rw[Cj4,Ch0]
  have:=M1 hi s
  grind[cell_of_heap]
 |vecp j mm base n' cap hl hr hmn=>
  simp only[elems]at d
  repeat' split at d<;>try contradiction
  rename_i e m n'' f vw s hm;cases d;subst hm;have hh:=h.hp.holds j _ s;rw[hr]at hh;rcases hh with⟨hn,rfl⟩ | ⟨b,cap',cc,a0,a1,a2,a3,hmax,q,r⟩
  .simp_all
  cases a0;rw[Ck8 hmn]at *;have hle:n' * m<=cc.size:=by rw[a3];simp_all[Cf4]
  refine⟨λi j=>cc.getD (i*m+j) undef,sliceSrc _ _ _ (λi j hi s=>?_),by grind,by grind⟩;rw[Cj4,Ch0]
  have:=M1 (show i<n' by omega) s
  grind[cell_of_heap]
 |_=>simp[elems]at d
end
section
variable {P:Program}{C:Ctx}{st:St}{a:Act}{w:World}{rho:Nat->Value}{o:Oper}{out:Out}{d:Nat}
def Sat.moved (h:Sat C st a w rho){j jn:Nat}{oj:Obj}(z:A2 st.Uu j=some oj)(x:1000<=jn)(hn:A2 st.Uu jn=none)(ob:Obj)(d:Value){w' : World}(m:w.heap.size<=w'.heap.size)
 (n:∀b,b<w.heap.size->¬G0 (rho j) oj b->w'.heap[b]? = w.heap[b]?)
 (hb:∀b,G0 d ob b->G0 (rho j) oj b \/ w.heap.size<=b)
 (o:∀b off v,G0 (rho j) oj b->¬Prv C.X (A2 st.Uu) rho b off->w.cell? ⟨b,off,none⟩=some v->w'.cell? ⟨b,off,none⟩=some v/\(G0 d ob b->¬MT ob off))
 (hh:Ux w (PiS C st rho) w' (Prv C.X (A2 (ins jn ob (ins j .dead st.Uu))) (λi=>ite (i=jn) d (rho i))) ->
  Yk w' (Prv C.X (A2 (ins jn ob (ins j .dead st.Uu))) (λi=>ite (i=jn) d (rho i))) (Lv (A2 (ins jn ob (ins j .dead st.Uu)))) (λi=>ite (i=jn) d (rho i)) d ob) (hy:∀r b,ob ≠ .yld r b:=by intro _ _ h;cases h) (hext:Ext w w':=by exact⟨rfl,rfl⟩) :
 Sat C { st with Uu:=ins jn ob (ins j .dead st.Uu) } a w' (λi=>ite (i=jn) d (rho i))/\Kp C st.Uu (ins jn ob (ins j .dead st.Uu)) w w' rho (λi=>ite (i=jn) d (rho i)):=by
 have l:jn≠j:=by grind
 have f:∀i,Lv (A2 st.Uu) i->Lv (A2 (ins jn ob (ins j .dead st.Uu))) i/\(ite (i=jn) d (rho i))=rho i:=by
  intro i c;have e:i≠jn:=by rintro rfl;grind[Lv]
  refine⟨?_,by grind⟩;simp only[Lv,A4,Js (Cl4 e)];split
  .rfl
  exact c
 have hR:∀i oi b,A2 (ins jn ob (ins j .dead st.Uu)) i=some oi->(i=j \/ i=jn)->G0 (ite (i=jn) d (rho i)) oi b->i=jn/\oi=ob:=by
  intro i oi b c g q;rcases g with rfl|rfl
  .rw[A4,Js l,A4,Jk rfl]at c
   grind[G0,R8]
  rw[A4,Jk rfl]at c;cases c;exact⟨rfl,rfl⟩
 obtain⟨h1,s⟩:=h.step (R':=ins jn ob (ins j .dead st.Uu)) (rho':=λi=>ite (i=jn) d (rho i)) (w':=w') (λi=>i=j \/ i=jn)
  (λi c=>by have h1:¬j=i:=(by omega);have s:¬jn=i:=(by omega);rw[A4,Js s,A4,Js h1])
  f m
  (λi c t=>by
   by_cases e:i=jn
   .omega
   simp only[Lv,A4,Js (Cl4 e)]at t
   grind[Lv,Ke])
  (λi r b c u=>by
   rcases c with rfl|rfl
   .rw[A4,Js l,A4,Jk rfl]at u;grind
   rw[A4,Jk rfl]at u;grind)
  (by grind)
  (by grind)
  (by grind)
  (λi oi b off v g hr q y hc=>by
   grind)
  (λhk i oi g c=>by
   rcases g with rfl|rfl
   .rw[A4,Js l,A4,Jk rfl]at c;cases c;trivial
   rw[A4,Jk rfl]at c
   grind) hext
 exact⟨h1,s,f⟩
def BZ {t tx ty e:TypeId}{i:TypeInfo}{z:Value}(ht:P.underlying t=some (.slice e))(v:P.info? e=some i)(hz:i.zero=some z)(y:z.cells.size=i.size)(hby:0<i.bytes)
 {x:Value}{n:Nat}{news:List Value}(hs:Src P i.size tx x n news w) {s:Value}{m:Nat}{olds:List Value}{b cap:Nat}{c:Array Value}
 (hv:(s=.slice none 0 0/\m=0/\olds=[]) \/ (s=.slice (some ⟨b,0,none⟩) m cap/\w.heap[b]? = some (.cells c e (0,0))/\m<=cap/\c.size=cap*i.size/\cap<=maxLen/\olds=c.toList.take (m*i.size)))
 (a4:m+n<=140737488355328) (d:(m+n)*i.bytes<=140737488355328) :
 ∃v' w',(Builtin.append_ #[t,tx] ty #[s,x]).run P w=.ok v' w' /\
  ((s=.slice none 0 0/\v' = .slice none 0 0/\m+n=0/\w' = w) \/
   (∃cap',s=.slice (some ⟨b,0,none⟩) m cap' /\ v' = .slice (some ⟨b,0,none⟩) (m+n) cap/\m+n<=cap/\w' = w.setRow b (splice c.toList (m*i.size) news).toArray) \/
   (∃cap' arr,v' = .slice (some ⟨w.heap.size,0,none⟩) (m+n) cap' /\ w' = w.drew.alloc (.cells arr e)/\m+n<=cap' /\ cap' <= maxLen/\arr.size=cap' * i.size/\∃r,arr.toList=olds++news++r)):=by
 have a0:((m+n:Nat):Int)<=9223372036854775807:=by omega
 have a1:m+n<=maxLen:=by grind[maxLen]
 have grow:∀(base:Option Addr) (old:Nat),s=.slice base m old->old<m+n->olds.length=m*i.size->(Builtin.firstCells i.size m (.slice base m old)).run P w.drew=.ok olds.toArray w.drew ->
  ∃v' w',(Builtin.append_ #[t,tx] ty #[s,x]).run P w=.ok v' w' /\ (∃cap' arr,v' = .slice (some ⟨w.heap.size,0,none⟩) (m+n) cap' /\ w' = w.drew.alloc (.cells arr e)/\m+n<=cap' /\ cap' <= maxLen/\arr.size=cap' * i.size/\∃r,arr.toList=olds++news++r):=by
  intro base old a2 j f a3;subst a2;have hr:=run_append_grow_src (P:=P) w t tx ty e i z ht v hz base m old olds a3 x n news hs j a0 (growslice_fits j d);refine⟨_,_,hr,_,_,rfl,rfl,grownCap_ge w _ _ e,grownCap_le_maxLen w _ _ e a1,?_,(Builtin.zeroCells z.cells (grownCap w (m+n) old e-(m+n))).toList,?_⟩
  .have hge:=grownCap_ge w (m+n) old e;simp only[Array.size_append,Cj7,Cg1,size_zeroCells,y,f,hs.newsLen,<- Cn7]
   grind
  grind
 rcases hv with⟨rfl,rfl,rfl⟩ | ⟨rfl,hg,hmc,l,hcm,rfl⟩
 .by_cases hn:n=0
  .subst hn;refine⟨.slice none 0 0,w,?_,by grind⟩;have g:news=[]:=Co3 (by simpa using hs.newsLen);subst g;rcases hs.kind with⟨e',hk⟩ | hk<;>simp[Builtin.append_,run_underlying ht,run_underlying hk,sizeOf,typeInfo,v,hs.len,hs.cells]
  obtain⟨v',w',h1,h2⟩:=grow none 0 rfl (by omega) (by simp) (by grind[run_firstCells_none])
  grind
 have hle:m*i.size<=c.size:=by rw[l];grind[Nat.mul_le_mul_right]
 have f:(c.toList.take (m*i.size)).length=m*i.size:=by grind
 by_cases a:m+n<=cap
 .have hfit:m*i.size+news.length<=c.size:=by rw[hs.newsLen,l,<- Cn7];simp_all[Cf4]
  have q:=run_storeCells_at (P:=P) b (m*i.size) e news 0 c w hg (by omega) hs.one;simp only[Cm1]at q;refine⟨.slice (some ⟨b,0,none⟩) (m+n) cap,_,?_,.inr (.inl ⟨cap,rfl,rfl,a,rfl⟩)⟩;rcases hs.kind with⟨e',hk⟩ | hk<;>simp[Builtin.append_,run_underlying ht,run_underlying hk,sizeOf,typeInfo,v,hs.len,a,hs.cells,Cj4,q,splice]
 obtain⟨v',w',h1,h2⟩:=grow (some ⟨b,0,none⟩) cap rfl (by omega) f (run_firstCells_some w.drew i.size m ⟨b,0,none⟩ m cap _ f (by
  intro p u hp;rw[Cm2]at hp;split at hp
  .rename_i hpl;rw[Cj4,Ch0]
   have:=cell_of_heap (w:=w) hg (o:=p) (by omega)
   simp_all
  grind))
 grind
def IX {l r:List Value}{i:Nat}(h:i<l.length):(l++r).getD i undef=l.getD i undef:=by
 grind
def OA {l r:List Value}{i:Nat}(h:l.length<=i):(l++r).getD i undef=r.getD (i-l.length) undef:=by
 grind
theorem ZN {l:List Value}{i n:Nat}(h:i<n):(l.take n).getD i undef=l.getD i undef:=by
 grind
def FS {w:World}{Pi:Nat->Nat->Prop}{k m n:Nat}{f g:Nat->List PV}{arr:Array Value}{olds news r:List Value}(ha:arr.toList=olds++news++r)(c:olds.length=m*k)(hn:news.length=n*k)
 (o:∀i j,i<m->j<k->Uy w Pi (olds.getD (i*k+j) undef) ((f i).getD j default)/\(olds.getD (i*k+j) undef).oneCell' = true)
 (d:∀i j,i<n->j<k->Uy w Pi (news.getD (i*k+j) undef) ((g i).getD j default)/\(news.getD (i*k+j) undef).oneCell' = true) :
 ∀i j,i<m+n->j<k->Uy w Pi (arr.getD (i*k+j) undef) ((DO m f g i).getD j default)/\(arr.getD (i*k+j) undef).oneCell' = true:=by
 intro i j q b;rw[E5,ha];unfold DO;by_cases a:i<m
 .have:=M1 a b
  rw[Jk a,Cq6,IX (by omega)]
  grind
 rw[Js a];have h1:m*k<=i*k:=Cf4 k (by omega);have s:=M1 (show i-m<n by omega) b;have l:(i-m)*k=i*k-m*k:=Nat.sub_mul _ _ _;rw[Cq6,OA (by omega),IX (by omega),c]
 have:=d (i-m) j (by omega) b
 rwa [l,show i*k-m*k+j=i*k+j-m*k by omega]at this
def CD {k m n:Nat}{f g:Nat->List PV}(a:∀i,i<m->(f i).length=k)(b:∀i,i<n->(g i).length=k):∀i,i<m+n->(DO m f g i).length=k:=by
 grind[DO]
theorem Vt (h:Sat C st a w rho){c:Call}(hf:∀s x e m b,c.args.toList=[s,x]->MV st.Uu e m d b (aev st.env s) (aev st.env x)=none)(hc:c.callee=.builtin .append)(ho:o.op=.call c)(he:aop P st.env st.Uu d o.op=some out)(hcond:D2 out.cond):OpOk P C o st a w rho out:=by
 obtain⟨callee,args,types⟩:=c;simp only at hc;subst hc;rw[ho]at he;simp only[aop]at he;split at he
 .rename_i s x t t2 hargs htypes;split at he
  .rename_i e k2 ht ht2;split at he
   .rename_i k z hk2 hm hz;split at he
    .rename_i n g l f vw R1 hn hel htk;split at he
     .rename_i hzl;cases he;obtain⟨args⟩:=args;obtain⟨types⟩:=types;simp only at hargs htypes;subst hargs;subst htypes;obtain⟨hbytes,hmax⟩:=hcond;obtain⟨i,hi,rfl⟩:=QX hm;obtain⟨i',zv,q,hzv,hze⟩:=CX hz;rw[hi]at q;cases q;have hzs:zv.cells.size=i.size:=by have:=hzl.1;rw[hze]at this;grind
      have hby:Fi P e=i.bytes:=by grind[Fi,Program.bytesOf]
      rw[hby]at hbytes;have hbp:0<i.bytes:=by have:=hzl.2;rwa [hby]at this
      obtain⟨cx,hsrc,hgl,hgr⟩:=Ru h (h.aev x) hel ht2 hk2;have hgr' : ∀i' j,i' < n->j<i.size->Uy w (PiS C st rho) ((CC cx n i.size).getD (i' * i.size+j) undef) ((g i').getD j default)/\((CC cx n i.size).getD (i' * i.size+j) undef).oneCell' = true:=by
       grind[AY9]
      have y:∀v' w',(Builtin.append_ #[t,t2] o.type #[a.eval s,a.eval x]).run P w=.ok v' w' -> (execOp a.eval o).run P w=.ok (.value v') w':=by
       simp_all[execOp,resolve,invoke,builtin]
      have hs:=h.aev s;have u:=P7 ht;unfold Xd at htk;split at htk
      .
       rename_i hse;cases htk;rw[hse]at hs;have hv:=hs.toP.toV;obtain⟨v',w',hr,hres⟩:=BZ (ty:=o.type) (b:=0) (cap:=0) (c:=#[]) u hi hzv hzs hbp hsrc (s:=a.eval s) (m:=0) (olds:=[]) (by grind) hmax hbytes;rcases hres with⟨_,rfl,h0,rfl⟩ | ⟨cap',hse',_⟩ | ⟨cap',arr,rfl,rfl,hge,hcm,hsz,r,harr⟩
       .obtain⟨h1,h2,h3⟩:=h.fresh (Dp d 0) hn (.vec e i.size (0+n) (DO 0 (λ_=>[]) g) false) (.slice none 0 0) (w':=w') (Ce5 _) (λb hb=>rfl) (λb hb=>by grind[G0,R8]) (λhk=>.inl ⟨rfl,h0⟩);refine⟨_,_,_,_,y _ _ hr,.inl rfl,h1,⟨h2,h3⟩,?_⟩;exact .vec _ none 0 0 (by simp[Lv,A4]) (by simp)
       .rw[hv]at hse';grind
       obtain⟨h1,h2,h3⟩:=h.fresh (Dp d 0) hn (.vec e i.size (0+n) (DO 0 (λ_=>[]) g) false) (.slice (some ⟨w.heap.size,0,none⟩) (0+n) cap') (w':=w.drew.alloc (.cells arr e)) (by simp) (λb hb=>heap_alloc_old w.drew _ b hb) (λb hb=>by grind[G0,R8])
        (λhk=>.inr ⟨w.heap.size,cap',arr,rfl,heap_alloc_new w.drew _,hge,hsz,hcm,CD (by omega) hgl,
         FS harr (by simp) (J7 _ _ _) (by omega) λi' j q hj=>⟨(hgr' i' j q hj).1.keeps hk,(hgr' i' j q hj).2⟩⟩)
       refine⟨_,_,_,_,y _ _ hr,.inl rfl,h1,⟨h2,h3⟩,?_⟩;exact .vec _ _ _ _ (by simp[Lv,A4]) (by simp)
      .
       rename_i j hse;split at htk
       .rename_i e' m' n' f' vw' hj;split at htk
        .rename_i hem;cases htk;obtain⟨rfl,rfl⟩:=hem;rw[hse]at hs;generalize hvs:a.eval s=v at hs;rw[hvs]at y;cases hs with
         |vec j base nn cap hl hrj=>
         have hh:=h.hp.holds j _ hj;rw[hrj]at hh;have hne:nid d 0≠j:=by grind
         rcases hh with⟨hnil,rfl⟩ | ⟨b,cap',c,hb',hheap,hncap,hcsz,hcmax,hlen,hrep⟩
         .cases hnil;obtain⟨v',w',hr,hres⟩:=BZ (ty:=o.type) (b:=0) (cap:=0) (c:=#[]) u hi hzv hzs hbp hsrc (s:=.slice none 0 0) (m:=0) (olds:=[]) (by grind) hmax hbytes;rcases hres with⟨_,rfl,h0,rfl⟩ | ⟨cap',hse',_⟩ | ⟨cap',arr,rfl,rfl,hge,hcm,hsz,r,harr⟩
          .obtain⟨h1,h2⟩:=h.moved hj (Dp d 0) hn (.vec e' i.size (0+n) (DO 0 f g) vw) (.slice none 0 0) (w':=w') (Ce5 _) (λb _ _=>rfl) (λb hb=>by grind[G0,R8]) (λb off v hb _ hc=>by grind[G0,R8]) (λhk=>.inl ⟨rfl,h0⟩);exact⟨_,_,_,_,y _ _ hr,.inl rfl,h1,h2,.vec _ none 0 0 (by simp[Lv,A4]) (by simp)⟩
          .grind
          obtain⟨h1,h2⟩:=h.moved hj (Dp d 0) hn (.vec e' i.size (0+n) (DO 0 f g) vw) (.slice (some ⟨w.heap.size,0,none⟩) (0+n) cap') (w':=w.drew.alloc (.cells arr e')) (by simp) (λb hb _=>heap_alloc_old w.drew _ b hb) (λb hb=>by grind[G0,R8]) (λb off v hb _ hc=>by grind[G0,R8])
           (λhk=>.inr ⟨w.heap.size,cap',arr,rfl,heap_alloc_new w.drew _,hge,hsz,hcm,CD (by omega) hgl,
            FS harr (by simp) (J7 _ _ _) (by omega) λi' j q hj=>⟨(hgr' i' j q hj).1.keeps hk,(hgr' i' j q hj).2⟩⟩)
          exact⟨_,_,_,_,y _ _ hr,.inl rfl,h1,h2,.vec _ _ _ _ (by simp[Lv,A4]) (by simp)⟩
         cases hb';have hle:l*i.size<=c.size:=by rw[hcsz];simp_all[Cf4]
         obtain⟨v',w',hr,hres⟩:=BZ (ty:=o.type) (b:=b) (cap:=cap) (c:=c) u hi hzv hzs hbp hsrc (s:=.slice (some ⟨b,0,none⟩) l cap) (m:=l) (olds:=c.toList.take (l*i.size)) (by grind) hmax hbytes;have holds:∀i' j,i' < l->j<i.size->Uy w (PiS C st rho) ((c.toList.take (l*i.size)).getD (i' * i.size+j) undef) ((f i').getD j default)/\((c.toList.take (l*i.size)).getD (i' * i.size+j) undef).oneCell' = true:=by
          grind[ZN,M1,E5]
         have hol:(c.toList.take (l*i.size)).length=l*i.size:=by grind
         have hpub:∀off,¬Prv C.X (A2 st.Uu) rho b off->vw=true/\off<l*i.size:=by
          intro off hnp;have hnp' : ¬MT (.vec e' i.size l f vw) off:=λhp=>hnp (.inr ⟨j,_,hj,by grind[G0,R8],hp⟩);cases vw
          .exact Ke trivial hnp'
          exact⟨rfl,by simpa[MT]using hnp'⟩
         rcases hres with⟨hse',_⟩ | ⟨cap'',_,rfl,hroom,rfl⟩ | ⟨cap'',arr,rfl,rfl,hge,hcm,hsz,r,harr⟩
         .grind
         .have hfit:l*i.size+(CC cx n i.size).length<=c.toList.length:=by rw[J7,Cn6,hcsz,<- Cn7];simp_all[Cf4]
          obtain⟨h1,h2⟩:=h.moved hj (Dp d 0) hn (.vec e' i.size (l+n) (DO l f g) vw) (.slice (some ⟨b,0,none⟩) (l+n) cap) (w':=w.setRow b (splice c.toList (l*i.size) (CC cx n i.size)).toArray) (by simp)
           (λb' hb' hnb=>setRow_other w b b' _ (λe=>hnb (by grind[G0,R8]))) (λb' hb'=>.inl (by grind[G0,R8]))
           (λb' off v hb' hnp hcell=>by
            have e:b' = b:=by grind[G0,R8]
            subst e;obtain⟨hvw,hoff⟩:=hpub off hnp;refine⟨?_,λ_=>?_⟩
            .have h1:=cell_of_heap (w:=w) hheap (o:=off) (by omega);have h2:=cell_of_heap (w:=w.setRow b' (splice c.toList (l*i.size) (CC cx n i.size)).toArray) (setRow_heap w b' c _ e' _ hheap) (o:=off) (by rw[Cj7,J0 _ _ _ hfit];omega);rw[h2,<- hcell,h1,E5,E5];congr 1;show (splice c.toList (l*i.size) (CC cx n i.size)).getD off undef=_;rw[Z7 _ _ _ _ _ hfit,Js (by omega)]
            grind[MT,Nat.add_mul])
           (λhk=>.inr ⟨b,cap,_,rfl,setRow_heap w b c _ e' _ hheap,hroom,by rw[Cj7,J0 _ _ _ hfit];omega,hcmax,CD hlen hgl,
            FS (r:=c.toList.drop (l*i.size+(CC cx n i.size).length)) (by simp[splice]) hol (J7 _ _ _) (λi' j q hj=>⟨(holds i' j q hj).1.keeps hk,(holds i' j q hj).2⟩) λi' j q hj=>⟨(hgr' i' j q hj).1.keeps hk,(hgr' i' j q hj).2⟩⟩)
          exact⟨_,_,_,_,y _ _ hr,.inl rfl,h1,h2,.vec _ _ _ _ (by simp[Lv,A4]) (by simp)⟩
         have hlt:b<w.heap.size:=(by grind);obtain⟨h1,h2⟩:=h.moved hj (Dp d 0) hn (.vec e' i.size (l+n) (DO l f g) vw) (.slice (some ⟨w.heap.size,0,none⟩) (l+n) cap'') (w':=w.drew.alloc (.cells arr e')) (by simp) (λb' hb' _=>heap_alloc_old w.drew _ b' hb') (λb' hb'=>by grind[G0,R8])
          (λb' off v hb' hnp hcell=>by have hlt' : b' < w.heap.size:=Cj2 w ⟨b',off,none⟩ hcell;refine⟨?_,λe=>by grind[G0,R8]⟩;rw[<- hcell];exact Cg5 (heap_alloc_old w.drew _ b' hlt'))
          (λhk=>.inr ⟨w.heap.size,cap'',arr,rfl,heap_alloc_new w.drew _,hge,hsz,hcm,CD hlen hgl,
           FS harr hol (J7 _ _ _) (λi' j q hj=>⟨(holds i' j q hj).1.keeps hk,(holds i' j q hj).2⟩) λi' j q hj=>⟨(hgr' i' j q hj).1.keeps hk,(hgr' i' j q hj).2⟩⟩)
         exact⟨_,_,_,_,y _ _ hr,.inl rfl,h1,h2,.vec _ _ _ _ (by simp[Lv,A4]) (by simp)⟩
        grind
       grind
      .
       rename_i j m0 hse;split at htk
       .rename_i e' m' n' f' hj;split at htk
        .rename_i hem;cases htk;obtain⟨rfl,rfl⟩:=hem;rw[hse]at hs;generalize hvs:a.eval s=v at hs;rw[hvs]at y;cases hs with
         |vecp j m0 base nn cap hl hrj hmn=>
         have hh:=h.hp.holds j _ hj;rw[hrj]at hh;have hne:nid d 0≠j:=by grind
         rcases hh with⟨hnil,rfl⟩ | ⟨b,cap',c,hb',hheap,hncap,hcsz,hcmax,hlen,hrep⟩
         .cases hnil;obtain rfl:m0=0:=by omega
          simp only[Nat.min_self]at *;obtain⟨v',w',hr,hres⟩:=BZ (ty:=o.type) (b:=0) (cap:=0) (c:=#[]) u hi hzv hzs hbp hsrc (s:=.slice none 0 0) (m:=0) (olds:=[]) (by grind) hmax hbytes;rcases hres with⟨_,rfl,h0,rfl⟩ | ⟨cap',hse',_⟩ | ⟨cap',arr,rfl,rfl,hge,hcm,hsz,r,harr⟩
          .obtain⟨h1,h2⟩:=h.moved hj (Dp d 0) hn (.vec e' i.size (0+n) (DO 0 f g) false) (.slice none 0 0) (w':=w') (Ce5 _) (λb _ _=>rfl) (λb hb=>by grind[G0,R8]) (λb off v hb _ hc=>by grind[G0,R8]) (λhk=>.inl ⟨rfl,h0⟩);exact⟨_,_,_,_,y _ _ hr,.inl rfl,h1,h2,.vec _ none 0 0 (by simp[Lv,A4]) (by simp)⟩
          .grind
          obtain⟨h1,h2⟩:=h.moved hj (Dp d 0) hn (.vec e' i.size (0+n) (DO 0 f g) false) (.slice (some ⟨w.heap.size,0,none⟩) (0+n) cap') (w':=w.drew.alloc (.cells arr e')) (by simp) (λb hb _=>heap_alloc_old w.drew _ b hb) (λb hb=>by grind[G0,R8]) (λb off v hb _ hc=>by grind[G0,R8])
           (λhk=>.inr ⟨w.heap.size,cap',arr,rfl,heap_alloc_new w.drew _,hge,hsz,hcm,CD (by omega) hgl,
            FS harr (by simp) (J7 _ _ _) (by omega) λi' j q hj=>⟨(hgr' i' j q hj).1.keeps hk,(hgr' i' j q hj).2⟩⟩)
          exact⟨_,_,_,_,y _ _ hr,.inl rfl,h1,h2,.vec _ _ _ _ (by simp[Lv,A4]) (by simp)⟩
         cases hb';rw[Ck8 hmn]at *;have hle:m0*i.size<=c.size:=by rw[hcsz];exact Cf4 _ (by omega)
         obtain⟨v',w',hr,hres⟩:=BZ (ty:=o.type) (b:=b) (cap:=cap) (c:=c) u hi hzv hzs hbp hsrc (s:=.slice (some ⟨b,0,none⟩) m0 cap) (m:=m0) (olds:=c.toList.take (m0*i.size)) (by grind) hmax hbytes;have holds:∀i' j,i' < m0->j<i.size->Uy w (PiS C st rho) ((c.toList.take (m0*i.size)).getD (i' * i.size+j) undef) ((f i').getD j default)/\((c.toList.take (m0*i.size)).getD (i' * i.size+j) undef).oneCell' = true:=by
          grind[ZN,M1,E5]
         have hol:(c.toList.take (m0*i.size)).length=m0*i.size:=by grind
         have hpub:∀off,¬Prv C.X (A2 st.Uu) rho b off->False:=by intro off hnp;exact hnp (.inr ⟨j,_,hj,by grind[G0,R8],trivial⟩)
         rcases hres with⟨hse',_⟩ | ⟨cap'',_,rfl,hroom,rfl⟩ | ⟨cap'',arr,rfl,rfl,hge,hcm,hsz,r,harr⟩
         .grind
         .have hfit:m0*i.size+(CC cx n i.size).length<=c.toList.length:=by rw[J7,Cn6,hcsz,<- Cn7];simp_all[Cf4]
          obtain⟨h1,h2⟩:=h.moved hj (Dp d 0) hn (.vec e' i.size (m0+n) (DO m0 f g) false) (.slice (some ⟨b,0,none⟩) (m0+n) cap) (w':=w.setRow b (splice c.toList (m0*i.size) (CC cx n i.size)).toArray) (by simp)
           (λb' hb' hnb=>setRow_other w b b' _ (λe=>hnb (by grind[G0,R8]))) (λb' hb'=>.inl (by grind[G0,R8]))
           (λb' off v hb' hnp hcell=>by
            have e:b' = b:=by grind[G0,R8]
            grind)
           (λhk=>.inr ⟨b,cap,_,rfl,setRow_heap w b c _ e' _ hheap,hroom,by rw[Cj7,J0 _ _ _ hfit];omega,hcmax,CD (by grind) hgl,
            FS (r:=c.toList.drop (m0*i.size+(CC cx n i.size).length)) (by simp[splice]) hol (J7 _ _ _) (λi' j q hj=>⟨(holds i' j q hj).1.keeps hk,(holds i' j q hj).2⟩) λi' j q hj=>⟨(hgr' i' j q hj).1.keeps hk,(hgr' i' j q hj).2⟩⟩)
          exact⟨_,_,_,_,y _ _ hr,.inl rfl,h1,h2,.vec _ _ _ _ (by simp[Lv,A4]) (by simp)⟩
         obtain⟨h1,h2⟩:=h.moved hj (Dp d 0) hn (.vec e' i.size (m0+n) (DO m0 f g) false) (.slice (some ⟨w.heap.size,0,none⟩) (m0+n) cap'') (w':=w.drew.alloc (.cells arr e')) (by simp) (λb' hb' _=>heap_alloc_old w.drew _ b' hb') (λb' hb'=>by grind[G0,R8])
          (λb' off v hb' hnp hcell=>by
           have e:b' = b:=by grind[G0,R8]
           grind)
          (λhk=>.inr ⟨w.heap.size,cap'',arr,rfl,heap_alloc_new w.drew _,hge,hsz,hcm,CD (by grind) hgl,
           FS harr hol (J7 _ _ _) (λi' j q hj=>⟨(holds i' j q hj).1.keeps hk,(holds i' j q hj).2⟩) λi' j q hj=>⟨(hgr' i' j q hj).1.keeps hk,(hgr' i' j q hj).2⟩⟩)
         exact⟨_,_,_,_,y _ _ hr,.inl rfl,h1,h2,.vec _ _ _ _ (by simp[Lv,A4]) (by simp)⟩
        grind
       grind
      grind
     grind
    grind
   grind
  grind
 grind
end
section
variable {P:Program}{C:Ctx}{st:St}{a:Act}{w:World}{rho:Nat->Value}{o:Oper}{out:Out}{d:Nat}
def ZO (h:Sat C st a w rho){t:TypeId}{x ix:Operand}(ho:o.op=.indexAddr t x ix)(he:aop P st.env st.Uu d o.op=some out)(hc:D2 out.cond):OpOk P C o st a w rho out:=by
 rw[ho]at he;simp only[aop]at he;split at he
 .rename_i i hi;split at he
  .rename_i c y hy;cases he;obtain⟨ik,r⟩:=CY (h.aev ix) hi;have hx:=h.aev x;unfold Hr at hy;split at hy
   .
    rename_i n e j oo hk l;split at hy
    .rename_i m hm;cases hy;rw[l]at hx;generalize g:a.eval x=v at hx;cases hx with
     |reg j off b hl hr=>refine OpOk.pure h (v:=.pointer (some ⟨b,oo+i.toNat*m,none⟩)) ?_ (.reg j _ b hl hr);have h1:(0<=i/\i<(n:Int)):=hc;simp[execOp,ho,Instr.indexAt,r,asIntOf,BY w (Nf hk),g,Instr.sureAddr,h1,Ly w hm,Cj4]
    cases hy
   .rename_i n e cs hk l;split at hy
    .rename_i m hm;cases hy;rw[l]at hx;have hx:=hx.toP;generalize g:a.eval x=v at hx;cases hx with
     |ptr b off cs c hcell hrep=>
      refine OpOk.pure h (v:=.pointer (some ⟨b,off+i.toNat*m,none⟩)) ?_ (.p _ _ (.ptr b _ _ (λj=>c (i.toNat*m+j)) (λj q=>?_) λj q=>?_))
      .have h1:(0<=i/\i<(n:Int)):=hc;simp[execOp,ho,Instr.indexAt,r,asIntOf,BY w (Nf hk),g,Instr.sureAddr,h1,Ly w hm,Cj4]
      .simp only[Cl5]at q
       have:=hcell (i.toNat*m+j) (by omega)
       rwa [<- Cr3]at this
      simp only[Cl5]at q
      have:=hrep (i.toNat*m+j) (by omega)
      simpa[Ce0,Cp8]using this
    cases hy
   .rename_i e nn k n f hk l;split at hy
    .rename_i hm;cases hy;rw[l]at hx;have hx:=hx.toP;have h1:(0<=i/\i<(n:Int)):=hc;generalize g:a.eval x=v at hx;cases hx with
     |slnil=>omega
     |sl _ b off cap _ _ _ c hn hlen hcell hrep sp hsp=>
      have u:i.toNat<n:=by omega
      obtain rfl:=hsp (by omega);refine OpOk.pure h (v:=.pointer (some ⟨b,off+i.toNat*k,none⟩)) ?_ (.p _ _ (.ptr b _ _ (λj=>c i.toNat j) (λj q=>?_) λj q=>?_))
      .simp[execOp,ho,Instr.indexAt,r,asIntOf,BY w (P7 hk),g,h1,Ly w hm,Cj4]
      .rw[hlen _ u]at q;exact hcell _ _ u q
      rw[hlen _ u]at q;exact hrep _ _ u q
    cases hy
   .rename_i e j hk l;split at hy
    .rename_i e' k n f vw q;split at hy
     .rename_i hm;cases hy;rw[l]at hx;have h1:(0<=i/\i<(n:Int)):=hc;generalize g:a.eval x=v at hx;cases hx with
      |vec j base nn cap hl hr=>
       have z:=h.hp.holds j _ q;rw[hr]at z;rcases z with⟨_,rfl⟩ | ⟨b,cap',c,s,_⟩
       .omega
       cases s;refine OpOk.pure h (v:=.pointer (some ⟨b,i.toNat*k+0,none⟩)) ?_ (.elt j k _ _ b _ cap hl hr);simp[execOp,ho,Instr.indexAt,r,asIntOf,BY w (P7 hk),g,h1,Ly w hm,Cj4]
     cases hy
    .rename_i e' n jr x0 q;split at hy
     .rename_i hm;cases hy;rw[l]at hx;have h1:(0<=i/\i<(n:Int)):=hc;generalize g:a.eval x=v at hx;cases hx with
      |vec j base nn cap hl hr=>
       obtain⟨rv,_,_,z⟩:=h.hp.holds j _ q;rw[hr]at z;rcases z with⟨_,rfl⟩ | ⟨b,cap',c,s,_⟩
       .omega
       cases s;refine OpOk.pure h (v:=.pointer (some ⟨b,i.toNat*1+0,none⟩)) ?_ (.elt j 1 _ _ b _ cap hl hr);simp[execOp,ho,Instr.indexAt,r,asIntOf,BY w (P7 hk),g,h1,Ly w hm,Cj4]
     cases hy
    cases hy
   .rename_i e j m0 hk l;split at hy
    .rename_i e' k n f vw q;split at hy
     .rename_i hm;cases hy;rw[l]at hx;have h1:(0<=i/\i<(m0:Int)/\m0<=n):=hc;generalize g:a.eval x=v at hx;cases hx with
      |vecp j _ base nn cap hl hr hmn=>
       have z:=h.hp.holds j _ q;rw[hr]at z;rcases z with⟨_,rfl⟩ | ⟨b,cap',c,s,_⟩
       .omega
       cases s;refine OpOk.pure h (v:=.pointer (some ⟨b,i.toNat*k+0,none⟩)) ?_ (.elt j k _ _ b _ cap hl hr);simp[execOp,ho,Instr.indexAt,r,asIntOf,BY w (P7 hk),g,h1.1,h1.2.1,Ly w hm,Cj4]
     cases hy
    cases hy
   cases hy
  cases he
 cases he
def Rv:∀{cs:List PV}{ss:List (List UInt8)},AC0 cs=some ss->ss.length=cs.length/\∀i,i<cs.length->cs.getD i default=.str (ss.getD i [])
 |[],ss,h=>by cases h;grind
 |x::r,ss,h=>by
  unfold AC0 at h;split at h
  .grind
  .rename_i s r' a;cases a;split at h
   .rename_i l hl;cases h;obtain⟨h1,b⟩:=Rv hl
    grind
   grind
  grind
def Bp2 (h:Sat C st a w rho){t:TypeId}{x ix:Operand}(q:o.op=.index t x ix)(r:aop P st.env st.Uu d o.op=some out)(hc:D2 out.cond):OpOk P C o st a w rho out:=by
 rw[q]at r;simp only[aop]at r
 repeat' split at r<;>try contradiction
 rename_i i hi _ c y hy;cases r;obtain⟨ik,g⟩:=CY (h.aev ix) hi;have hx:=h.aev x;unfold BB7 at hy;split at hy
 .rename_i l hk b;cases hy;rw[b]at hx;have h1:(0<=i/\i<(l.length:Int)):=hc;refine OpOk.pure h (v:=.int .u8 ((l.getD i.toNat 0).toNat:Nat)) ?_ (.p _ _ (.v _));have f:i.toNat<l.length:=by omega
  simp[execOp,q,Instr.index,g,asIntOf,BY w (Lx hk),hx.toP.toStr,h1.1,bget,f,Ce0]
 .rename_i n e cs hk b;split at hy
  .rename_i ss hke z;split at hy
   .rename_i hn;cases hy;rw[b]at hx;have hx:=hx.toP;have h1:(0<=i/\i<(n:Int)):=hc;obtain⟨hl,hg⟩:=Rv z;generalize j:a.eval x=v at hx;cases hx with
    |agg vs cs hs _ hrep=>
     have f:i.toNat<cs.length:=by omega
     have s:=hrep i.toNat f;rw[hg i.toNat f]at s;have hp:(part e vs (i.toNat*1)).run P w=.ok (vs.getD i.toNat undef) w:=by simp_all[part,H8,Zy,Ce1]
     refine OpOk.pure h (v:=vs.getD i.toNat undef) ?_ (.p _ _ s);simp only[execOp,q,Instr.index,g,asIntOf,Cg2,BY w (Nf hk),j,Cf1,Ci6,Jk h1,Ly w hn.2,hp]
   grind
  split at hy
  .rename_i m hm;split at hy
   .rename_i c' y' a0;cases hy;rw[b]at hx;have hx:=hx.toP;obtain⟨a1,a2⟩:=(Rm _ _).1 hc;generalize j:a.eval x=v at hx;cases hx with
    |agg vs cs hs h1 hrep=>obtain⟨u,hu,s⟩:=Vs (rho:=rho) (live:=Lv (A2 st.Uu)) hs h1 hrep a0 a1;exact OpOk.pure h (by simp[execOp,q,Instr.index,g,asIntOf,BY w (Nf hk),j,a2,Ly w hm,hu]) s
   grind
  grind
 grind
def Ep {x:Value}{k:IntKind}{i:Int}(hx:x=.int k i){y:Nat}(h:0<=i/\i<=y)(code:BoundsCode):(Instr.sliceBound x y code).run P w=.ok i.toNat w:=by
 simp_all[Instr.sliceBound,asIntOf]
def AC (v:Option Value)(i:Option Int):Prop:=(v=none/\i=none) \/ ∃k n,v=some (.int k n)/\i=some n
def FT {isS:Bool}{len cap:Nat}{lo a:Option Value}{l h:Option Int}(hl:AC lo l)(b:AC a h)(hc:0<=l.getD 0/\l.getD 0<=h.getD len/\h.getD len<=cap) :(Instr.sliceBounds isS len cap lo a none).run P w=.ok ((l.getD 0).toNat,(h.getD len).toNat,cap) w:=by
 have c:0<=h.getD len:=by omega
 rcases hl with⟨rfl,rfl⟩ | ⟨k,n,rfl,rfl⟩<;>rcases b with⟨rfl,rfl⟩ | ⟨k',n',rfl,rfl⟩<;>simp only[Cl9,Ce6]at hc c⊢
 .simp[Instr.sliceBounds]
 .simp[Instr.sliceBounds,Ep (P:=P) (w:=w) (k:=k') (i:=n') rfl (show 0<=n' /\ n' <= (cap:Int) by omega)]
 .simp[Instr.sliceBounds,Ep (P:=P) (w:=w) (k:=k) (i:=n) rfl (show 0<=n/\n<=(len:Int) by omega)]
 simp[Instr.sliceBounds,Ep (P:=P) (w:=w) (k:=k') (i:=n') rfl (show 0<=n' /\ n' <= (cap:Int) by omega),Ep (P:=P) (w:=w) (k:=k) (i:=n) rfl (show 0<=n/\n<=(n'.toNat:Int) by omega)]
def X7 {t e:TypeId}{k:Nat}(ht:tk P t=some (.slice e))(hm:tsz P e=some k){base:Option Addr}{len cap:Nat}{lo a:Option Value}{l h:Option Int}(hl:AC lo l)(b:AC a h)
 (hc:0<=l.getD 0/\l.getD 0<=h.getD len/\h.getD len<=cap) :
 (Instr.sliceAt t (.slice base len cap) lo a none).run P w=.ok (.slice (ite (cap=(l.getD 0).toNat) base (base.map (·.add ((l.getD 0).toNat*k)))) ((h.getD len).toNat-(l.getD 0).toNat) (cap-(l.getD 0).toNat)) w:=by
 have hb:=FT (P:=P) (w:=w) (isS:=true) hl b hc;simp[Instr.sliceAt,BY w (P7 ht),Instr.slice,hb,Ly w hm]
def Xi {t:TypeId}(ht:tk P t=some .str){s:List UInt8}{lo a:Option Value}{l h:Option Int}(hl:AC lo l)(b:AC a h)(hc:0<=l.getD 0/\l.getD 0<=h.getD s.length/\h.getD s.length<=s.length) :(Instr.sliceAt t (.string ⟨s.toArray⟩) lo a none).run P w=.ok (.string ⟨((s.take (h.getD s.length).toNat).drop (l.getD 0).toNat).toArray⟩) w:=by
 have hb:=FT (P:=P) (w:=w) (isS:=false) hl b hc
 simp_all[Instr.sliceAt,BY,Lx,Instr.slice,Uh,Bp1]
def Ng {t e:TypeId}{n:Nat}(ht:tk P t=some (.arr n e))(hm:tsz P e=some 1){b o:Nat}{lo a:Option Value}{h:Option Int}(hl:AC lo none)(c:AC a h)
 (hc:0<=h.getD n/\h.getD n<=n):(Instr.sliceAt t (.pointer (some ⟨b,o,none⟩)) lo a none).run P w=.ok (.slice (some ⟨b,o,none⟩) (h.getD n).toNat n) w:=by
 have hb:=FT (P:=P) (w:=w) (isS:=false) hl c (len:=n) (cap:=n) (by grind);simp[Instr.sliceAt,BY w (Nf ht),Instr.sureAddr,hb,Ly w hm,Addr.add]
def AZ0 {Pi:Nat->Nat->Prop}{b off cap k n l h' : Nat}{sp:Option Nat}{nn:Bool}{f:Nat->List PV}(a:Uy w Pi (.slice (some ⟨b,off,sp⟩) n cap) (.sl nn k n f))(d:l<=h')(q:h' <= n) :Uy w Pi (.slice (ite (cap=l) (some ⟨b,off,sp⟩) (some ((⟨b,off,sp⟩:Addr).add (l*k)))) (h' - l) (cap-l)) (.sl nn k (h' - l) (λi=>f (l+i))):=by
 cases a with
 |sl _ _ _ _ _ _ _ c hn hlen hcell hrep _ hsp=>
  have e:∃off' sp',(ite (cap=l) (some (⟨b,off,sp⟩:Addr)) (some ((⟨b,off,sp⟩:Addr).add (l*k))))=some ⟨b,off',sp'⟩/\(h' - l≠0->off' = off+l*k/\sp' = none):=by
   split
   .exact⟨off,sp,rfl,λh=>by omega⟩
   by_cases r:l*k=0
   .exact⟨off,sp,by grind[Addr.add],by grind⟩
   exact⟨off+l*k,none,by grind[Addr.add],by grind⟩
  obtain⟨off',sp',g,m⟩:=e;rw[g];refine .sl nn b off' (cap-l) k (h' - l) _ (λi j=>c (l+i) j) (by omega) (by grind) (λi j s o=>?_) (by grind) sp' (by grind)
  have:=hcell (l+i) j (by omega) o
  rw[(m (by omega)).1,show off+l*k+i*k+j=off+(l+i)*k+j by rw[Cn7];omega];omega
theorem OB {Pi:Nat->Nat->Prop}{base:Option Addr}{len cap k n l h' : Nat}{nn:Bool}{f:Nat->List PV}(d:Uy w Pi (.slice base len cap) (.sl nn k n f))(a:l<=h')(g:h' <= n) :Uy w Pi (.slice (ite (cap=l) base (base.map (·.add (l*k)))) (h' - l) (cap-l)) (.sl nn k (h' - l) (λi=>f (l+i))):=by
 cases d with
 |slnil=>
  obtain rfl:h' = 0:=by omega
  obtain rfl:l=0:=by omega
  simpa using Uy.slnil (w:=w) (Pi:=Pi) k _
 |sl _ b off cap _ _ _ c hn hlen hcell hrep sp hsp=>exact AZ0 (.sl nn b off cap k _ f c hn hlen hcell hrep sp hsp) a g
def CZ (h:Sat C st a w rho){x:Option Operand}{i:Option (Option Int)}(b:x.map (λo=>asInt (aev st.env o))=i):(i=none->AC (x.map a.eval) none)/\∀n,i=some (some n)->AC (x.map a.eval) (some n):=by
 subst b;cases x with
 |none=>exact⟨λ_=>.inl ⟨rfl,rfl⟩,by grind⟩
 |some o=>refine⟨λh=>by grind,λn hn=>?_⟩;simp at hn;obtain⟨k,hk⟩:=CY (h.aev o) hn;exact .inr (by grind)
def ZP (h:Sat C st a w rho){t:TypeId}{v:Value}{x:AV}(o:RS C st w rho v x){lo z:Option Value}{l hh:Option Int}(hl:AC lo l)(d:AC z hh){c:List Prop}{y:AV}{R' : C6}
 (g:IW P st.Uu t x l hh=some (c,y,R')) (hc:D2 c):∃u,(Instr.sliceAt t v lo z none).run P w=.ok u w/\Sat C { st with Uu:=R' } a w rho/\Kp C st.Uu R' w w rho rho/\Yj w (Prv C.X (A2 R') rho) (Lv (A2 R')) rho u y:=by
 unfold IW at g;split at g
 .
  rename_i s hk;have o:=o.toP.toStr;subst o;have fin:∀(l' h' : Option Int),AC lo l' -> AC z h' -> (0<=l'.getD 0/\l'.getD 0<=h'.getD s.length/\h'.getD s.length<=s.length)->y=.p (.str ((s.take (h'.getD s.length).toNat).drop (l'.getD 0).toNat))->R' = st.Uu ->
   ∃u,(Instr.sliceAt t (.string ⟨s.toArray⟩) lo z none).run P w=.ok u w/\Sat C { st with Uu:=R' } a w rho/\Kp C st.Uu R' w w rho rho/\Yj w (Prv C.X (A2 R') rho) (Lv (A2 R')) rho u y:=by
   rintro l' h' h1 h2 h3 rfl rfl;exact⟨_,Xi hk h1 h2 h3,h,Kp.refl _ _ _ _,.p _ _ (.str _)⟩
  split at g<;>cases g
  .exact fin _ _ hl d (by grind) (by simp) rfl
  .exact fin _ _ hl d (by grind[D2]) (by simp) rfl
  .exact fin _ _ hl d (by grind[D2]) (by simp) rfl
  exact fin _ _ hl d (by grind[D2]) (by simp) rfl
 .
  rename_i e nn k n f hk;split at g
  .rename_i hm;have o:=o.toP;obtain⟨base,len,cap,rfl,hlen,q⟩:∃base len cap,v=.slice base len cap/\len=n/\n<=cap:=by cases o<;>grind
   subst hlen;have fin:∀(l' h' : Option Int),AC lo l' -> AC z h' -> (0<=l'.getD 0/\l'.getD 0<=h'.getD len/\h'.getD len<=len)->y=.p (.sl nn k ((h'.getD len).toNat-(l'.getD 0).toNat) (λi=>f ((l'.getD 0).toNat+i)))->R' = st.Uu ->
    ∃u,(Instr.sliceAt t (.slice base len cap) lo z none).run P w=.ok u w/\Sat C { st with Uu:=R' } a w rho/\Kp C st.Uu R' w w rho rho/\Yj w (Prv C.X (A2 R') rho) (Lv (A2 R')) rho u y:=by
    rintro l' h' h1 h2 h3 rfl rfl;refine⟨_,X7 hk hm h1 h2 (by omega),h,Kp.refl _ _ _ _,.p _ _ ?_⟩
    grind[OB]
   split at g<;>cases g
   .exact fin _ _ hl d (by grind) (by simp) rfl
   .exact fin _ _ hl d (by grind[D2]) (by simp) rfl
   .exact fin _ _ hl d (by grind[D2]) (by simp) rfl
   exact fin _ _ hl d (by grind[D2]) (by simp) rfl
  grind
 .
  rename_i e hk;split at g
  .rename_i k hm;cases g;have h1:l.getD 0=0/\hh.getD 0=0:=hc;have o:=o.toP.toV;subst o;have hz:hh.getD ((0:Nat):Int)=0:=by grind
   refine⟨_,X7 hk hm hl d (len:=0) (cap:=0) (by omega),h,Kp.refl _ _ _ _,.p _ _ ?_⟩;rw[hz,h1.1];simpa using Uy.v (w:=w) (Pi:=PiS C st rho) (.slice none 0 0)
  grind
 .
  rename_i m e cs hk;split at g
  .rename_i b;split at g
   .rename_i hm;obtain⟨hm,rfl⟩:=hm;cases g;have hc:0<=b/\b<=(cs.length:Int):=hc;cases o.toP with
    |ptr bb off _ c hcc hh=>
     refine⟨_,Ng hk hm hl d hc,h,Kp.refl _ _ _ _,.p _ _ (.sl true bb off cs.length 1 b.toNat _ (λi _=>c i) (by omega) (λ_ _=>rfl) (λi j z hj=>?_) (λi j z hj=>?_) none λ_=>rfl)⟩
     all_goals grind
   grind
  .split at g
   .rename_i hm;obtain⟨hm,rfl⟩:=hm;cases g;cases o.toP with
    |ptr bb off _ c hcc hh=>
     refine⟨_,Ng hk hm hl d (by simp),h,Kp.refl _ _ _ _,.p _ _ (.sl true bb off cs.length 1 cs.length _ (λi _=>c i) (Ce5 _) (λ_ _=>rfl) (λi j z hj=>?_) (λi j z hj=>?_) none λ_=>rfl)⟩
     all_goals grind
   grind
  grind
 .
  rename_i e j hk;split at g
  .rename_i e' k n f vw hj;split at g
   .rename_i hm;obtain⟨hm,rfl⟩:=hm;cases o with
    |vec j base len cap hlv hr=>
    have q:len<=cap/\len=n:=by
     have hh:=h.hp.holds j _ hj;rw[hr]at hh;rcases hh with⟨hn,rfl⟩ | ⟨b,cap',c,hb',_,hncap,_⟩
     all_goals grind
    obtain⟨q,rfl⟩:=q;obtain⟨hv1,hv2,hv3⟩:=h.viewed hj;have hsl:=hv1.sl (j:=j) (m:=len) (e:=e') (k:=k) (n:=len) (f:=f) (by simp[A4]) hr (Ce5 _);have r:(ite (cap=((none:Option Int).getD 0).toNat) base (base.map (·.add (((none:Option Int).getD 0).toNat*k))))=base:=by
     simp_all[Addr.add]
    split at g<;>cases g
    .refine⟨_,X7 hk hm hl d (len:=len) (cap:=cap) (by grind),h,Kp.refl _ _ _ _,?_⟩;rw[r];simpa using Yj.vec (w:=w) (Pi:=PiS C st rho) j base len cap hlv hr
    .refine⟨_,X7 hk hm hl d (len:=len) (cap:=cap) (by grind[D2]),h,Kp.refl _ _ _ _,?_⟩;rw[r];simp only[D2]at hc
     have:=Yj.vecp (w:=w) (Pi:=PiS C st rho) j _ base len cap hlv hr (Cv8.2 hc.2)
     grind
    .refine⟨_,X7 hk hm hl d (len:=len) (cap:=cap) (by grind[D2]),hv1,⟨hv2,hv3⟩,.p _ _ ?_⟩;simp only[D2]at hc
     have:=OB hsl (l:=Int.toNat _) (h':=len) (Cv8.2 hc.2) (Ce5 _)
     grind
    refine⟨_,X7 hk hm hl d (len:=len) (cap:=cap) (by grind[D2]),hv1,⟨hv2,hv3⟩,.p _ _ ?_⟩
    grind[D2,OB,Int.toNat,Int.toNat_le_toNat,Int.toNat_le]
   grind
  grind
 grind
def Bp3 (h:Sat C st a w rho){t:TypeId}{x:Operand}{lo j:Option Operand}(n:o.op=.slice t x lo j none)(b:aop P st.env st.Uu d o.op=some out)(hc:D2 out.cond):OpOk P C o st a w rho out:=by
 rw[n]at b;simp only[aop]at b;have fin:∀(l g:Option Int),AC (lo.map a.eval) l->AC (j.map a.eval) g->∀c y R',IW P st.Uu t (aev st.env x) l g=some (c,y,R')->out=⟨c,y,R'⟩->OpOk P C o st a w rho out:=by rintro l g hl i c y R' hs rfl;obtain⟨u,r,h1,f,q⟩:=ZP h (h.aev x) hl i hs hc;exact⟨_,u,w,rho,by simp_all[execOp],.inl rfl,h1,f,q⟩
 split at b
 .rename_i h1 f;split at b
  .rename_i hs;cases b;exact fin none none ((CZ h h1).1 rfl) ((CZ h f).1 rfl) _ _ _ hs rfl
  grind
 .rename_i l h1 f;split at b
  .rename_i hs;cases b;exact fin (some l) none ((CZ h h1).2 l rfl) ((CZ h f).1 rfl) _ _ _ hs rfl
  grind
 .rename_i l h1 f;split at b
  .rename_i hs;cases b;exact fin none (some l) ((CZ h h1).1 rfl) ((CZ h f).2 l rfl) _ _ _ hs rfl
  grind
 .rename_i l m h1 f;split at b
  .rename_i hs;cases b;exact fin (some l) (some m) ((CZ h h1).2 l rfl) ((CZ h f).2 m rfl) _ _ _ hs rfl
  grind
 grind
end
section
variable {P:Program}{C:Ctx}{st:St}{a:Act}{w:World}{rho:Nat->Value}{o:Oper}{out:Out}{d:Nat}
def KQ {Pi:Nat->Nat->Prop}{v:Value}{x:PV}{b:Bool}(h:Uy w Pi v x)(a:Zz x=some b):v=.bool b:=by
 unfold Zz at a;split at a<;>cases a
 .exact h.toBool
 exact h.toV
def OC {Pi:Nat->Nat->Prop}{t:TypeId}{k:TK}(hk:tk P t=some k){v u:Value}{x y:PV}(d:Uy w Pi v x)(f:Uy w Pi u y){r:Bool}(c:An9 k x y=some r)(D:Nat) :(Op.equalIn (D+1) t v u).run P w=.ok r w:=by
 unfold An9 at c;split at c
 .rename_i k' k1 a k2 b;split at c
  .rename_i g;subst g;cases c;rw[d.toInt,f.toInt]
   simp_all[run_equalIn_int,ZJ]
  grind
 .split at c
  .rename_i a b ha hb;cases c;rw[KQ d ha,KQ f hb]
   grind[run_equalIn_bool,BH7]
  grind
 .cases c;rw[d.toStr,f.toStr,run_equalIn_string w D t _ _ (Lx hk)];simp
 grind
def ZQ {n:Nat}{t:TypeId}{k:TK}{ks:List TK}(hk:tk P t=some k)(h:lay P n t=some ks)(hs:∀fs,k ≠ .struct fs):ks=[k]/\Zy k=false:=by
 cases n with
 |zero=>grind[lay]
 |succ n=>obtain⟨dd,a,rfl⟩:=Dn hk;simp only[lay,a]at h;cases dd<;>simp at h<;>first|exact⟨h.symm,rfl⟩ | exact Ke rfl (hs _)
def ED:∀{k1 k2:List TK}{a b:List PV}{r:Bool},BH (k1++k2) a b=some r->∃r1 r2,BH k1 (a.take k1.length) (b.take k1.length)=some r1/\BH k2 (a.drop k1.length) (b.drop k1.length)=some r2/\r=(r1&&r2)/\a.length=k1.length+k2.length/\b.length=k1.length+k2.length
 |[],k2,a,b,r,h=>by
  have hl:∀{k:List TK}{a b:List PV}{r:Bool},BH k a b=some r->a.length=k.length/\b.length=k.length:=by
   intro k
   induction k with
   |nil=>grind[BH]
   |cons k ks ih=>
    intro a b r h;cases a with
    |nil=>grind[BH]
    |cons x a=>
     cases b with
     |nil=>grind[BH]
     |cons y b=>
      grind[BH,List.length_cons]
  have:=hl h
  grind[BH]
 |k::k1,k2,a,b,r,h=>by
  cases a with
  |nil=>grind[BH]
  |cons x a=>
   cases b with
   |nil=>grind[BH]
   |cons y b=>
    cases c:k1++k2 with
    |nil=>
     obtain⟨rfl,rfl⟩:=List.append_eq_nil_iff.1 c;simp at h;cases a with
     |cons _ _=>cases b<;>simp[BH]at h
     |nil=>
      cases b with
      |cons _ _=>grind[BH]
      |nil=>exact⟨r,true,by simpa using h,by simp[BH],by simp,rfl,rfl⟩
    |cons k' ks'=>
     have h' : ∃p q,An9 k x y=some p/\BH (k1++k2) a b=some q/\r=(p&&q):=by
      rw[Ce9,c]at h
      grind[BH]
     obtain⟨p,q,hp,d,rfl⟩:=h';obtain⟨r1,r2,h1,f,rfl,g,i⟩:=ED (k1:=k1) d;refine⟨p&&r1,r2,?_,by grind,by grind,by grind,by grind⟩
     grind[BH,List.length_nil,Option.some.injEq,List.length_cons]
theorem Fs {l:List PV}{off:Nat}(d:PV)(h:off<l.length):(l.drop off).take 1=[l.getD off d]:=by rw[Cm5 h,Cp7,List.take_zero,Ce0,Ce3 h];rfl
structure RowP (w:World) (Pi:Nat->Nat->Prop) (vs:Array Value) (cs:List PV):Prop where
 size:vs.size=cs.length
 rep:∀i,i<cs.length->Uy w Pi (vs.getD i undef) (cs.getD i default)
def RowP.extract {Pi:Nat->Nat->Prop}{vs:Array Value}{cs:List PV}(h:RowP w Pi vs cs){off n:Nat}(hle:off+n<=cs.length):RowP w Pi (vs.extract off (off+n)) ((cs.drop off).take n):=by
 have hs:=h.size;refine⟨by grind,λi a=>?_⟩;simp at a
 have:=h.rep (off+i) (by omega)
 simpa[Ce1,Co7,show i<min (off+n) vs.size-off by omega,show off+i<vs.size by omega,show off+i<cs.length by omega,Ce0,Cm2,show i<n by omega,Cp8]using this
def BI4 {Pi:Nat->Nat->Prop}:∀(n:Nat) (t:TypeId) (ks:List TK),lay P n t=some ks->AX6 P n t=true->∀(vs us:Array Value) (as bs:List PV) (off D:Nat) (r:Bool),n<=D ->
 RowP w Pi vs as->RowP w Pi us bs->off+ks.length<=as.length->off+ks.length<=bs.length->BH ks ((as.drop off).take ks.length) ((bs.drop off).take ks.length)=some r ->
 ∃x y,(part t vs off).run P w=.ok x w/\(part t us off).run P w=.ok y w/\(Op.equalIn D t x y).run P w=.ok r w:=by
 intro n
 induction n with
 |zero=>grind[lay]
 |succ n ih=>
  intro t ks hl hh vs us as bs off D r hD v z ha hb hc;obtain⟨D,rfl⟩:∃D',D=D' + 1:=⟨D-1,by omega⟩;cases hk:tk P t with
  |none=>
   have:P.underlying t=none:=by
    simp_all[tk]
   grind[lay]
  |some k=>
   by_cases hs:∀fs,k ≠ .struct fs
   .obtain⟨rfl,g⟩:=ZQ hk hl hs;simp at ha hb hc;have ea:(as.drop off).take 1=[as.getD off default]:=by
     grind[Fs]
    have eb:(bs.drop off).take 1=[bs.getD off default]:=by
     grind[Fs]
    rw[ea,eb]at hc;simp only[BH]at hc;have hvs:=v.size;have hus:=z.size;refine⟨vs.getD off undef,us.getD off undef,?_,?_,OC hk (v.rep off (by omega)) (z.rep off (by omega)) hc D⟩
    .simp[part,H8 w hk,g,Ce1,show off<vs.size by omega]
    simp[part,H8 w hk,g,Ce1,show off<us.size by omega]
   obtain⟨fs,rfl⟩:∃fs,k=.struct fs:=(by grind);obtain⟨fa,i,_⟩:=Hs hk;simp only[lay,i]at hl;simp only[AX6,i,Ce2,Cf6]at hh
   repeat' split at hl<;>try contradiction
   rename_i l hlf j;cases hl;refine⟨.agg (vs.extract off (off+ks.length)),.agg (us.extract off (off+ks.length)),?_,?_,?_⟩
   .simp[part,H8 w hk,Zy,Ly w j]
   .simp[part,H8 w hk,Zy,Ly w j]
   have m:P.fieldsOf t=fa:=by grind[Program.fieldsOf]
   rw[run_equalIn_struct w D t _ _ (by rw[m];omega) hh.1,m];have b:=v.extract ha;have c:=z.extract hb;generalize hvs' : vs.extract off (off+ks.length)=vs' at b;generalize hus' : us.extract off (off+ks.length)=us' at c;generalize q : (as.drop off).take ks.length=as' at b hc;generalize s : (bs.drop off).take ks.length=bs' at c hc;have hal:as'.length=0+ks.length:=by rw[<- q];grind
   have hbl:bs'.length=0+ks.length:=by rw[<- s];grind
   have hin:∀(fl:List Field) (o:Nat) (l:List TK) (r:Bool),BG5 (lay P n) fl o=some l->(fl.all λf=>decide (f.name ≠ "_")&&AX6 P n f.type)=true->as'.length=o+l.length->bs'.length=o+l.length ->
    BH l (as'.drop o) (bs'.drop o)=some r->(Op.eqFields D vs' us' fl).run P w=.ok r w:=by
    intro fl
    induction fl with
    |nil=>intro o l r h1 _ h2 h3 u;simp only[BG5,Cd9]at h1;subst h1;have e1:as'.drop o=[]:=(by grind);have e2:bs'.drop o=[]:=(by grind);rw[e1,e2]at u;simp only[BH,Cd9]at u;subst u;simp[Op.eqFields]
    |cons f fl ihf=>
     intro o l r h1 h2 h3 u h5;simp only[BG5]at h1;split at h1
     .grind
     rename_i a;have a:f.offset=o:=(by omega);split at h1
     .rename_i ka hka;split at h1
      .rename_i kb hkb;cases h1;simp only[Cm3,Ce2,decide_eq_true_eq]at h2;obtain⟨⟨d,hhv⟩,hrest⟩:=h2;obtain⟨r1,r2,hr1,hr2,rfl,_,_⟩:=ED h5;simp at h3 u;obtain⟨x,y,hx,hy,he⟩:=ih f.type ka hka hhv vs' us' as' bs' o D r1 (by omega) b c (by omega) (by omega) hr1;have hrec:=ihf (o+ka.length) kb r2 hkb (by omega) (by omega) (by omega) (by grind[List.drop_drop,Nat.add_comm]);simp only[Op.eqFields,Jk d,Cg2,a,hx,hy,he,Cf1];cases r1
       .simp
       grind
      grind
     grind
   grind
def Nh {Pi:Nat->Nat->Prop}{e:TypeId}{k:TK}(hk:tk P e=some k)(hb:BB3 k=true){vs us:Array Value}{as bs:List PV}(c:RowP w Pi vs as)(d:RowP w Pi us bs)(D:Nat) :∀(m j:Nat) (r:Bool),as.length=j+m->bs.length=j+m->BH (List.replicate m k) (as.drop j) (bs.drop j)=some r->(Op.eqItems (D+1) e 1 vs us (List.range' j m)).run P w=.ok r w
 |0,j,r,ha,hbl,h=>by
  rw[Cl7 (by omega),Cl7 (by omega)]at h
  simp_all[BH,Op.eqItems]
 |m+1,j,r,ha,hbl,h=>by
  have b:Zy k=false:=by cases k<;>first|rfl|cases hb
  rw[List.replicate_succ]at h;obtain⟨r1,r2,a,f,rfl,_,_⟩:=ED (k1:=[k]) (k2:=List.replicate m k) h;simp only[Cm0]at a f;rw[Fs default (by omega),Fs default (by omega)]at a;simp only[BH]at a;have i:=c.size;have l:=d.size;have hx:(part e vs (j*1)).run P w=.ok (vs.getD j undef) w:=by simp[part,H8 w hk,b,show j<vs.size by omega]
  have hy:(part e us (j*1)).run P w=.ok (us.getD j undef) w:=by simp[part,H8 w hk,b,show j<us.size by omega]
  have n:=OC hk (c.rep j (by omega)) (d.rep j (by omega)) a D;have g:=Nh hk hb c d D m (j+1) r2 (by omega) (by omega) (by simp_all);simp only[Co4,Op.eqItems,Cg2,hx,hy,n,Cf1];cases r1
  all_goals simp_all
theorem Jy {Pi:Nat->Nat->Prop}{t:TypeId}{v u:Value}{x y:PV}(d:Uy w Pi v x)(f:Uy w Pi u y){r:Bool}(a:ZB P t x y=some r) :(Op.equal t v u).run P w=.ok r w/\∃xs ys,v=.agg xs/\u=.agg ys:=by
 unfold ZB at a
 repeat' split at a<;>try contradiction
 rename_i n e ht _ _ _ k xs ys hk hc;have b:=Nf ht;cases d with
 |agg vs _ hs1 _ hr1=>
 cases f with
 |agg us _ hs2 _ hr2=>
 refine⟨?_,_,_,rfl,rfl⟩;obtain⟨i,g,j⟩:=Cg0.1 (show (P.info? e).map (·.size)=some 1 from hc.2);have c:P.cellsOf e=1:=by grind[Program.cellsOf]
 have hl:xs.length=n/\ys.length=n:=by
  have:=ED (k1:=List.replicate n k) (k2:=[]) (by simpa using a)
  grind
 show (Op.equalIn (9999+1) t (.agg vs) (.agg us)).run P w=_;rw[run_equalIn_array w 9999 vs us b g,c,List.range_eq_range'];exact Nh hk hc.1 ⟨hs1,hr1⟩ ⟨hs2,hr2⟩ 9998 n 0 r (by omega) (by omega) (by grind)
def OD {Pi:Nat->Nat->Prop}{t:TypeId}{v u:Value}{x y:PV}(f:Uy w Pi v x)(i:Uy w Pi u y){r:Bool}(c:Li P t x y=some r)(hc:D2 (KN P t)) :(Op.equal t v u).run P w=.ok r w/\(∀xs ys,v=.agg xs->u=.agg ys->P.eqGuardType P.depth t=false):=by
 unfold Li at c;unfold KN at hc;split at c
 .rename_i fs hk;simp only[hk,D2,Qx,Ce2,Cf6]at hc;split at c
  .rename_i ks xs ys a;refine⟨?_,λ_ _ _ _=>hc.2⟩;cases f with
   |agg vs _ hs1 _ hr1=>
   cases i with
   |agg us _ hs2 _ hr2=>
   obtain⟨fa,g,_⟩:=Hs hk;have hl:=a;simp only[lay,g]at hl
   repeat' split at hl<;>try contradiction
   rename_i l j d;cases hl;have b:xs.length=ks.length/\ys.length=ks.length:=by
    have:=ED (k1:=ks) (k2:=[]) (by simpa using c)
    grind
   obtain⟨x,y,hx,hy,m⟩:=BI4 (P:=P) (w:=w) 10 t ks a hc.1 vs us xs ys 0 10000 r (by omega) ⟨hs1,hr1⟩ ⟨hs2,hr2⟩ (by omega) (by omega) (by grind);have e1:(part t vs 0).run P w=.ok (.agg vs) w:=by
    have:vs.extract 0 ks.length=vs:=by rw[<- b.1,<- hs1];simp
    simp[part,H8 w hk,Zy,Ly w d,this]
   have e2:(part t us 0).run P w=.ok (.agg us) w:=by
    have:us.extract 0 ks.length=us:=by rw[<- b.2,<- hs2];simp
    simp[part,H8 w hk,Zy,Ly w d,this]
   rw[e1]at hx;rw[e2]at hy;cases hx;cases hy;exact m
  grind
 .grind[D2,Bool.not_eq_true',Jy]
 .rename_i k n o hk;refine⟨OC hk f i c 9999,λxs ys h1 q=>?_⟩;subst h1;exfalso;cases f<;>unfold An9 at c<;>split at c<;>simp_all [Zz]
 grind
end
section
variable {P:Program}{C:Ctx}{st:St}{a:Act}{w:World}{rho:Nat->Value}{o:Oper}{out:Out}{d:Nat}
def Bp4 {op:BinOp}{t:TypeId}{k l:IntKind}{x y:Int}{c:List Prop}{r:PV}(hk:k=l \/ op=.shl \/ op=.shr)(a:ZA op k x y=(c,r))(hc:D2 c)(Pi:Nat->Nat->Prop) :∃v,(binOp op t (.int k x) (.int l y)).run P w=.ok v w/\Uy w Pi v r:=by
 cases op<;>simp only[ZA,Cf2]at a<;>obtain⟨rfl,rfl⟩:=a
 case shl=>
  have:¬y<0:=by grind[D2]
  exact⟨_,by first|(simp[binOp,Op.shift,this];done)|(simp[binOp,Op.shift,this];rfl),.v _⟩
 case shr=>
  have:¬y<0:=by grind[D2]
  exact⟨_,by first|(simp[binOp,Op.shift,this];done)|(simp[binOp,Op.shift,this];rfl),.v _⟩
 all_goals
  obtain rfl:k=l:=by rcases hk with h|h|h<;>first|exact h|cases h
 case quo=>simp only[D2]at hc;exact⟨_,by simp_all[binOp,Op.intDiv],.v _⟩
 case rem=>simp only[D2]at hc;exact⟨_,by simp_all[binOp,Op.intDiv],.v _⟩
 case add=>exact⟨_,by simp_all[binOp,Op.intArith],.v _⟩
 case sub=>exact⟨_,by simp_all[binOp,Op.intArith],.v _⟩
 case mul=>exact⟨_,by simp_all[binOp,Op.intArith],.v _⟩
 case and=>exact⟨_,by first|(simp[binOp,Op.intBits];done)|(simp[binOp,Op.intBits];rfl),.v _⟩
 case or=>exact⟨_,by first|(simp[binOp,Op.intBits];done)|(simp[binOp,Op.intBits];rfl),.v _⟩
 case xor=>exact⟨_,by first|(simp[binOp,Op.intBits];done)|(simp[binOp,Op.intBits];rfl),.v _⟩
 case andNot=>exact⟨.int k (F3 .andNot k x y),by simp_all[binOp,ne_eq,not_true_eq_false,Lp,Op.intBits,F3],.v _⟩
 case eql=>exact⟨_,by simp_all[binOp,Op.intCmp],.bb _⟩
 case neq=>exact⟨_,by simp_all[binOp,Op.intCmp],.bb _⟩
 case lss=>exact⟨_,by simp_all[binOp,Op.intCmp],.bb _⟩
 case leq=>exact⟨_,by simp_all[binOp,Op.intCmp],.bb _⟩
 case gtr=>exact⟨_,by simp_all[binOp,Op.intCmp],.bb _⟩
 case geq=>exact⟨_,by simp_all[binOp,Op.intCmp],.bb _⟩
theorem FU {op:BinOp}{t:TypeId}{x y:Operand}{v u:Value}(h1:¬(v=.nilIface/\u=.nilIface))(b:∀xs ys,v=.agg xs->u=.agg ys->P.eqGuardType P.depth t=false) :(eqGuard op t x y v u).run P w=.ok () w:=by
 have key:∀op,op=.eql \/ op=.neq->(eqGuard op t x y v u).run P w=.ok () w:=by
  intro op a;rcases a with rfl|rfl<;>simp only[eqGuard,Cn8,Ce4,Lp]<;>split
  all_goals simp_all
 cases op<;>first|exact key _ (.inl rfl)|exact key _ (.inr rfl)|rfl
def Ft {t:TypeId}{v u:Value}{r:Bool}(h:(Op.equal t v u).run P w=.ok r w)(neg:Bool)(h1:∀k n,v ≠ .int k n)(a:∀s,v ≠ .string s)(b:∀k n,v ≠ .float k n)(c:∀k n m,v ≠ .complex k n m) :(binOp (ite neg (.neq) (.eql)) t v u).run P w=.ok (.bool (r != neg)) w:=by
 cases neg
 .have:binOp .eql t v u=(do pure (.bool (<- Op.equal t v u)):Sem Value):=by cases v<;>first|rfl|exact Ke rfl (h1 _ _)|exact Ke rfl (a _)|exact Ke rfl (b _ _)|grind
  simp_all
 have:binOp .neq t v u=(do pure (.bool (!(<- Op.equal t v u))):Sem Value):=by cases v<;>first|rfl|exact Ke rfl (h1 _ _)|exact Ke rfl (a _)|exact Ke rfl (b _ _)|exact Ke rfl (c _ _ _)
 simp[this,h]
theorem Vu {Pi:Nat->Nat->Prop}{t:TypeId}{v u:Value}{x y:PV}(d:Uy w Pi v x)(f:Uy w Pi u y){r:Bool}(c:Li P t x y=some r) :(∃k a b,v=.int k a/\u=.int k b/\r=(a==b)) \/ (∃a b,v=.bool a/\u=.bool b) \/ (∃a b:List UInt8,v=.string ⟨a.toArray⟩/\u=.string ⟨b.toArray⟩/\r=(a==b)) \/ (∃a b,v=.agg a/\u=.agg b):=by
 unfold Li at c;split at c
 .split at c
  .cases d;cases f
   grind
  grind
 .obtain⟨xs,ys,h1,g⟩:=(Jy d f c).2
  grind
 .unfold An9 at c;split at c
  .split at c
   .rename_i hk;subst hk;cases c;exact .inl ⟨_,_,_,d.toInt,f.toInt,rfl⟩
   grind
  .split at c
   .rename_i ha hb;cases c;exact .inr (.inl ⟨_,_,KQ d ha,KQ f hb⟩)
   grind
  .cases c;exact .inr (.inr (.inl ⟨_,_,d.toStr,f.toStr,rfl⟩))
  grind
 grind
def BI5 {t e:TypeId}(hk:P.underlying t=some (.pointer e))(d:Nat)(p q:Option Addr)(h:p=none \/ q=none):(Op.equalIn (d+1) t (.pointer p) (.pointer q)).run P w=.ok (p.isNone&&q.isNone) w:=by
 rcases h with rfl|rfl
 .simp[Op.equalIn,BY w hk]
 cases p<;>simp[Op.equalIn,BY w hk]
def AZ1 {t e:TypeId}(hk:P.underlying t=some (.slice e))(d:Nat)(p q:Option Addr)(n m k l:Nat)(h:p=none \/ q=none):(Op.equalIn (d+1) t (.slice p n m) (.slice q k l)).run P w=.ok (p.isNone&&q.isNone) w:=by
 rcases h with rfl|rfl
 .simp[Op.equalIn,BY w hk]
 cases p<;>simp[Op.equalIn,BY w hk]
theorem BI6 {t e f:TypeId}(hk:P.underlying t=some (.map e f))(d:Nat)(p q:Option Nat)(h:p=none \/ q=none):(Op.equalIn (d+1) t (.map p) (.map q)).run P w=.ok (p.isNone&&q.isNone) w:=by
 rcases h with rfl|rfl
 .simp[Op.equalIn,BY w hk]
 cases p<;>simp[Op.equalIn,BY w hk]
theorem AC5 {t:TypeId}{a b:Array TypeId}{c:Bool}(hk:P.underlying t=some (.func a b c))(d:Nat):(Op.equalIn (d+1) t .nilFunc .nilFunc).run P w=.ok true w/\∀f x y,(Op.equalIn (d+1) t (.func f x y) .nilFunc).run P w=.ok false w:=
 ⟨by simp[Op.equalIn,BY w hk],λf x y=>by simp[Op.equalIn,BY w hk]⟩
theorem AZ2 {t:TypeId}{ms:Array (String×TypeId)}(hk:P.underlying t=some (.interface ms))(d:Nat)(u:TypeId)(x:Value):(Op.equalIn (d+1) t (.iface u x) .nilIface).run P w=.ok false w:=by simp[Op.equalIn,BY w hk]
def Odd (v:Value):Prop:=(∀xs,v ≠ .agg xs)/\(∀k n,v ≠ .int k n)/\(∀s,v ≠ .string s)/\(∀k n,v ≠ .float k n)/\(∀k n m,v ≠ .complex k n m)
def Ao9 {Pi:Nat->Nat->Prop}{live:Nat->Prop}{t:TypeId}{v u:Value}{x y:AV}(d:Yj w Pi live rho v x)(g:Yj w Pi live rho u y){b:Bool}(i:BG6 P t x y=some b) :(Op.equal t v u).run P w=.ok b w/\¬(v=.nilIface/\u=.nilIface)/\Odd v:=by
 show (Op.equalIn (9999+1) t v u).run P w=.ok b w/\_;generalize 9999=D;unfold BG6 at i;split at i
 .rename_i e hk;have fin:∀p q:Option Addr,v=.pointer p->u=.pointer q->(p=none \/ q=none)->b=(p.isNone&&q.isNone)->(Op.equalIn (D+1) t v u).run P w=.ok b w/\¬(v=.nilIface/\u=.nilIface)/\Odd v:=by rintro p q rfl rfl h rfl;exact⟨BI5 hk D p q h,by simp,by simp[Odd]⟩
  split at i<;>cases i
  .exact fin _ _ d.toP.toV g.toP.toV (.inl rfl) rfl
  .have:=g.toP;generalize u=u at this fin;cases this;exact fin _ _ d.toP.toV rfl (.inl rfl) rfl
  .generalize u=u at g fin;cases g;exact fin _ _ d.toP.toV rfl (.inl rfl) rfl
  .generalize u=u at g fin;cases g;exact fin _ _ d.toP.toV rfl (.inl rfl) rfl
  .have:=d.toP;generalize v=v at this fin;cases this;exact fin _ _ rfl g.toP.toV (.inr rfl) rfl
  .generalize v=v at d fin;cases d;exact fin _ _ rfl g.toP.toV (.inr rfl) rfl
  generalize v=v at d fin;cases d;exact fin _ _ rfl g.toP.toV (.inr rfl) rfl
 .rename_i e hk;have fin:∀(p q:Option Addr) (n m k l:Nat),v=.slice p n m->u=.slice q k l->(p=none \/ q=none)->b=(p.isNone&&q.isNone)->(Op.equalIn (D+1) t v u).run P w=.ok b w/\¬(v=.nilIface/\u=.nilIface)/\Odd v:=by rintro p q n m k l rfl rfl h rfl;exact⟨AZ1 hk D p q n m k l h,by simp,by simp[Odd]⟩
  split at i<;>cases i
  .exact fin _ _ _ _ _ _ d.toP.toV g.toP.toV (.inl rfl) rfl
  have:=d.toP;generalize v=v at this fin;cases this;exact fin _ _ _ _ _ _ rfl g.toP.toV (.inr rfl) rfl
 .rename_i e f hk;have fin:∀(p q:Option Nat),v=.map p->u=.map q->(p=none \/ q=none)->b=(p.isNone&&q.isNone)->(Op.equalIn (D+1) t v u).run P w=.ok b w/\¬(v=.nilIface/\u=.nilIface)/\Odd v:=by rintro p q rfl rfl h rfl;grind[BI6,Odd]
  split at i<;>cases i
  .exact fin _ _ d.toP.toV g.toP.toV (.inl rfl) rfl
  generalize v=v at d fin;cases d;exact fin _ _ rfl g.toP.toV (.inr rfl) rfl
 .rename_i a c e hk;split at i<;>cases i
  .rw[d.toP.toV,g.toP.toV];grind[AC5,Odd]
  rw[g.toP.toV];cases d;exact⟨(AC5 hk D).2 _ _ _,by simp,by simp[Odd]⟩
 .rename_i ms hk;split at i<;>cases i
  rw[g.toP.toV];have:=d.toP;cases this;grind[AZ2,Odd]
 grind
def Bp5 (h:Sat C st a w rho){op:BinOp}{t yt:TypeId}{x y:Operand}(ho:o.op=.binOp op t x y yt)(he:aop P st.env st.Uu d o.op=some out)(hc:D2 out.cond):OpOk P C o st a w rho out:=by
 rw[ho]at he;simp only[aop]at he;split at he
 .rename_i c r hb;cases he;have hx:=h.aev x;have hy:=h.aev y;have fin:∀v,(eqGuard op t x y (a.eval x) (a.eval y)).run P w=.ok () w->(binOp op t (a.eval x) (a.eval y)).run P w=.ok v w->Uy w (PiS C st rho) v r->OpOk P C o st a w rho ⟨c,.p r,st.Uu⟩:=by intro v h1 h2 u;exact OpOk.pure h (by simp_all[execOp]) (.p _ _ u)
  unfold bin at hb;split at hb
  .rename_i k n l m g i;rw[g]at hx;rw[i]at hy;have s:=hx.toP.toInt;have a0:=hy.toP.toInt;have hg:(eqGuard op t x y (a.eval x) (a.eval y)).run P w=.ok () w:=FU (by rw[s];simp) (by rw[s];simp);have key:ZA op k n m=(c,r)/\(k=l \/ op=.shl \/ op=.shr):=by
    grind
   obtain⟨v,hv,hr⟩:=Bp4 (P:=P) (w:=w) (t:=t) key.2 key.1 hc (PiS C st rho)
   grind
  have eq:∀neg:Bool,op=(ite neg (.neq) (.eql))->eqA P t (aev st.env x) (aev st.env y) neg=some (c,r)->OpOk P C o st a w rho ⟨c,.p r,st.Uu⟩:=by
   intro neg hop j;unfold eqA at j;split at j
   .rename_i r' f;cases j;split at f
    .rename_i p q g i;rw[g]at hx;rw[i]at hy;have a1:=hx.toP;have a2:=hy.toP;obtain⟨h1,h2⟩:=OD a1 a2 f hc;have hg:(eqGuard op t x y (a.eval x) (a.eval y)).run P w=.ok () w:=by
      grind[FU,Vu]
     refine fin (.bool (r' != neg)) hg ?_ (.bb _);subst hop;rcases Vu a1 a2 f with⟨k,n,m,u,z,rfl⟩ | ⟨n,m,u,z⟩ | ⟨n,m,u,z,rfl⟩ | ⟨n,m,u,z⟩
     .rw[u,z];cases neg<;>simp[binOp,Op.intCmp,bne]
     .simp_all[Ft]
     .rw[u,z];cases neg<;>simp[binOp,Op.stringOp]
     simp_all[Ft]
    grind
   split at j
   .rename_i r' f;cases j;split at f
    .rename_i p q g i;rw[g]at hx;rw[i]at hy;obtain⟨h1,xs,ys,u,z⟩:=Jy hx.toP hy.toP f;have hg:(eqGuard op t x y (a.eval x) (a.eval y)).run P w=.ok () w:=
      FU (by rw[u];simp) λ_ _ _ _=>by grind[D2]
     refine fin (.bool (r' != neg)) hg ?_ (.bb _)
     simp_all[Ft]
    grind
   split at j
   .rename_i b a3;cases j;obtain⟨h1,h2,u,z,h5,h6,h7⟩:=Ao9 hx hy a3;refine fin (.bool (b != neg)) (FU h2 (by grind)) ?_ (.v _)
    simp_all[Ft]
   grind
  split at hb
  .split at hb
   .rename_i l m g i;cases hb;rw[g]at hx;rw[i]at hy;have s:=hx.toP.toStr;have a0:=hy.toP.toStr;refine fin (.string ⟨(l++m).toArray⟩) (FU (by rw[s];simp) (by rw[s];simp)) ?_ (.str _)
    have:¬(9223372036854775807<((l.length:Int)+(m.length:Int))):=by grind[D2]
    have hmx:IntKind.i64.max=9223372036854775807:=rfl;rw[s,a0]
    simp_all[binOp,Op.stringOp,Uh,BI3]
   grind
  all_goals grind
 grind
end
section
variable {P:Program}{C:Ctx}{st:St}{a:Act}{w:World}{rho:Nat->Value}{o:Oper}{out:Out}{d:Nat}
def Sat.grow (h:Sat C st a w rho){w' : World}(c:w.heap.size<=w'.heap.size)(d:∀b,b<w.heap.size->w'.heap[b]? = w.heap[b]?)(hext:Ext w w':=by exact⟨rfl,rfl⟩):Sat C st a w' rho/\Kp C st.Uu st.Uu w w' rho rho:=by
 obtain⟨h1,f⟩:=h.step (R':=st.Uu) (rho':=rho) (w':=w') (λ_=>False) (λ_ _=>rfl) (by grind) c (by grind) (λj _ _ h=>h.elim) (by grind)
  (by grind) (by grind) (by grind) (by grind) hext
 exact⟨h1,f,by grind⟩
def OE (e:TypeId)(l:List UInt8):∃w' cap c,(Conv.stringToBytes e ⟨l.toArray⟩).run P w=.ok (.slice (some ⟨w.heap.size,0,none⟩) l.length cap) w' /\ Ext w w' /\ l.length<=cap/\w.heap.size<=w'.heap.size/\(∀b,b<w.heap.size->w'.heap[b]? = w.heap[b]?) /\
 ∀i,i<l.length->w'.cell? ⟨w.heap.size,i,none⟩=some (.int .u8 ((l.getD i 0).toNat:Nat))/\c=():=by
 have d:l.length<=grownCap w l.length 0 e:=grownCap_ge w _ _ e;refine⟨(w.drew.alloc (.cells ((l.toArray.map λb=>Value.int .u8 (b.toNat:Nat))++Array.replicate (grownCap w l.length 0 e-l.length) (.int .u8 0)) e)).freeze ⟨w.heap.size,l.length+(grownCap w l.length 0 e-l.length),none⟩ 1,grownCap w l.length 0 e,(),?_,⟨rfl,rfl⟩,d,?_,?_,?_⟩
 .have f:∀arr:Array Value,(w.drew.alloc (.cells arr e)).shape? w.heap.size=some (e,arr.size):=by
   grind[heap_alloc_new,World.size_drew,World.shape?]
  simp_all[Conv.stringToBytes,Uh,Question.forced,newRow,markStringish,grownCap]
 .simp[World.freeze]
 .intro b hb;have h1:b≠w.heap.size:=by omega
  simp only[World.freeze,Nat.one_ne_zero,Lp,Cj8,Js (Cl4 h1)];exact heap_alloc_old w.drew _ b hb
 intro i g;refine⟨?_,rfl⟩;have a:=heap_alloc_new w.drew (.cells ((l.toArray.map λb=>Value.int .u8 (b.toNat:Nat))++Array.replicate (grownCap w l.length 0 e-l.length) (.int .u8 0)) e);simp only[World.size_drew]at a;simp only[World.cell?,World.freeze,Nat.one_ne_zero,Lp,Cj8,Lo,a,Cf0]
 grind
def Ap0 {Pi:Nat->Nat->Prop}{f:List PV}{v:Value}(a:(Ls f).isSome=true)(hl:f.length=1)(b:Uy w Pi v (f.getD 0 default)):∃n,v=.int .u8 n/\Ls f=some (UInt8.ofNat n.toNat):=by
 unfold Ls at a⊢;split at a
 .rename_i n;exact⟨n,b.toInt,rfl⟩
 grind
def AL1 (ns:List Int):∀s:ByteArray,ns.foldl (λr n=>r.push (UInt8.ofNat n.toNat)) s=⟨s.data++(ns.map λn=>UInt8.ofNat n.toNat).toArray⟩:=by
 induction ns<;>simp_all
def Ni {v:Value}{n:Nat}{news:List Value}(hs:(Builtin.firstCells 1 n v).run P w=.ok news.toArray w)(hl:(Builtin.lenOf v).run P w=.ok n w)(a:∃b k c,v=.slice b k c){ns:List Int}(hn:news=ns.map (Value.int .u8))(d:∀k c,v=.slice none k c->news=[]) :(Conv.bytesToString v).run P w=.ok (.string (ns.foldl (λr n=>r.push (UInt8.ofNat n.toNat)) ByteArray.empty)) w:=by
 obtain⟨b,k,c,rfl⟩:=a;simp only[Builtin.lenOf,Ci6,Result.ok.injEq,and_true]at hl;subst hl;cases b with
 |none=>
  have:=d k c rfl
  simp_all[Conv.bytesToString,ByteArray.empty,ByteArray.emptyWithCapacity]
 |some ad=>
  simp only[Builtin.firstCells,Ci3]at hs;rw[hn]at hs
  grind[run_bytesToString]
def AL2 (h:Sat C st a w rho){s t:TypeId}{x:Operand}(ho:o.op=.convert s t x)(he:aop P st.env st.Uu d o.op=some out)(hc:D2 out.cond):OpOk P C o st a w rho out:=by
 rw[ho]at he;simp only[aop]at he;have hx:=h.aev x;split at he
 .rename_i k0 k hs ht;split at he
  .rename_i k1 n z;cases he;rw[z]at hx;refine OpOk.pure h (v:=.int k (k.wrap n)) ?_ (.p _ _ (.v _));simp[execOp,ho,convert,BY w (ZJ hs),BY w (ZJ ht),hx.toP.toInt,Conv.intToInt]
  grind
 .rename_i hs ht;split at he
  .rename_i l z;cases he;rw[z]at hx;refine OpOk.pure h (v:=.string ⟨l.toArray⟩) ?_ (.p _ _ (.str _));simp[execOp,ho,convert,BY w (Lx hs),BY w (Lx ht),hx.toP.toStr]
  grind
 .rename_i e hs ht;split at he
  .rename_i l z hel;cases he;rw[z]at hx;obtain⟨w',cap,c,hr,hxt,hcap,hsz,hheap,hcell⟩:=OE (P:=P) (w:=w) e l;obtain⟨h1,h2⟩:=h.grow hsz hheap hxt;refine⟨_,_,w',rho,?_,.inl rfl,h1,h2,.p _ _ (.sl true w.heap.size 0 cap 1 l.length _ (λi _=>.int .u8 ((l.getD i 0).toNat:Nat)) hcap (λi hi=>rfl) (λi j hi hj=>?_) (λi j hi hj=>?_) none λ_=>rfl)⟩
   .simp[execOp,ho,convert,BY w (Lx hs),BY w (P7 ht),BY w (ZJ hel),hx.toP.toStr,hr]
   .obtain rfl:j=0:=by omega
    refine⟨by grind,?_,rfl⟩;rintro (hX|⟨j',o',hj',hbo,_⟩)
    .have:=h.hp.bound _ _ hX;omega
    have:=h.hp.lt ⟨j',o',hj',hbo⟩;omega
   obtain rfl:j=0:=by omega
   exact .v _
  grind
 .rename_i e hs ht
  repeat' split at he<;>try contradiction
  rename_i hel _ _ n f hsl q;cases he;have hc:∀i,i<n->(Ls (f i)).isSome=true:=hc;obtain⟨c,hsrc,hfl,hfr⟩:=Ru h hx q hs rfl;have hb:∀i,i<n->∃m,c i 0=.int .u8 m/\Ls (f i)=some (UInt8.ofNat m.toNat):=λi hi=>Ap0 (hc i hi) (hfl i hi) (hfr i 0 hi (by omega)).1;obtain⟨g,hg⟩:∃g:Nat->Int,∀i,i<n->c i 0=.int .u8 (g i)/\Ls (f i)=some (UInt8.ofNat (g i).toNat):=
   ⟨λi=>if hi:i<n then (hb i hi).choose else 0,by grind⟩
  have hnews:CC c n 1=((List.range n).map g).map (Value.int .u8):=by
   simp_all[CC,Ci3,Cw1,Nat.mod_one,Cm4,Cf9,Ch1]
  have u:∃b k cc,a.eval x=.slice b k cc:=by
   generalize z:aev st.env x=y at hx hsl q;generalize a.eval x=v at hx;cases hx with
   |p _ y hy=>
    cases hy with
    |v y=>
     simp only[elems]at q;split at q<;>first
      |(rename_i heq;cases heq;exact⟨_,_,_,rfl⟩)
      |(cases q;done)
      |(rename_i heq;cases heq)
    |str l=>grind[BB4]
    |slnil=>grind
    |sl=>grind
    |_=>simp[elems]at q
   |vec=>grind
   |vecp=>grind
   |_=>simp[elems]at q
  have hnil:∀k cc,a.eval x=.slice none k cc->CC c n 1=[]:=by
   intro k cc hv;have h1:=hsrc.cells;rw[hv]at h1;simp only[Builtin.firstCells,Ci6,Result.ok.injEq,and_true]at h1
   grind
  have hrun:=Ni hsrc.cells (hsrc.len w) u hnews hnil;refine OpOk.pure h (v:=.string ⟨((List.range n).map λi=>(Ls (f i)).getD 0).toArray⟩) ?_ (.p _ _ (.str _));have hfin:(((List.range n).map g).foldl (λr m=>r.push (UInt8.ofNat m.toNat)) ByteArray.empty)=⟨((List.range n).map λi=>(Ls (f i)).getD 0).toArray⟩:=by
   rw[AL1]
   simp_all
  rw[hfin]at hrun;obtain⟨b,k,cc,hv⟩:=u;rw[hv]at hrun
  simp_all[execOp,run_convert_bytes_string,P7,ZJ,Lx]
 grind
def ZR (h:Sat C st a w rho){t:TypeId}{l c:Operand}(ho:o.op=.makeSlice t l c)(he:aop P st.env st.Uu d o.op=some out)(hc:D2 out.cond):OpOk P C o st a w rho out:=by
 rw[ho]at he;simp only[aop]at he
 repeat' split at he<;>try contradiction
 rename_i e n m hk hn hm r _ _ k z s hz hzl;cases he;obtain⟨h1,h2,h3,h4⟩:0<=n/\n<=m/\m*Fi P e<=140737488355328/\m<=140737488355328:=hc;obtain⟨kn,u⟩:=CY (h.aev l) hn;obtain⟨km,y⟩:=CY (h.aev c) hm;obtain⟨i,v,hi,hiz,rfl⟩:=CX hz;have hk' : i.size=k:=by grind[QX]
 have hvz:v.cells.size=k:=by grind
 have hby:Fi P e=i.bytes:=by grind[Fi,Program.bytesOf]
 rw[hby]at h3;have w64:∀x:Int,0<=x->x<=140737488355328->IntKind.i64.wrap x=x:=by
  intro x hx hx';have e1:x % (2 ^ 64:Int)=x:=(by omega);unfold IntKind.wrap;simp only[IntKind.bits,IntKind.signed,e1];rw[Js]
  grind
 have hrange:(i.bytes:Int)*m<=140737488355328:=by have e:m*(i.bytes:Int)=(i.bytes:Int)*m:=Int.mul_comm _ _;omega
 obtain⟨arr,f⟩:∃arr:Array Value,arr=(Array.range (m.toNat*k)).map ((ite (m.toNat*k=0) (#[]) v.cells)[· % (ite (m.toNat*k=0) (#[]) v.cells).size]!):=⟨_,rfl⟩;have hrun:(Instr.makeSlice t (a.eval l) (a.eval c)).run P w=.ok (.slice (some ⟨w.heap.size,0,none⟩) n.toNat m.toNat) (w.alloc (.cells arr e)):=by
  have b1:¬(m<0):=by omega
  have b2:¬(281474976710656<(i.bytes:Int)*m):=by omega
  have b3:¬(n<0):=by omega
  have b4:¬(m<n):=by omega
  rw[f];by_cases q:m.toNat*k=0
  .simp[Instr.makeSlice,BY w (P7 hk),u,y,_root_.Go.asInt,asIntOf,BH8 w hi,w64 n h1 (by omega),w64 m (by omega) h4,b1,b2,b3,b4,Ly w s,q,newRow]
  simp[Instr.makeSlice,BY w (P7 hk),u,y,_root_.Go.asInt,asIntOf,BH8 w hi,w64 n h1 (by omega),w64 m (by omega) h4,b1,b2,b3,b4,Ly w s,q,newRow,Bo7 w hi hiz]
 have a0:∀i' j,i' < n.toNat->j<k->arr.getD (i' * k+j) undef=v.cells.getD j undef:=by
  intro i' j a1 hj;have hlt:=M1 (show i' < m.toNat by omega) hj;have q:¬(m.toNat*k=0):=by omega
  rw[f]
  simp_all[Lp,Cn4,Cp9,Ck4,Ce1]
 obtain⟨h1',h2',h3'⟩:=h.fresh (Dp d 0) r (.vec e k n.toNat (λ_=>v.cells.toList.map Uf) false) (.slice (some ⟨w.heap.size,0,none⟩) n.toNat m.toNat) (w':=w.alloc (.cells arr e)) (by simp)
  (λb hb=>heap_alloc_old w _ b hb) (λb hb=>by grind[G0,R8]) (λhk=>by
   refine .inr ⟨w.heap.size,m.toNat,arr,rfl,heap_alloc_new w _,by omega,by rw[f];simp,by grind[maxLen],by grind,λi' j a1 hj=>?_⟩;rw[a0 i' j a1 hj];have hj' : j<v.cells.size:=by omega
   have e:(v.cells.getD j undef)=v.cells[j]:=by simp_all
   rw[e];refine⟨?_,?_⟩
   .grind[Array.getElem?_eq_getElem,O6]
   have g:=hzl.2;simp only[Cn3,Ce8,Function.comp]at g;exact (O6 w (λ_ _=>False) _).cell (g _ (by simp)))
 exact⟨_,_,_,_,by simp_all[execOp],.inl rfl,h1',⟨h2',h3'⟩,.vec _ (some ⟨w.heap.size,0,none⟩) n.toNat m.toNat (by simp[Lv,A4]) (by simp)⟩
end
section
variable {P:Program}{C:Ctx}{st:St}{a:Act}{w:World}{rho:Nat->Value}{o:Oper}{out:Out}{d:Nat}
def AC6 (off:Nat):∀(vs:List Value) (k:Nat) (cells:Array Value),off+k+vs.length<=cells.size ->
 ((vs.zipIdx k).foldl (λcs (p:Value×Nat)=>cs.setIfInBounds (off+p.2) p.1) cells).toList=splice cells.toList (off+k) vs
 |[],k,cells,h=>by simp[splice]
 |v::vs,k,cells,h=>by
  simp at h;rw[List.zipIdx_cons,List.foldl_cons,AC6 off vs (k+1) _ (by grind)];have e:=list_seg_step cells.toList (off+k) v vs (by omega)
  simp_all[splice,Cr5,Cr3]
def ZS (off:Nat)(vs:Array Value)(cells:Array Value)(h:off+vs.size<=cells.size) :(vs.zipIdx.foldl (λcs (p:Value×Nat)=>cs.setIfInBounds (off+p.2) p.1) cells).toList=splice cells.toList off vs.toList:=by
 rw[<- Cv2,Array.toList_zipIdx]
 simp_all[AC6]
def Ui (fs:List Field)(h:∀f∈fs,(tsz P f.type).isSome=true):(fs.mapM λf=>(do pure (f.offset,<- sizeOf f.type):Sem (Nat×Nat))).run P w=.ok (fs.map λf=>(f.offset,(tsz P f.type).getD 0)) w:=by
 induction fs with
 |nil=>simp
 |cons f fs ih=>
  obtain⟨m,hm⟩:=Cf3.1 (h f (by simp));rw[List.mapM_cons]
  simp_all[Cg2,Ly,Cf1,Ci6,Cf8,Ce6]
def Vv (h:Sat C st a w rho){FP:Nat->Option (Nat×Nat)}:∀(parts:List (Nat×Operand)) (cs cs' : List AV) (c:Array Value) (f:List AV->Option (List AV)),
 (∀cs,Pv st.env FP parts cs=f cs)->f cs=some cs' -> c.size=cs.length->RepL w (PiS C st rho) (Lv (A2 st.Uu)) rho (λi=>c.getD i undef) cs ->
 ∃c',Instr.fill FP c (parts.map λq=>(q.1,a.eval q.2))=some c' /\ c'.size=cs'.length/\RepL w (PiS C st rho) (Lv (A2 st.Uu)) rho (λi=>c'.getD i undef) cs'
 |[],cs,cs',c,f,hf,he,hs,hr=>by rw[<- hf]at he;simp only[Pv,Cd9]at he;subst he;exact⟨c,rfl,hs,hr⟩
 |(i,x)::parts,cs,cs',c,f,hf,he,hs,hr=>by
  rw[<- hf]at he;simp only[Pv]at he
  repeat' split at he<;>try contradiction
  rename_i off m b hp j;have hc:=KP (h.aev x) b;have d:=ZS off (a.eval x).cells c (by omega);have g:((a.eval x).cells.zipIdx.foldl (λcs (p:Value×Nat)=>cs.setIfInBounds (off+p.2) p.1) c).size=(splice cs off (cellsOf (aev st.env x))).length:=by rw[<- Cn6,d,J0 _ _ _ (by grind),J0 _ _ _ (by omega)];omega
  obtain⟨c',h1,n,o⟩:=Vv h parts (splice cs off (cellsOf (aev st.env x))) cs' _ _ (λ_=>rfl) he g (by
   have:=RepL.splice (c:=c.toList) (cs:=cs) (vs:=(a.eval x).cells.toList) (new:=cellsOf (aev st.env x)) (off:=off) (by omega)
    (by intro i l;have:=hr i l;simpa only[E5]using this) (by grind) (by simp_all) (by omega)
   grind[E5])
  simp_all[Cf8,Instr.fill,Js]
def Xj {t:TypeId}{i:TypeInfo}{v:Value}{Pi:Nat->Nat->Prop}{live:Nat->Prop}{rho:Nat->Value}(a:(v.cells.toList.map Uf).all Mn=true):RepL w Pi live rho (λi=>v.cells.getD i undef) ((v.cells.toList.map Uf).map .p):=by
 intro i b;simp at b;have e:(v.cells.getD i undef)=v.cells[i]:=by simp_all
 simp only[e];refine⟨?_,?_⟩
 .simp only[Ce0,Ce7,Ci8,Ch4 b,Cf0,Ce6];exact .p _ _ (O6 _ _ _)
 simp only[Cn3,Ce8,Function.comp]at a;exact (O6 w (λ_ _=>False) _).cell (a _ (by simp))
def Bp6 (h:Sat C st a w rho){t:TypeId}{parts:Array (Nat×Operand)}(l:o.op=.build t parts)(g:aop P st.env st.Uu d o.op=some out):OpOk P C o st a w rho out:=by
 rw[l]at g;simp only[aop]at g
 repeat' split at g<;>try contradiction
 rename_i z s _ _ cs c hb;cases g;simp only[Ce2]at c;obtain⟨i,v,u,j,rfl⟩:=CX s;obtain⟨c',h1,x,y⟩:=Vv h (FP:=Vm P t) parts.toList _ cs v.cells _ (λ_=>rfl) hb (by simp) (Xj (t:=t) (i:=i) c.1);refine OpOk.pure h (v:=.agg c') ?_ (y.mkAgg x λ_ _=>rfl);have b:(parts.map λq=>(q.1,a.eval q.2)).toList=parts.toList.map λq=>(q.1,a.eval q.2):=by simp
 have hs:=c.2;unfold AX7 at hs;split at hs
 .rename_i fs hk;obtain⟨fa,hu,rfl⟩:=Hs hk;have hp:Vm P t=λi=>((fa.toList.map λf=>(f.offset,(tsz P f.type).getD 0)).toArray)[i]?:=by
   funext i;simp only[Vm,hk,Ce7,Ci8,List.getElem?_toArray];cases r:fa[i]? with
   |none=>simp
   |some f=>
    simp only[Cn3,Ce8,Function.comp]at hs
    have:=hs f (by have:=Cu1 r;simpa using this)
    grind
  have hm:=Ui (P:=P) (w:=w) fa.toList (λf r=>by
   simp only[Cn3,Ce8,Function.comp]at hs
   grind)
  have a0 : (fa.mapM λf=>(do pure (f.offset,<- sizeOf f.type):Sem (Nat×Nat))).run P w=.ok ((fa.toList.map λf=>(f.offset,(tsz P f.type).getD 0)).toArray) w:=by
   obtain⟨fl⟩:=fa;rw[List.mapM_toArray]
   simp_all
  rw[hp]at h1
  simp_all[execOp,Cg2,Instr.build,Bo7,Cf1,BY,Ci6]
 .rename_i n e hk;obtain⟨m,hm⟩:=Cf3.1 hs;have hp:Vm P t=λi=>some (i*m,m):=by funext i;grind[Vm]
  rw[hp]at h1;simp only[execOp,l,Cg2,Instr.build,Bo7 w u j,Cf1,BY w (Nf hk),Ly w hm,b,h1,Ci6]
 grind
end
section
variable {P:Program}{C:Ctx}{st:St}{a:Act}{w:World}{rho:Nat->Value}{o:Oper}{out:Out}{d:Nat}
def AZ3 {Uu R' : C6}{x:AV}{y:PV}(h:Fj Uu x=some (y,R')){i:Nat}(a:A2 Uu i=none):A2 R' i=none:=by
 unfold Fj at h;split at h
 .grind
 .grind[A4]
 all_goals grind[A4]
def Ii:∀(xs:List Operand) (st:St) (l:List PV) (R' : C6),Sat C st a w rho->Hq st.Uu (xs.map (aev st.env))=some (l,R') ->
 Sat C { st with Uu:=R' } a w rho/\Kp C st.Uu R' w w rho rho/\l.length=xs.length/\(∀i x,xs[i]? = some x->Uy w (Prv C.X (A2 R') rho) (a.eval x) (l.getD i default))/\∀i,A2 st.Uu i=none->A2 R' i=none
 |[],st,l,R',h,he=>by simp only[Cn5,Hq,Cd9,Cf2]at he;obtain⟨rfl,rfl⟩:=he;exact⟨h,Kp.refl _ _ _ _,rfl,λi x hx=>by simp at hx,λi b=>b⟩
 |x::xs,st,l,R',h,he=>by
  simp only[Cf8,Hq]at he
  repeat' split at he<;>try contradiction
  rename_i y R1 d _ l' R2 c;cases he;obtain⟨h1,j,m⟩:=FD h (h.aev x) d;obtain⟨n,f,q,r,o⟩:=Ii xs { st with Uu:=R1 } l' R' h1 c;refine⟨n,m.trans f,by grind,λi z g=>?_,λi b=>o i (AZ3 d b)⟩;cases i with
  |zero=>simp at g;subst g;simpa using f.p j
  |succ i=>grind
def Rw (F:Nat->List PV):List (Nat×List PV)->Nat->List PV
 |[],i=>F i
 |(j,x)::r,i=>ite (i=j) x (Rw F r i)
def Xk (z:List PV)(l:List (Nat×List PV))(i:Nat):Rw (λ_=>z) l i=G9 z l i:=by
 induction l with
 |nil=>rfl
 |cons p r ih=>grind[Rw,G9]
def ZT {F:Nat->List PV}{j:Nat}{x:List PV}:∀(l:List (Nat×List PV)),(∀p∈l,p.1≠j)->∀i,Rw (λi=>ite (i=j) x (F i)) l i=if i=j then x else Rw F l i
 |[],_,i=>rfl
 |(k,y)::r,h,i=>by
  have hk:=h (k,y) (by simp);simp only[Rw,ZT r (λp hp=>h p (by simp[hp])) i]
  grind
def Ap1 {x:PV}(h:Rj x=true):Eo (.p x)=true/\cellsOf (.p x)=(CW x).map .p:=by cases x<;>simp_all [Rj,Eo,AX5,cellsOf,CW]
def Mp {Pi:Nat->Nat->Prop}{m n:Nat}:∀(ps:List (Nat×Value)) (xs:List PV) (c:Array Value) (F:Nat->List PV),ps.length=xs.length->Ic n m (ps.map (·.1)) xs=true ->
 (∀i x,ps[i]? = some x->Uy w Pi x.2 (xs.getD i default))->c.size=n*m->(∀i,i<n->(F i).length=m)->(∀i j,i<n->j<m->Uy w Pi (c.getD (i*m+j) undef) ((F i).getD j default)/\(c.getD (i*m+j) undef).oneCell' = true) ->
 ∃c',Instr.fill (λi=>some (i*m,m)) c ps=some c' /\ c'.size=n*m/\(∀i,i<n->(Rw F ((ps.map (·.1)).zip (xs.map CW)) i).length=m) /\
  ∀i j,i<n->j<m->Uy w Pi (c'.getD (i*m+j) undef) ((Rw F ((ps.map (·.1)).zip (xs.map CW)) i).getD j default)/\(c'.getD (i*m+j) undef).oneCell' = true
 |[],xs,c,F,hl,d,hr,hs,hF,hc=>⟨c,rfl,hs,by simp_all[Rw],by simp_all[Rw]⟩
 |(i0,v)::ps,[],c,F,hl,d,hr,hs,hF,hc=>by grind
 |(i0,v)::ps,x::xs,c,F,hl,d,hr,hs,hF,hc=>by
  simp only[Cf8,Ic,Ce2,decide_eq_true_eq,beq_iff_eq,Cf6]at d;obtain⟨⟨t,u,hpl⟩,hnd,d⟩:=d;obtain⟨o,q⟩:=Ap1 u;have hv:Uy w Pi v x:=by simpa using hr 0 (i0,v) rfl
  obtain⟨r,s⟩:=KP (live:=λ_=>False) (rho:=λ_=>undef) (.p _ _ hv) o;rw[q]at r s;simp at r;have hle:i0*m+m<=n*m:=by rw[<- Cq9];exact Cf4 m t
  have g:=ZS (i0*m) v.cells c (by omega);obtain⟨c1,y⟩:∃c1,c1=v.cells.zipIdx.foldl (λcs (p:Value×Nat)=>cs.setIfInBounds (i0*m+p.2) p.1) c:=⟨_,rfl⟩;rw[<- y]at g;have a0:c1.size=n*m:=by rw[<- Cn6,g,J0 _ _ _ (by grind)];omega
  obtain⟨c',h1,h2,h3,h4⟩:=Mp ps xs c1 (λi=>ite (i=i0) (CW x) (F i)) (by grind) d (λi z hz=>by simpa using hr (i+1) z (by grind)) a0
   (by grind) (λi j hi hj=>by
    rw[E5,g,Z7 _ _ _ _ _ (by grind)];by_cases f:i0*m<=i*m+j/\i*m+j<i0*m+v.cells.toList.length
    .rw[Jk f];simp at f;obtain⟨rfl,hjj⟩:=AY8 (l:=i) (i:=i0) (k:=m) (a:=j) (b:=i*m+j-i0*m) (by omega) hj (by omega);simp only[Lo]
     have:=s j (by grind)
     rw[show i*m+j-i*m=j by omega,<- E5];refine⟨?_,this.2⟩;have h5:=this.1;simp only[Ce0,Ce7,Ce3 (show j<(CW x).length by omega),Cf0,Ce6]at h5⊢;exact h5.toP
    rw[Js f];have hne:i≠i0:=by grind
    simp_all)
  have hnot:∀p∈(ps.map (·.1)).zip (xs.map CW),p.1≠i0:=by
   intro p hp e
   have:=(List.of_mem_zip hp).1
   rw[e]at this
   grind
  simp_all[Instr.fill,Js,ZT,Rw]
def Lz (h:Sat C st a w rho){t:TypeId}{n:Nat}{parts:Array (Nat×Operand)}(hf:MW st.Uu n (parts.toList.map λq=>(q.1,aev st.env q.2))=none)(ho:o.op=.buildSlice t n parts)(s:aop P st.env st.Uu d o.op=some out)(hc:D2 out.cond):OpOk P C o st a w rho out:=by
 rw[ho]at s;simp only[aop,hf]at s;split at s
 .rename_i e hk a1;split at s
  .rename_i l R' m z hv a7 hz;split at s
   .rename_i a8;cases s;have a9:Ic n m (parts.toList.map (·.1)) l=true:=hc;obtain⟨⟨hmax,b0⟩,r,a2⟩:=a8;have b1 : Hq st.Uu ((parts.toList.map (·.2)).map (aev st.env))=some (l,R'):=by simpa[Cm4,Cj9]using hv
    obtain⟨h1,h2,h3,h4,h5⟩:=Ii (parts.toList.map (·.2)) st l R' h b1;obtain⟨i,v,hi,b2,rfl⟩:=CX hz;have b3:v.cells.size=m:=by simpa using r
    obtain⟨arr,c⟩:∃arr:Array Value,arr=(Array.range (n*m)).map ((ite (n*m=0) (#[]) v.cells)[· % (ite (n*m=0) (#[]) v.cells).size]!):=⟨_,rfl⟩;have a3:∀i' j,i' < n->j<m->arr.getD (i' * m+j) undef=v.cells.getD j undef:=by
     intro i' j f y;have b4:=M1 f y;have g:¬(n*m=0):=by omega
     rw[c];simp only[g,Lp]
     have:(i' * m+j) % v.cells.size=j:=by rw[b3,Cn4,Cp9,Ck4 y]
     simp[Ce1,b4,this,show j<v.cells.size by omega]
    have b5:=Xj (w:=w) (Pi:=Prv C.X (A2 R') rho) (live:=λ_=>False) (rho:=rho) (t:=t) (i:=i) a2;obtain⟨c',a4,b6,a5,a0⟩:=Mp (w:=w) (Pi:=Prv C.X (A2 R') rho) (m:=m) (n:=n) (parts.toList.map λq=>(q.1,a.eval q.2)) l arr (λ_=>v.cells.toList.map Uf) (by simpa using h3.symm)
     (by simpa[Cm4,Cj9]using a9) (λi x hx=>by
      rw[Ce7,Cg0]at hx;obtain⟨q,hq,rfl⟩:=hx;exact h4 i q.2 (by rw[Ce7,hq];rfl)) (by rw[c];simp) (λi hi=>r) (λi' j f y=>by
      rw[a3 i' j f y]
      have:=b5 j (by simp;omega)
      refine⟨?_,this.2⟩;have h6:=this.1;simp only[Ce0,Ce7,Ci8,Ch4 (show j<v.cells.size by omega),Cf0,Ce6]at h6⊢;exact h6.toP)
    have b7:(parts.toList.map λq=>(q.1,a.eval q.2)).map (·.1)=parts.toList.map (·.1):=by simp[Cm4,Cj9]
    rw[b7]at a5 a0;have a6:(Instr.buildSlice t n (parts.map λq=>(q.1,a.eval q.2))).run P w=.ok (.slice (some ⟨w.heap.size,0,none⟩) n n) (w.alloc (.cells c' e)):=by
     have u:(parts.map λq=>(q.1,a.eval q.2)).toList=parts.toList.map λq=>(q.1,a.eval q.2):=by simp
     have hb:¬(n*m>2 ^ 24):=by omega
     simp only[Instr.buildSlice,Cg2,BY w (P7 hk),Cf1,Ly w a7,Js hb,u];by_cases g:n*m=0
     .simp only[Jk g]at c;rw[Jk g];simp only[Cg2,Ci6,Cf1];rw[<- c,a4];simp[newRow]
     simp only[Js g]at c;rw[Js g];simp only[Cg2,Ci6,Cf1,Bo7 w hi b2];rw[<- c,a4];simp[newRow]
    obtain⟨g1,g2,g3⟩:=h1.fresh (Dp d 0) (h5 _ a1) (.vec e m n (G9 (v.cells.toList.map Uf) ((parts.toList.map (·.1)).zip (l.map CW))) false) (.slice (some ⟨w.heap.size,0,none⟩) n n) (w':=w.alloc (.cells c' e)) (by simp)
     (λb hb=>heap_alloc_old w _ b hb) (λb hb=>by simp[G0,R8]at hb;omega) (λb8=>by
      refine .inr ⟨w.heap.size,n,c',rfl,heap_alloc_new w _,Ce5 _,b6,?_,λi' f=>?_,λi' j f y=>?_⟩
      .simp only[maxLen];omega
      .rw[<- Xk];exact a5 i' f
      rw[<- Xk];exact⟨(a0 i' j f y).1.keeps b8,(a0 i' j f y).2⟩)
    exact⟨_,_,_,_,by simp[execOp,ho,a6],.inl rfl,g1,h2.trans ⟨g2,g3⟩,.vec _ (some ⟨w.heap.size,0,none⟩) n n (by simp[Lv,A4]) (by simp)⟩
   cases s
  cases s
 cases s
def Rx {Uu:C6}:∀{l:List AV}{xs:List PV},AX8 l=some xs->Hq Uu l=some (xs,Uu)
 |[],_,h=>by cases h;rfl
 |a::r,xs,h=>by
  cases a with
  |p x=>
   simp only[AX8]at h;split at h
   .rename_i l hl;cases h;simp only[Hq,Fj,Rx hl]
   grind
  |_=>simp[AX8]at h
theorem Uj (h:Sat C st a w rho){t:TypeId}{n:Nat}{parts:Array (Nat×Operand)}(ho:o.op=.buildSlice t n parts){cc:List Prop}{x:PV}(r:Zr P st.env o.op=some (cc,x))(hc:D2 cc):OpOk P C o st a w rho ⟨cc,.p x,st.Uu⟩:=by
 rw[ho]at r;simp only[Zr]at r;split at r
 .rename_i e hk;split at r
  .rename_i l m z a1 a2 hz;have hv:=Rx (Uu:=st.Uu) a1;split at r
   .rename_i a3;cases r;have hok:Ic n m (parts.toList.map (·.1)) l=true:=hc;obtain⟨⟨b2,a4⟩,g,u⟩:=a3;have a5 : Hq st.Uu ((parts.toList.map (·.2)).map (aev st.env))=some (l,st.Uu):=by grind[List.map_map,Function.comp_def]
    obtain⟨h1,h2,h3,h4,h5⟩:=Ii (parts.toList.map (·.2)) st l st.Uu h a5;obtain⟨i,v,hi,hiz,rfl⟩:=CX hz;have hvz:v.cells.size=m:=by grind
    obtain⟨arr,f⟩:∃arr:Array Value,arr=(Array.range (n*m)).map ((ite (n*m=0) (#[]) v.cells)[· % (ite (n*m=0) (#[]) v.cells).size]!):=⟨_,rfl⟩;have y:∀i' j,i' < n->j<m->arr.getD (i' * m+j) undef=v.cells.getD j undef:=by
     intro i' j c s;have hlt:=M1 c s;have a6:¬(n*m=0):=by omega
     rw[f]
     simp_all[Lp,Cn4,Cp9,Ck4,Ce1]
    have a7:=Xj (w:=w) (Pi:=Prv C.X (A2 st.Uu) rho) (live:=λ_=>False) (rho:=rho) (t:=t) (i:=i) u;obtain⟨c',hf1,hf2,a8,a0⟩:=Mp (w:=w) (Pi:=Prv C.X (A2 st.Uu) rho) (m:=m) (n:=n) (parts.toList.map λq=>(q.1,a.eval q.2)) l arr (λ_=>v.cells.toList.map Uf) (by grind)
     (by grind[List.map_map,Function.comp_def]) (by grind) (by rw[f];simp) (λi hi=>g) (λi' j c s=>by
      rw[y i' j c s]
      have:=a7 j (by grind)
      refine⟨?_,this.2⟩;have h6:=this.1;simp only[Ce0,Ce7,Ci8,Ch4 (show j<v.cells.size by omega),Cf0,Ce6]at h6⊢;exact h6.toP)
    have a9:(parts.toList.map λq=>(q.1,a.eval q.2)).map (·.1)=parts.toList.map (·.1):=by simp_all
    rw[a9]at a8 a0;have hrun:(Instr.buildSlice t n (parts.map λq=>(q.1,a.eval q.2))).run P w=.ok (.slice (some ⟨w.heap.size,0,none⟩) n n) (w.alloc (.cells c' e)):=by
     have d:(parts.map λq=>(q.1,a.eval q.2)).toList=parts.toList.map λq=>(q.1,a.eval q.2):=by simp
     have hb:¬(n*m>2 ^ 24):=by omega
     simp only[Instr.buildSlice,Cg2,BY w (P7 hk),Cf1,Ly w a2,Js hb,d];by_cases a6:n*m=0
     .simp_all[Jk,Cg2,Ci6,Cf1,newRow]
     simp_all[Js,Cg2,Ci6,Cf1,Bo7,newRow]
    obtain⟨g1,g2⟩:=h.grow (w':=w.alloc (.cells c' e)) (by simp) (λb hb=>heap_alloc_old w _ b hb);have hnew:∀off,¬Prv C.X (A2 st.Uu) rho w.heap.size off:=by
     rintro off (hX|⟨j',o',b0,b1,_⟩)
     .have:=h.hp.bound _ _ hX;omega
     have:=h.hp.lt ⟨j',o',b0,b1⟩;omega
    refine⟨_,_,w.alloc (.cells c' e),rho,by simp_all[execOp],.inl rfl,g1,g2,.p _ _ (.sl true w.heap.size 0 n m n _ (λi' j=>c'.getD (i' * m+j) undef) (Ce5 _) (λi' c=>by rw[<- Xk];grind) (λi' j c s=>?_) (λi' j c s=>?_) none λ_=>rfl)⟩
    .simp_all[M1,cell_of_heap,heap_alloc_new,Ch0]
    rw[<- Xk];exact (a0 i' j c s).1.keeps λb o v hp hc=>⟨by rw[<- hc];exact Cg5 (heap_alloc_old w _ b (Cj2 w ⟨b,o,none⟩ hc)),hp⟩
   grind
  grind
 grind
theorem Xl (h:Sat C st a w rho){t:TypeId}{l c:Operand}(ho:o.op=.makeSlice t l c){cc:List Prop}{x:PV}(he:Zr P st.env o.op=some (cc,x))(hc:D2 cc):OpOk P C o st a w rho ⟨cc,.p x,st.Uu⟩:=by
 rw[ho]at he;simp only[Zr]at he
 repeat' split at he<;>try contradiction
 rename_i e n m hk hn hm _ _ k z y hz hzl;cases he;obtain⟨h1,h2,h3,h4⟩:0<=n/\n<=m/\m*Fi P e<=140737488355328/\m<=140737488355328:=hc;obtain⟨kn,a0⟩:=CY (h.aev l) hn;obtain⟨km,a1⟩:=CY (h.aev c) hm;obtain⟨i,v,hi,hiz,rfl⟩:=CX hz;have hk' : i.size=k:=by grind[QX]
 have hvz:v.cells.size=k:=by grind
 have hby:Fi P e=i.bytes:=by grind[Fi,Program.bytesOf]
 rw[hby]at h3;have w64:∀x:Int,0<=x->x<=140737488355328->IntKind.i64.wrap x=x:=by
  intro x hx hx';have e1:x % (2 ^ 64:Int)=x:=(by omega);unfold IntKind.wrap;simp only[IntKind.bits,IntKind.signed,e1];rw[Js]
  grind
 have hrange:(i.bytes:Int)*m<=140737488355328:=by have e:m*(i.bytes:Int)=(i.bytes:Int)*m:=Int.mul_comm _ _;omega
 obtain⟨arr,d⟩:∃arr:Array Value,arr=(Array.range (m.toNat*k)).map ((ite (m.toNat*k=0) (#[]) v.cells)[· % (ite (m.toNat*k=0) (#[]) v.cells).size]!):=⟨_,rfl⟩;have hrun:(Instr.makeSlice t (a.eval l) (a.eval c)).run P w=.ok (.slice (some ⟨w.heap.size,0,none⟩) n.toNat m.toNat) (w.alloc (.cells arr e)):=by
  have b1:¬(m<0):=by omega
  have b2:¬(281474976710656<(i.bytes:Int)*m):=by omega
  have b3:¬(n<0):=by omega
  have b4:¬(m<n):=by omega
  rw[d];by_cases r:m.toNat*k=0
  .simp[Instr.makeSlice,BY w (P7 hk),a0,a1,_root_.Go.asInt,asIntOf,BH8 w hi,w64 n h1 (by omega),w64 m (by omega) h4,b1,b2,b3,b4,Ly w y,r,newRow]
  simp[Instr.makeSlice,BY w (P7 hk),a0,a1,_root_.Go.asInt,asIntOf,BH8 w hi,w64 n h1 (by omega),w64 m (by omega) h4,b1,b2,b3,b4,Ly w y,r,newRow,Bo7 w hi hiz]
 have g:∀i' j,i' < n.toNat->j<k->arr.getD (i' * k+j) undef=v.cells.getD j undef:=by
  intro i' j f u;have hlt:=M1 (show i' < m.toNat by omega) u;have r:¬(m.toNat*k=0):=by omega
  rw[d]
  simp_all[Lp,Cn4,Cp9,Ck4,Ce1]
 obtain⟨g1,g2⟩:=h.grow (w':=w.alloc (.cells arr e)) (by simp) (λb hb=>heap_alloc_old w _ b hb);have a2:∀off,¬Prv C.X (A2 st.Uu) rho w.heap.size off:=by
  rintro off (hX|⟨j',o',s,hbo,_⟩)
  .have:=h.hp.bound _ _ hX;omega
  have:=h.hp.lt ⟨j',o',s,hbo⟩;omega
 refine⟨_,_,w.alloc (.cells arr e),rho,by simp_all[execOp],.inl rfl,g1,g2,.p _ _ (.sl true w.heap.size 0 m.toNat k n.toNat _ (λi' j=>arr.getD (i' * k+j) undef) (by omega) (by omega) (λi' j f u=>?_) (λi' j f u=>?_) none λ_=>rfl)⟩
 .refine⟨?_,a2 _,?_⟩
  .have hlt:=M1 (show i' < m.toNat by omega) u
   have:=cell_of_heap (heap_alloc_new w (.cells arr e)) (o:=i' * k+j) (by rw[d];grind)
   rw[Ch0];omega
  rw[g i' j f u];have s : j<v.cells.size:=by omega
  rw[show (v.cells.getD j undef)=v.cells[j] by simp_all];have q:=hzl.2;simp only[Cn3,Ce8,Function.comp]at q;exact (O6 w (λ_ _=>False) _).cell (q _ (by simp))
 rw[g i' j f u];have s : j<v.cells.size:=by omega
 rw[show (v.cells.getD j undef)=v.cells[j] by simp_all]
 grind[Array.getElem?_eq_getElem,O6]
def AL3 (h:Sat C st a w rho){cc:List Prop}{x:PV}(b:Zr P st.env o.op=some (cc,x))(hc:D2 cc):OpOk P C o st a w rho ⟨cc,.p x,st.Uu⟩:=by
 cases d:o.op with
 |buildSlice t n parts=>grind[Uj]
 |makeSlice t l c=>grind[Xl]
 |_=>rw[d]at b;simp[Zr]at b
end
section
variable {P:Program}{C:Ctx}{st:St}{a:Act}{w:World}{rho:Nat->Value}{o:Oper}{out:Out}{d:Nat}
def Xm {b:Bool}:∀(n:Nat) (t:TypeId) (ks:List TK),lay P n t=some ks->∀(vs:Array Value) (off D:Nat),n<=D->off+ks.length<=vs.size ->
 ∃x,(part t vs off).run P w=.ok x w/\(Instr.checkKey b D t x).run P w=.ok () w:=by
 intro n
 induction n with
 |zero=>grind[lay]
 |succ n ih=>
  intro t ks hl vs off D z ha;obtain⟨D,rfl⟩:∃D',D=D' + 1:=⟨D-1,by omega⟩;cases hk:tk P t with
  |none=>
   have:P.underlying t=none:=by
    simp_all[tk]
   grind[lay]
  |some k=>
   by_cases hs:∀fs,k ≠ .struct fs
   .obtain⟨rfl,i⟩:=ZQ hk hl hs;simp at ha;refine⟨vs.getD off undef,?_,?_⟩
    .simp[part,H8 w hk,i,Ce1,show off<vs.size by omega]
    obtain⟨dd,s,rfl⟩:=Dn hk;simp only[lay,s]at hl;cases dd<;>simp at hl<;>first
     |(simp[Instr.checkKey,BY w s];done)
     |exact Ke rfl (hs _)
   obtain⟨fs,rfl⟩:∃fs,k=.struct fs:=(by grind);obtain⟨fa,a,_⟩:=Hs hk;simp only[lay,a]at hl
   repeat' split at hl<;>try contradiction
   rename_i l j v;cases hl;refine⟨.agg (vs.extract off (off+ks.length)),by simp_all[part,H8,Zy,Ly],?_⟩;generalize c : vs.extract off (off+ks.length)=vs';have d : vs'.size=0+ks.length:=by rw[<- c];grind
   simp only[Instr.checkKey,Cg2,BY w a,Cf1];rw[<- Array.forIn_toList];have m:∀(fl:List Field) (o:Nat) (l:List TK),BG5 (lay P n) fl o=some l->vs'.size=o+l.length ->
    (forIn fl PUnit.unit (λf _=>(do
     if f.name ≠ "_" then do
      Instr.checkKey b D f.type (<- part f.type vs' f.offset)
      pure (ForInStep.yield PUnit.unit)
     else pure (ForInStep.yield PUnit.unit):Sem (ForInStep PUnit)))).run P w=.ok PUnit.unit w:=by
    intro fl
    induction fl with
    |nil=>simp
    |cons f fl ihf=>
     intro o l h1 y;simp only[BG5]at h1;split at h1
     .grind
     rename_i g;have g:f.offset=o:=(by omega);split at h1
     .rename_i ka q;split at h1
      .rename_i kb r;cases h1;simp at y;obtain⟨x,hx,hc⟩:=ih f.type ka q vs' o D (by omega) (by omega);have u:=ihf (o+ka.length) kb r (by omega);rw[List.forIn_cons]
       simp_all
      grind
     grind
   have:=m fa.toList 0 ks j d
   simp_all
def LA {b:Bool}{e:TypeId}{k:TK}(hk:tk P e=some k)(hb:BT3 k=true)(hm:tsz P e=some 1){vs:Array Value}(D:Nat) :∀(m j:Nat),j+m<=vs.size->(forIn (List.range' j m) PUnit.unit (λi _=>(do
  Instr.checkKey b (D+1) e (<- part e vs (i*(<- sizeOf e)))
  pure (ForInStep.yield PUnit.unit):Sem (ForInStep PUnit)))).run P w=.ok PUnit.unit w
 |0,j,h=>by simp
 |m+1,j,h=>by
  have a:Zy k=false:=by cases k<;>first|rfl|cases hb
  have hx:(part e vs (j*1)).run P w=.ok (vs.getD j undef) w:=by simp[part,H8 w hk,a,show j<vs.size by omega]
  have hc:(Instr.checkKey b (D+1) e (vs.getD j undef)).run P w=.ok () w:=by obtain⟨dd,d,rfl⟩:=Dn hk;generalize D=D;cases dd<;>simp[Zx,BT3]at hb<;>simp[Instr.checkKey,BY w d]
  have c:=LA (vs:=vs) (b:=b) hk hb hm D m (j+1) (by omega);rw[Co4,List.forIn_cons]
  simp_all[Ly]
def Mq {Pi:Nat->Nat->Prop}{b:Bool}{t:TypeId}{v:Value}{x:PV}(hk:Jp P t x=true)(f:Uy w Pi v x):(Instr.checkKey b 10000 t v).run P w=.ok () w:=by
 unfold Jp at hk;split at hk
 .rename_i fs ht;split at hk
  .rename_i ks cs hl;simp at hk;cases f with
   |agg vs _ hs _ _=>
    obtain⟨y,hy,hc⟩:=Xm (P:=P) (w:=w) (b:=b) 10 t ks hl vs 0 10000 (by omega) (by omega);have a:=hl;obtain⟨fa,c,_⟩:=Hs ht;simp only[lay,c]at a
    repeat' split at a<;>try contradiction
    rename_i d;cases a
    have:vs.extract 0 ks.length=vs:=by rw[<- hk,<- hs];simp
    have e1:(part t vs 0).run P w=.ok (.agg vs) w:=by simp[part,H8 w ht,Zy,Ly w d,this]
    rw[e1]at hy;grind
  grind
 .rename_i n e ht;split at hk
  .rename_i ek cs g;simp at hk;obtain⟨⟨h1,i⟩,j⟩:=hk;cases f with
   |agg vs _ hs _ _=>
    have key:∀D,(Instr.checkKey b (D+1+1) t (.agg vs)).run P w=.ok () w:=by
     intro D
     have:=LA (P:=P) (w:=w) (b:=b) g i j (vs:=vs) D n 0 (by omega)
     rw[Instr.checkKey];simp only[Cg2,BY w (Nf ht),Cf1,Std.Legacy.Range.forIn_eq_forIn_range',Std.Legacy.Range.size,Nat.sub_zero,Nat.add_one_sub_one,Cw1];rw[this];rfl
    grind
  grind
 .rename_i k l m ht;obtain⟨dd,o,rfl⟩:=Dn ht;show (Instr.checkKey b (9999+1) t v).run P w=.ok () w;generalize 9999=D;cases dd<;>simp[Zx,BT3]at hk<;>simp[Instr.checkKey,BY w o]
 grind
def EntL (w:World)(Pi:Nat->Nat->Prop)(Ya:List MapEntry)(es:List (PV×PV)):Prop:= Ya.length=es.length/\∀i,i<es.length->Uy w Pi (Ya.getD i default).key (es.getD i default).1/\Uy w Pi (Ya.getD i default).val (es.getD i default).2
def EntL.cons {Pi:Nat->Nat->Prop}{e:MapEntry}{Ya:List MapEntry}{p:PV×PV}{es:List (PV×PV)}(h:EntL w Pi (e::Ya) (p::es)):Uy w Pi e.key p.1/\Uy w Pi e.val p.2/\EntL w Pi Ya es:=
 ⟨by simpa using (h.2 0 (by simp)).1,by simpa using (h.2 0 (by simp)).2,by simpa using h.1,λi a=>by simpa using h.2 (i+1) (by grind)⟩
def Vw {cmp:PV->PV->Option Bool}{k:PV}:∀{es:List (PV×PV)}{r:Option PV},find cmp k es=some r->∃q,GL cmp k es=some q/\r=q.map λj=>(es.getD j default).2
 |[],r,h=>by simp only[find,Cd9]at h;subst h;exact⟨none,rfl,rfl⟩
 |(a,x)::es,r,h=>by
  simp only[find]at h;split at h
  .simp_all[GL]
  .rename_i hc;obtain⟨q,h1,b⟩:=Vw h;refine⟨q.map (· + 1),by grind[GL],?_⟩;rw[b];cases q<;>simp
  grind
def ZU {cmp:PV->PV->Option Bool}{k x:PV}:∀{es es' : List (PV×PV)},upd cmp k x es=some es' -> ∃q,GL cmp k es=some q/\(q=none->es' = es++[(k,x)])/\∀j,q=some j->es' = es.set j (k,x)
 |[],es',h=>by simp only[upd,Cd9]at h;subst h;exact⟨none,rfl,λ_=>rfl,λj h=>by cases h⟩
 |(a,y)::es,es',h=>by
  simp only[upd]at h;split at h
  .simp_all[GL]
  .rename_i hc;rw[Cg0]at h;obtain⟨e1,b,rfl⟩:=h;obtain⟨q,h1,c,d⟩:=ZU b;refine⟨q.map (· + 1),by grind[GL],λf=>?_,λj g=>?_⟩
   .simp_all
   cases q<;>grind
  grind
def KR {cmp:PV->PV->Option Bool}{k:PV}:∀{es:List (PV×PV)}{j:Nat},GL cmp k es=some (some j)->j<es.length/\cmp k (es.getD j default).1=some true
 |[],j,h=>by grind[GL]
 |(a,y)::es,j,h=>by
  simp only[GL]at h;split at h
  .grind
  .rename_i hc;rw[Cg0]at h;obtain⟨q,h1,b⟩:=h;cases q with
   |none=>grind
   |some j'=>
    simp at b;subst b;obtain⟨c,d⟩:=KR h1
    grind
  grind
def IY {Pi:Nat->Nat->Prop}{kt:TypeId}{k:Value}{x:PV}(hk:Uy w Pi k x)(hc:D2 (KN P kt)):∀(es:List (PV×PV)) (Ya:List MapEntry) (i:Nat) (r:Option Nat),EntL w Pi Ya es->GL (Li P kt) x es=some r ->
 (Instr.findAsking kt k Ya i).run P w=.ok (r.map λj=>(i+j,(Ya.getD j default).val)) w
 |[],Ya,i,r,he,hf=>by obtain rfl:Ya=[]:=Co3 (by simpa using he.1);simp only[GL,Cd9]at hf;subst hf;simp[Instr.findAsking]
 |(a,b)::es,[],i,r,he,hf=>by grind[EntL]
 |(a,b)::es,e::Ya,i,r,he,hf=>by
  obtain⟨h1,l,d⟩:=he.cons;simp only[GL]at hf;split at hf
  .rename_i c;cases hf
   have:=(OD hk h1 c hc).1
   simp_all[Instr.findAsking]
  .rename_i c
   have:=(OD hk h1 c hc).1
   rw[Cg0]at hf;obtain⟨q,f,rfl⟩:=hf;have g:=IY hk hc es Ya (i+1) q d f;simp only[Instr.findAsking,Cg2,this,Cf1,Ce4,Lp,g];cases q<;>grind
  grind
theorem RA {Pi:Nat->Nat->Prop}{kt:TypeId}{dd:TypeDesc}(d:P.underlying kt=some dd){k e:Value}{x a:PV}(hk:Uy w Pi k x)(b:Uy w Pi e a){r q:Bool}(hc:Li P kt x a=some r)(hs:Instr.sameNow dd k e=some q):q=r:=by
 have c:tk P kt=some (Zx dd):=by grind[tk]
 unfold Li at hc;rw[c]at hc;unfold Instr.sameNow at hs;split at hs
 .simp only[Zx]at hc;cases hk;cases b
  simp_all[An9]
 .simp only[Zx]at hc;cases hk with
  |v=>grind[An9]
  |str l=>
   cases b with
   |v=>grind[An9]
   |str m=>
    simp_all[An9,Cd9,beq_toListBytes]
 .simp only[Zx]at hc;cases hk<;>cases b<;>simp only[An9,Zz,Cd9]at hc hs<;>exact hs.symm.trans hc
 grind
def Nj {Pi:Nat->Nat->Prop}{kt:TypeId}{dd:TypeDesc}(d:P.underlying kt=some dd){k:Value}{x:PV}(hk:Uy w Pi k x):∀(es:List (PV×PV)) (Ya:List MapEntry) (i:Nat) (r:Option Nat) (q:Option (Nat×Value)),EntL w Pi Ya es->GL (Li P kt) x es=some r ->
 Instr.findNow dd k Ya i=some q->q=r.map λj=>(i+j,(Ya.getD j default).val)
 |[],Ya,i,r,q,he,hf,hn=>by
  obtain rfl:Ya=[]:=Co3 (by simpa using he.1)
  grind[GL,Option.some.injEq,Instr.findNow]
 |(a,b)::es,[],i,r,q,he,hf,hn=>by grind[EntL]
 |(a,b)::es,e::Ya,i,r,q,he,hf,hn=>by
  obtain⟨h1,g,f⟩:=he.cons;simp only[GL]at hf;simp only[Instr.findNow]at hn;split at hn
  .grind[RA]
  .rename_i hs;split at hf
   .grind[RA]
   .rw[Cg0]at hf;obtain⟨r',c,rfl⟩:=hf
    have:=Nj d hk es Ya (i+1) r' q f c hn
    rw[this];cases r'<;>grind
   grind
  grind
def Ij {Pi:Nat->Nat->Prop}{kt:TypeId}{k:Value}{x:PV}(hk:Uy w Pi k x)(a:Jp P kt x=true)(hc:D2 (KN P kt)){es:List (PV×PV)}{Ya:List MapEntry}{r:Option Nat}(c:EntL w Pi Ya es)(d:GL (Li P kt) x es=some r) :(Instr.findKey kt k Ya).run P w=.ok (r.map λj=>(j,(Ya.getD j default).val)) w:=by
 have b:∃dd,P.underlying kt=some dd:=by
  unfold Jp at a
  grind[Dn]
 obtain⟨dd,b⟩:=b;cases hn:Instr.findNow dd k Ya 0 with
 |some q=>
  have:=Nj b hk es Ya 0 r q c d hn
  rw[this]at hn
  simp_all[Instr.findKey,BY]
 |none=>
  have:=IY hk hc es Ya 0 r c d
  simp_all[Instr.findKey,BY]
def ZV {Pi:Nat->Nat->Prop}{v:Value}{x:PV}{b:Bool}(h:Uy w Pi v x)(hb:Zz x=some b):v=.bool b:=by
 unfold Zz at hb;split at hb
 .cases hb;cases h;rfl
 .cases hb;cases h;rfl
 grind
theorem Ap2 {Pi:Nat->Nat->Prop}{k:TK}{v u:Value}{x y:PV}(d:Uy w Pi v x)(f:Uy w Pi u y)(c:An9 k x y=some true):v=u/\∀n,Instr.sameBits n v u=true:=by
 unfold An9 at c;split at c
 .split at c
  .rename_i g;subst g;cases d;cases f;simp only[Cd9,beq_iff_eq]at c;subst c;exact⟨rfl,λn=>by cases n<;>simp[Instr.sameBits]⟩
  grind
 .split at c
  .rename_i a b h1 i;simp at c;subst c;have e1:=ZV d h1;have e2:=ZV f i;subst e1;subst e2;exact⟨rfl,λn=>by cases n<;>simp[Instr.sameBits]⟩
  grind
 .cases d with
  |str l=>
   cases f with
   |str m=>simp only[Cd9,beq_iff_eq]at c;subst c;exact⟨rfl,λn=>by cases n<;>(simp only[Instr.sameBits];rw[beq_toListBytes];simp)⟩
 grind
def AC7 {Pi:Nat->Nat->Prop}:∀{ks:List TK}{xs ys:List PV}(f g:Nat->Value),(∀i,i<xs.length->Uy w Pi (f i) (xs.getD i default))->(∀i,i<ys.length->Uy w Pi (g i) (ys.getD i default))->BH ks xs ys=some true ->
 xs.length=ys.length/\∀i,i<xs.length->f i=g i/\∀n,Instr.sameBits n (f i) (g i)=true
 |ks,[],ys,f,g,hf,hg,he=>by cases ks<;>cases ys<;>simp[BH]at he⊢
 |[],x::xs,ys,f,g,hf,hg,he=>by grind[BH]
 |k::ks,x::xs,[],f,g,hf,hg,he=>by grind[BH]
 |k::ks,x::xs,y::ys,f,g,hf,hg,he=>by
  have hx:Uy w Pi (f 0) x:=by grind
  have hy:Uy w Pi (g 0) y:=by grind
  simp only[BH]at he;split at he
  .grind[Ap2]
  split at he
  .rename_i p q hp a;simp at he;obtain⟨rfl,rfl⟩:=he;obtain⟨h1,c⟩:=Ap2 hx hy hp;obtain⟨d,j⟩:=AC7 (λi=>f (i+1)) (λi=>g (i+1)) (λi b=>by simpa using hf (i+1) (by simpa using b)) (by grind) a
   grind
  grind
def BC2 {Pi:Nat->Nat->Prop}{vs us:Array Value}{xs ys:List PV}{ks:List TK}(hs:vs.size=xs.length)(f:∀i,i<xs.length->Uy w Pi (vs.getD i undef) (xs.getD i default))(g : us.size=ys.length)(b : ∀i,i<ys.length->Uy w Pi (us.getD i undef) (ys.getD i default))(j:BH ks xs ys=some true) :Value.agg vs=.agg us/\Instr.sameBits 10000 (.agg vs) (.agg us)=true:=by
 obtain⟨h1,c⟩:=AC7 (λi=>vs.getD i undef) (λi=>us.getD i undef) f b j;have e:vs=us:=by
  refine Array.ext (by omega) λi d a=>?_
  have:=(c i (by omega)).1
  simpa[Ce1,d,a]using this
 subst e;refine⟨rfl,?_⟩
 have:∀n,Instr.sameBits (n+1) (.agg vs) (.agg vs)=true:=by
  intro n;simp only[Instr.sameBits,BEq.rfl,Cp3,Ce8];intro p hp;obtain⟨i,d,rfl⟩:=Cm8.1 hp;have a : i<vs.size:=by grind
  have:=(c i (by omega)).2 n
  simp_all
 grind
def AZ4 {Pi:Nat->Nat->Prop}{t:TypeId}{v u:Value}{x y:PV}(b:Uy w Pi v x)(c:Uy w Pi u y)(a:Li P t x y=some true):v=u/\Instr.sameBits 10000 v u=true:=by
 unfold Li at a;split at a
 .split at a
  .rename_i ks xs ys hl;cases b with
   |agg vs _ hs _ hr=>
    cases c with
    |agg us _ hs' _ hr'=>exact BC2 hs hr hs' hr' a
  grind
 .unfold ZB at a
  repeat' split at a<;>try contradiction
  cases b with
  |agg vs _ hs _ hr=>
   cases c with
   |agg us _ hs' _ hr'=>exact BC2 hs hr hs' hr' a
 all_goals grind[Ap2]
end
section
variable {P:Program}{C:Ctx}{st:St}{a:Act}{w:World}{rho:Nat->Value}{o:Oper}{out:Out}{d:Nat}
def Py {Pi:Nat->Nat->Prop}{e:TypeId}{z:PV}(b:Lt P e=some z):∃v,(zeroValue e).run P w=.ok v w/\Uy w Pi v z:=by
 unfold Lt at b;split at b
 .rename_i v g;rw[Cn9]at g;obtain⟨i,c,d⟩:=g;refine⟨v,Bo7 w c d,?_⟩;split at b
  .rename_i cs;split at b
   .rename_i a;cases b;simp only[Cn3,Ce8,Function.comp]at a;refine .agg cs _ (by simp) (λi c=>?_) λi c=>?_
    .have f : i<cs.size:=by grind
     have:cs.getD i undef=cs[i]:=by simp_all
     rw[this];exact (O6 w Pi _).cell (a _ (by simp))
    have f : i<cs.size:=by grind
    have:cs.getD i undef=cs[i]:=by simp_all
    rw[this];have e:(cs.toList.map Uf).getD i default=Uf cs[i]:=by grind
    rw[e]
    grind[O6]
   grind
  grind[O6]
 grind
def ZW {Ya:Array MapEntry}{clock:Nat}{e:MapEntry}(hc:clock=Ya.size)(hb:∀i,i<Ya.size->(Ya.getD i default).born=i)(b:e.born=clock) :clock+1=(Ya.push e).size/\∀i,i<(Ya.push e).size->((Ya.push e).getD i default).born=i:=by
 refine⟨by grind,λi a=>?_⟩;simp at a;by_cases h:i<Ya.size
 .have:=hb i h
  simpa[Ce1,Co0,show i≠Ya.size by omega]using this
 obtain rfl:i=Ya.size:=by omega
 simp_all
def Mr {Ya:Array MapEntry}{clock j:Nat}{f:MapEntry->MapEntry}(hc:clock=Ya.size)(hb:∀i,i<Ya.size->(Ya.getD i default).born=i)(b:∀e,(f e).born=e.born) :clock=(Ya.modify j f).size/\∀i,i<(Ya.modify j f).size->((Ya.modify j f).getD i default).born=i:=by
 refine⟨by grind,λi a=>?_⟩;simp at a
 have:=hb i a
 by_cases h:j=i
 all_goals simp_all[Ce1,Cp6,Cj8]
def AZ5 (h:Sat C st a w rho){t:TypeId}{m k:Operand}{ok:Bool}(ho:o.op=.lookup t m k ok)(he:aop P st.env st.Uu d o.op=some out)(hc:D2 out.cond):OpOk P C o st a w rho out:=by
 rw[ho]at he;simp only[aop]at he
 repeat' split at he<;>try contradiction
 rename_i x R' hv _ c y hl;cases he;obtain⟨h1,h2,h3⟩:=FD h (h.aev k) hv;have hm:=h3.av (h.aev m);unfold Ib at hl;split at hl
 .rename_i kt e ht;have fin:∀(Ya:Array MapEntry) (es:List (PV×PV)) (r:Option PV),((a.eval m=.map none/\Ya = #[]) \/ ∃r clock,a.eval m=.map (some r)/\w.heap[r]? = some (.map Ya clock))->EntL w (Prv C.X (A2 R') rho) Ya.toList es->Jp P kt x=true->find (Li P kt) x es=some r ->
   (match (some r:Option (Option PV))with
    |some (some x)=>some (KN P kt,ite ok (AV.tup [.p x,.bool true]) (.p x))
    |some none=>match Lt P e with
     |some z=>some (KN P kt,ite ok (AV.tup [.p z,.bool false]) (.p z))
     |none=>none
    |none=>none)=some (c,y)->OpOk P C o st a w rho ⟨c,y,R'⟩:=by
   intro Ya es r a3 u a0 hf hres;have hcc:D2 (KN P kt):=by
    grind
   obtain⟨q,hq,s⟩:=Vw hf;have a4:=Ij h2 a0 hcc u hq;have a5:=Mq (b:=Ya.isEmpty) a0 h2;have last:∀(v:Value) (b:Bool) (z:PV),Uy w (Prv C.X (A2 R') rho) v z->(Instr.lookup t (a.eval m) (a.eval k) ok).run P w=.ok (ite ok (.tuple #[v,.bool b]) v) w->y=(ite ok (AV.tup [.p z,.bool b]) (.p z))->OpOk P C o st a w rho ⟨c,y,R'⟩:=by
    intro v b z hv hr hy;refine⟨_,_,w,rho,by simp[execOp,ho,hr];rfl,.inl rfl,h1,h3,?_⟩;rw[hy];cases ok
    .exact .p _ _ hv
    refine .tup _ _ rfl λi hi=>?_;simp only[Ch8,Cq0]at hi
    match i,hi with
    |0,_=>exact .p _ _ hv
    |1,_=>exact .p _ _ (.bb b)
   have hrun:∀(v:Value) (b:Bool),(q.map λj=>(j,(Ya.toList.getD j default).val))=(ite b (some (q.getD 0,v)) none)->(b=false->(zeroValue e).run P w=.ok v w)->(Instr.lookup t (a.eval m) (a.eval k) ok).run P w=.ok (ite ok (.tuple #[v,.bool b]) v) w:=by
    intro v b a6 hz;unfold Instr.lookup;rcases a3 with⟨a1,rfl⟩ | ⟨r,clock,a1,hheap⟩
    .simp only[Cg2,BY w (Nd ht),Cf1,a1,Ci6,a5,a4,a6];cases b
     all_goals simp_all
    have hg:(getObj r).run P w=.ok (.map Ya clock) w:=by grind[getObj,Sem.run]
    simp only[Cg2,BY w (Nd ht),Cf1,a1,hg,Ci6,a5,a4,a6];cases b
    all_goals simp_all
   cases q with
   |none=>
    simp only[Cq1]at s;subst s;simp only at hres;split at hres
    .rename_i z hz;simp at hres;obtain⟨v,hv1,hv2⟩:=Py (w:=w) (Pi:=Prv C.X (A2 R') rho) hz;exact last v false z hv2 (by grind) hres.2.symm
    grind
   |some j=>simp only[Cf0]at s;subst s;simp only[Cd9,Cf2]at hres;obtain⟨hj,_⟩:=KR hq;exact last _ true _ (u.2 j hj).2 (by grind) hres.2.symm
  split at hl
  .rename_i x' f;split at f
   .grind
   .rename_i j l n;split at f
    .rename_i es hj;rw[n]at hm;have hh:=h1.hp.holds j _ hj;obtain⟨b,Ya,clock,hr,hb,hs,hrep,hclk,a2⟩:=hh;have hmv:a.eval m=.map (some b):=by generalize a.eval m=mv at hm;cases hm<;>grind
     exact fin Ya es (some x') (by grind) ⟨by omega,λi hi=>by simp_all⟩ l f hl
    grind
   grind
  .rename_i g;split at g
   .rename_i l n;rw[n]at hm;exact fin #[] [] none (.inl ⟨hm.toP.toV,rfl⟩) ⟨rfl,by grind⟩ l rfl hl
   .rename_i j l n;split at g
    .rename_i es hj;rw[n]at hm;have hh:=h1.hp.holds j _ hj;obtain⟨b,Ya,clock,hr,hb,hs,hrep,hclk,a2⟩:=hh;have hmv:a.eval m=.map (some b):=by generalize a.eval m=mv at hm;cases hm<;>grind
     exact fin Ya es none (by grind) ⟨by omega,λi hi=>by simp_all⟩ l g hl
    grind
   grind
  grind
 grind
def Pz (h:Sat C st a w rho){t:TypeId}{m k x:Operand}(ho:o.op=.mapUpdate t m k x)(he:aop P st.env st.Uu d o.op=some out)(hc:D2 out.cond):OpOk P C o st a w rho out:=by
 rw[ho]at he;simp only[aop]at he
 repeat' split at he<;>try contradiction
 rename_i kt e j kp ht hm0 hk0 _ y R' hv _ es hj _ _ es' u z;cases he;have a0:=h.aev k;rw[hk0]at a0;obtain⟨h1,h2,h3⟩:=FD h (h.aev x) hv;have hm:=h3.av (h.aev m);rw[hm0]at hm;have c:=(h3.p a0.toP).nP;obtain⟨b,Ya,clock,hr,hb,hs,f,n,g⟩:=h1.hp.holds j _ hj;have a1:a.eval m=.map (some b):=by generalize a.eval m=mv at hm;cases hm<;>grind
 obtain⟨q,hq,hqn,hqs⟩:=ZU z;have a2:EntL w (Prv C.X (A2 R') rho) Ya.toList es:=⟨by omega,λi r=>by simp_all⟩;have a3:=Ij c u hc a2 hq;have a4:=Mq (b:=false) u c;have hg:(getObj b).run P w=.ok (.map Ya clock) w:=by grind[getObj,Sem.run]
 have hlt:b<w.heap.size:=(by grind);have s:∀ob:Go.Obj,(setObj b ob).run P w=.ok () { w with heap:=w.heap.setIfInBounds b ob }:=λob=>by grind[setObj,Sem.run]
 obtain⟨ents',clock',hrun,a5,a6,l⟩:∃(ents' : Array MapEntry) (clock' : Nat),(Instr.mapUpdate t (a.eval m) (a.eval k) (a.eval x)).run P w=.ok () { w with heap:=w.heap.setIfInBounds b (.map ents' clock') }/\(clock' = ents'.size/\∀i,i<ents'.size->(ents'.getD i default).born=i)/\ents'.size=es'.length /\
  ∀i,i<es'.length->Uy w (Prv C.X (A2 R') rho) (ents'.getD i default).key (es'.getD i default).1/\Uy w (Prv C.X (A2 R') rho) (ents'.getD i default).val (es'.getD i default).2:=by
  cases q with
  |none=>
   have e:=hqn rfl;subst e;refine⟨Ya.push { key:=a.eval k,val:=a.eval x,born:=clock },clock+1,?_,ZW n g rfl,by grind,λi r=>?_⟩
   .unfold Instr.mapUpdate;simp only[Cg2,BY w (Nd ht),Cf1,a1,hg,a4,a3,Cq1,s]
   simp at r;by_cases a7 : i<es.length
   .have:=f i a7
    simpa[Ce1,Co0,show i≠Ya.size by omega,Cj5 a7]using this
   obtain rfl:i=es.length:=by omega
   have h4:(Ya.push { key:=a.eval k,val:=a.eval x,born:=clock }).getD es.length default={ key:=a.eval k,val:=a.eval x,born:=clock }:=by simp[<- hs]
   rw[h4]
   grind
  |some j'=>
   have e:=hqs j' rfl;subst e;obtain⟨hj',a8⟩:=KR hq;have hjs:j' < Ya.size:=by omega
   obtain⟨heq,hbits⟩:=AZ4 c (f j' hj').1 a8;have a9:(((Ya[j']?).map (·.key)).getD (a.eval k))=(Ya.getD j' default).key:=by simp_all
   refine⟨Ya.modify j' λe=>{ e with key:=a.eval k,val:=a.eval x },clock,?_,Mr n g λ_=>rfl,by grind,λi r=>?_⟩
   .unfold Instr.mapUpdate;have hks:Instr.keyThatStays (((Ya[j']?).map (·.key)).getD (a.eval k)) (a.eval k)=(pure (a.eval k):Sem Value):=by
     rw[a9,<- heq]
     simp_all[Instr.keyThatStays,Jk]
    simp only[Cg2,BY w (Nd ht),Cf1,a1,hg,a4,a3,Cf0,hks,Ci6,s]
   simp at r;by_cases hij:i=j'
   .simp_all[default,Ce1,Cp6,Ce0,Ct6,Ce6]
   have h4:((Ya.modify j' λe=>{ e with key:=a.eval k,val:=a.eval x }).getD i default)=Ya.getD i default:=by simp[Cj8,Cl4 hij]
   rw[h4]
   have:=f i r
   grind
 obtain⟨g1,g2,g3⟩:=h1.modify (o:=.map es) (ob:=.map es') hj (b:=b) (by grind[G0,R8]) (λ_=>trivial) (λb' hb'=>by grind[G0,R8])
  (w':={ w with heap:=w.heap.setIfInBounds b (.map ents' clock') }) (by simp) (by grind)
  (λb0=>⟨b,ents',clock',hr,by grind,a6,λi r=>⟨(l i r).1.keeps b0,(l i r).2.keeps b0⟩,a5⟩)
 exact⟨_,undef,_,_,by simp_all[execOp],.inr ⟨rfl,rfl⟩,g1,h3.trans ⟨g2,g3⟩,.p _ _ (.v _)⟩
def AL4 {Ya:Array MapEntry}(hb:∀i,i<Ya.size->(Ya.getD i default).born=i){n:Nat}(hn:n<Ya.size):Ya.findIdx? (λe=>(e.born:Int)==(n:Int))=some n:=by
 rw[Array.findIdx?_eq_some_iff_getElem];refine⟨hn,?_,λj a=>?_⟩
 .have:=hb n hn
  simp_all
 have:=hb j (by omega)
 simp[show j<Ya.size by omega]at this
 grind
def Ap3 (h:Sat C st a w rho){t:TypeId}{m k:Operand}(ho:o.op=.mapEntry t m k)(he:aop P st.env st.Uu d o.op=some out)(hc:D2 out.cond):OpOk P C o st a w rho out:=by
 rw[ho]at he;simp only[aop]at he
 repeat' split at he<;>try contradiction
 rename_i kt e j kp ht hm0 hk0 _ _ es z hj hz _ _ q y hq;cases he;have a0:=h.aev k;rw[hk0]at a0;have hm:=h.aev m;rw[hm0]at hm;have g:=a0.toP.nP;obtain⟨b,Ya,clock,hr,hb,hs,f,l,c⟩:=h.hp.holds j _ hj;have a1:a.eval m=.map (some b):=by generalize a.eval m=mv at hm;cases hm<;>grind
 have a2:EntL w (Prv C.X (A2 st.Uu) rho) Ya.toList es:=⟨by omega,λi n=>by simp_all⟩;have a3:=Ij g y hc a2 hq;have a4:=Mq (b:=false) y g;have hg:(getObj b).run P w=.ok (.map Ya clock) w:=by grind[getObj,Sem.run]
 have hlt:b<w.heap.size:=(by grind);have s:∀ob:Go.Obj,(setObj b ob).run P w=.ok () { w with heap:=w.heap.setIfInBounds b ob }:=λob=>by grind[setObj,Sem.run]
 obtain⟨zv,hzr,hzp⟩:=Py (w:=w) (Pi:=Prv C.X (A2 st.Uu) rho) hz;obtain⟨ents',clock',old,a5,a6,u,a7,r⟩:∃(ents' : Array MapEntry) (clock' : Nat) (old:Value),(Instr.mapEntry t (a.eval m) (a.eval k)).run P w=.ok (.tuple #[old,.int .i64 ((ent (nP kp) z es q).1:Nat)]) { w with heap:=w.heap.setIfInBounds b (.map ents' clock') }/\(clock' = ents'.size/\∀i,i<ents'.size->(ents'.getD i default).born=i) /\
  Uy w (Prv C.X (A2 st.Uu) rho) old (ent (nP kp) z es q).2.1/\ents'.size=(ent (nP kp) z es q).2.2.length /\
  ∀i,i<(ent (nP kp) z es q).2.2.length->Uy w (Prv C.X (A2 st.Uu) rho) (ents'.getD i default).key ((ent (nP kp) z es q).2.2.getD i default).1/\Uy w (Prv C.X (A2 st.Uu) rho) (ents'.getD i default).val ((ent (nP kp) z es q).2.2.getD i default).2:=by
  cases q with
  |none=>
   refine⟨Ya.push { key:=a.eval k,val:=zv,born:=clock },clock+1,zv,?_,ZW l c rfl,hzp,by grind[ent],λi n=>?_⟩
   .unfold Instr.mapEntry;simp only[Cg2,BY w (Nd ht),Cf1,a1,hg,a4,a3,Cq1,s,hzr,Ci6,goInt,ent,l,hs]
   simp only[ent,Cg1,Cm0]at n;by_cases a8 : i<es.length
   .have:=f i a8
    simpa[ent,Ce1,Co0,show i≠Ya.size by omega,Cj5 a8]using this
   obtain rfl:i=es.length:=by omega
   have h4:(Ya.push { key:=a.eval k,val:=zv,born:=clock }).getD es.length default={ key:=a.eval k,val:=zv,born:=clock }:=by simp[<- hs]
   rw[h4]
   grind[ent,List.getElem?_concat_length]
  |some j'=>
   obtain⟨hj',hcmp⟩:=KR hq;have hjs:j' < Ya.size:=by omega
   obtain⟨heq,hbits⟩:=AZ4 g (f j' hj').1 hcmp;have hold:(((Ya[j']?).map (·.key)).getD (a.eval k))=(Ya.getD j' default).key:=by simp_all
   have hbj:((Ya[j']?).map λx=>((x.born:Nat):Int)).getD 0=(j' : Int):=by
    have:=c j' hjs
    simp_all
   have hval:Ya.toList.getD j' default=Ya.getD j' default:=by simp_all
   refine⟨Ya.modify j' λe=>{ e with key:=a.eval k },clock,(Ya.getD j' default).val,?_,Mr l c λ_=>rfl,(f j' hj').2,by grind[ent],λi n=>?_⟩
   .unfold Instr.mapEntry;have hks:Instr.keyThatStays (((Ya[j']?).map (·.key)).getD (a.eval k)) (a.eval k)=(pure (a.eval k):Sem Value):=by
     rw[hold,<- heq]
     simp_all[Instr.keyThatStays,Jk]
    simp only[Cg2,BY w (Nd ht),Cf1,a1,hg,a4,a3,Cf0,hks,Ci6,s,goInt,ent,hbj,hval]
   simp only[ent,List.length_set]at n;by_cases hij:i=j'
   .subst hij;have h4:((Ya.modify i λe=>{ e with key:=a.eval k }).getD i default)={ (Ya[i])with key:=a.eval k }:=by
     simp_all[Ce1,Cp6]
    have h5:(Ya[i]).val=(Ya.getD i default).val:=by grind
    rw[h4]
    grind[ent,List.getElem?_set_self]
   have h4:((Ya.modify j' λe=>{ e with key:=a.eval k }).getD i default)=Ya.getD i default:=by simp[Cj8,Cl4 hij]
   rw[h4]
   have:=f i n
   simp_all[ent,List.getElem?_set_ne,Cl4]
 obtain⟨g1,g2,g3⟩:=h.modify (o:=.map es) (ob:=.map (ent (nP kp) z es q).2.2) hj (b:=b) (by grind[G0,R8]) (λ_=>trivial) (λb' hb'=>by grind[G0,R8])
  (w':={ w with heap:=w.heap.setIfInBounds b (.map ents' clock') }) (by simp) (by grind)
  (λhk'=>⟨b,ents',clock',hr,by grind,a7,λi n=>⟨(r i n).1.keeps hk',(r i n).2.keeps hk'⟩,a6⟩)
 refine⟨_,_,_,_,by simp[execOp,ho,a5];rfl,.inl rfl,g1,⟨g2,g3⟩,.tup _ _ rfl λi n=>?_⟩;simp only[Ch8,Cq0]at n
 match i,n with
 |0,_=>exact .p _ _ (u.keeps g2)
 |1,_=>exact .p _ _ (.v _)
def Xn (h:Sat C st a w rho){t:TypeId}{m s x:Operand}(ho:o.op=.entryStore t m s x)(z:aop P st.env st.Uu d o.op=some out)(hc:D2 out.cond):OpOk P C o st a w rho out:=by
 rw[ho]at z;simp only[aop]at z
 repeat' split at z<;>try contradiction
 rename_i j sv y R' a0 hs0 hv _ es hj;cases z;have hsr:=h.aev s;obtain⟨h1,h2,h3⟩:=FD h (h.aev x) hv;have hm:=h3.av (h.aev m);rw[a0]at hm;obtain⟨b,Ya,clock,hr,hb,hs,g,l,c⟩:=h1.hp.holds j _ hj;have hmv:a.eval m=.map (some b):=by generalize a.eval m=mv at hm;cases hm<;>grind
 have hg:(getObj b).run P w=.ok (.map Ya clock) w:=by grind[getObj,Sem.run]
 have hlt:b<w.heap.size:=(by grind);have hset:∀ob:Go.Obj,(setObj b ob).run P w=.ok () { w with heap:=w.heap.setIfInBounds b ob }:=λob=>by grind[setObj,Sem.run]
 have hc:0<=sv/\sv<(es.length:Int):=hc;obtain⟨c1,c2⟩:=hc;obtain⟨n,rfl⟩:∃n:Nat,sv=(n:Int):=⟨sv.toNat,by omega⟩;have hn:n<es.length:=by omega
 have a1 : n<Ya.size:=by omega
 have hjx:=AL4 c a1;have hrun:(Instr.entryStore t (a.eval m) (a.eval s) (a.eval x)).run P w=.ok () { w with heap:=w.heap.setIfInBounds b (.map (Ya.modify n λe=>{ e with val:=a.eval x }) clock) }:=by
  grind[CY,Instr.entryStore,Go.Sem.run_bind,Go.Result.andThen_ok,Go.asInt,asIntOf,Go.Sem.run_pure]
 have a2:(BG7 es (n:Int).toNat y)=es.set n ((es.getD n default).1,y):=by simp[BG7]
 rw[a2];have f : ∀i,i<(es.set n ((es.getD n default).1,y)).length->Uy w (Prv C.X (A2 R') rho) ((Ya.modify n λe=>{ e with val:=a.eval x }).getD i default).key ((es.set n ((es.getD n default).1,y)).getD i default).1/\Uy w (Prv C.X (A2 R') rho) ((Ya.modify n λe=>{ e with val:=a.eval x }).getD i default).val ((es.set n ((es.getD n default).1,y)).getD i default).2:=by
  intro i q;simp at q;by_cases r:i=n
  .subst r;have h4:((Ya.modify i λe=>{ e with val:=a.eval x }).getD i default)={ (Ya[i])with val:=a.eval x }:=by
    simp_all[Ce1,Cp6]
   have h5:(Ya[i]).key=(Ya.getD i default).key:=by simp_all
   rw[h4]
   grind
  have h4:((Ya.modify n λe=>{ e with val:=a.eval x }).getD i default)=Ya.getD i default:=by simp[Cj8,Cl4 r]
  rw[h4]
  have:=g i q
  grind
 obtain⟨g1,g2,g3⟩:=h1.modify (o:=.map es) (ob:=.map (es.set n ((es.getD n default).1,y))) hj (b:=b) (by grind[G0,R8]) (λ_=>trivial) (λb' hb'=>by grind[G0,R8])
  (w':={ w with heap:=w.heap.setIfInBounds b (.map (Ya.modify n λe=>{ e with val:=a.eval x }) clock) }) (by simp) (by grind)
  (λu=>⟨b,_,clock,hr,by grind,by grind,λi q=>⟨(f i q).1.keeps u,(f i q).2.keeps u⟩,Mr l c λ_=>rfl⟩)
 exact⟨_,undef,_,_,by simp_all[execOp],.inr ⟨rfl,rfl⟩,g1,h3.trans ⟨g2,g3⟩,.p _ _ (.v _)⟩
end
section
variable {C:Ctx}{st:St}{a:Act}{w:World}{rho:Nat->Value}
def Sat.re (hs:Sat C st a w rho)(D:Nat->Prop){R' : C6}{rho' : Nat->Value}
 (c:∀j,¬D j->A2 R' j=A2 st.Uu j) (d:∀j,Lv (A2 st.Uu) j->Lv (A2 R') j/\rho' j=rho j) (g:∀j,¬Lv (A2 st.Uu) j->Lv (A2 R') j->1000<=j)
 (n:∀j r b,D j->A2 R' j≠some (.yld r b))
 (l:∀j o b,D j->A2 R' j=some o->G0 (rho' j) o b->∃i oi,D i/\A2 st.Uu i=some oi/\G0 (rho i) oi b)
 (f:∀i j oi oj b,D i->D j->A2 R' i=some oi->A2 R' j=some oj->G0 (rho' i) oi b->G0 (rho' j) oj b->i=j)
 (s:∀i oi,D i->A2 st.Uu i=some oi->∀off,MT oi off)
 (u:(∀b off,Prv C.X (A2 R') rho' b off->Prv C.X (A2 st.Uu) rho b off)->Ux w (Prv C.X (A2 st.Uu) rho) w (Prv C.X (A2 R') rho')->∀j o,D j->A2 R' j=some o->Yk w (Prv C.X (A2 R') rho') (Lv (A2 R')) rho' (rho' j) o) :
 Sat C ⟨st.env,R'⟩ a w rho' /\ ∀b off,Prv C.X (A2 R') rho' b off->Prv C.X (A2 st.Uu) rho b off:=by
 have m:∀b off,Prv C.X (A2 R') rho' b off->Prv C.X (A2 st.Uu) rho b off:=by
  rintro b off (x|⟨j,o,t,hb,hp⟩)
  .exact .inl x
  by_cases q:D j
  .obtain⟨i,oi,h1,y,z⟩:=l j o b q t hb;exact .inr (by grind)
  rw[c j q]at t;rw[(d j (by grind[Lv])).2]at hb;exact .inr (by grind)
 exact⟨(hs.step D c d (Ce5 _) g n (λ_ _ _=>rfl) (by grind) f
  (λi oi b off v q hi hb hp hc=>Ke (.inr (by grind)) hp) (u m)).1,m⟩
end
section
variable {P:Program}{C:Ctx}{st:St}{a:Act}{w:World}{rho:Nat->Value}{o:Oper}{out:Out}{d:Nat}
theorem Jz {Uu:C6}{j q:Nat}{o:Obj}(h:Lv (A2 Uu) q):Lv (A2 (ins j o Uu)) q:=by
 grind[Lv,A4]
def FV {Uu:C6}{j q:Nat}{o:Obj}(h:Lv (A2 (ins j o Uu)) q):j=q \/ Lv (A2 Uu) q:=by
 grind[Lv,A4]
theorem ZX {Uu:C6}{q:Nat}{o:Obj}(h:A2 Uu q=some o):Lv (A2 Uu) q:=by grind[Lv]
def Ik {w:World}{p q:Nat->Nat->Prop}(h:∀b o,q b o->p b o):Ux w p w q:=λb o v hp hc=>by grind
def AZ6 {e:TypeId}{n jr:Nat}{x:Option (Nat×AV)}{Pi Pi' : Nat->Nat->Prop}{live live' : Nat->Prop}{rho' : Nat->Value}{v:Value}(h:HoldsC w Pi live rho v (.fam e n jr x)) :∃c:Array Value,HoldsC w Pi' live' rho' v (.vec e 1 n (λi=>[.v (c.getD i undef)]) false)/\(∃rv,live jr/\rho jr=.agg rv/\∀i,i<n->(x.map (·.1)≠some i->c.getD i undef=rv.getD i undef)) /\
  ∀i y,x=some (i,y)->0<n->Yj w Pi live rho (c.getD i undef) y:=by
 obtain⟨rv,l1,l2,h⟩:=h;rcases h with⟨h,a⟩ | ⟨b,cap,c,g1,g2,g3,g4,g5,g6,g7⟩
 .exact⟨#[],.inl ⟨h,a⟩,by grind,by omega⟩
 refine⟨c,.inr ⟨b,cap,c,g1,g2,g3,by omega,g5,λ_ _=>rfl,λi l d hl=>?_⟩,by grind,λi y hx _=>?_⟩
 .obtain rfl:l=0:=by omega
  rw[Ci3,Cm1];exact⟨.v _,(g6 i d).1⟩
 grind
def AZ7 (h:Sat C st a w rho){c:Call}(hc:c.callee=.builtin .append)(f:o.op=.call c)(he:aop P st.env st.Uu d o.op=some out)(a2:D2 out.cond):OpOk P C o st a w rho out:=by
 by_cases hF:∀s x e m b,c.args.toList=[s,x]->MV st.Uu e m d b (aev st.env s) (aev st.env x)=none
 .grind[Vt]
 simp only[Classical.not_forall]at hF;obtain⟨s,x,e0,m0,b0,a0,hF⟩:=hF;have hJ:∃j l n jr jz y e1 e2,aev st.env s=.vec j/\aev st.env x=.vec l/\A2 st.Uu (nid d 0)=none/\A2 st.Uu j=some (.fam e1 n jr none)/\A2 st.Uu l=some (.fam e2 1 jz (some (0,y))):=by
  unfold MV at hF
  grind
 obtain⟨j,l,n,jr,jz,y,e1,e2,hsv,hxv,hd,hj,hl⟩:=hJ;obtain⟨callee,args,types⟩:=c;simp only at hc;subst hc;rw[f]at he;simp only at a0;simp only[aop,a0]at he;split at he
 .rename_i s' x' t t2 hs' htypes;cases hs';split at he
  .rename_i e k2 ht ht2;split at he
   .rename_i m z hk2 hm hz;have hel:elems st.Uu m (.vec l)=none:=by grind[elems]
    simp only[hsv,hxv,hd,hel]at he;by_cases hzm:z.length=m
    case neg=>
     rw[show famB P e z m=0 by grind[famB]]at he
     grind[MV]
    rw[show famB P e z m=Fi P e by grind[famB]]at he;simp only[MV,hd,hj,hl]at he;split at he
    .rename_i c1 v1 R1 hif;split at hif
     .rename_i hif';obtain⟨⟨⟨he1,he2⟩,hm1,hby⟩,hne⟩:=hif';subst hm1;rw[he1]at hj;rw[he2]at hl;cases hif;cases he;have hzl:z.length=1:=hzm;have a2:D2 [(n+1)*Fi P e<=140737488355328/\n+1<=140737488355328]:=a2;have hnj:nid d 0≠j:=by grind
      have hnl:nid d 0≠l:=by grind
      obtain⟨cj,f1,⟨rv,l1,l2,f3⟩,_⟩:=AZ6 (Pi:=Prv C.X (A2 st.Uu) rho) (live:=Lv (A2 st.Uu)) (Pi':=λ_ _=>False) (live':=λ_=>False) (rho':=rho) (h.hp.holds j _ hj);obtain⟨cl,k1,_,k3⟩:=AZ6 (Pi:=Prv C.X (A2 st.Uu) rho) (live:=Lv (A2 st.Uu)) (Pi':=λ_ _=>False) (live':=λ_=>False) (rho':=rho) (h.hp.holds l _ hl);have k3:=k3 0 y rfl (by omega);obtain⟨R',hR'⟩:∃R' : C6,R' = ins l (.vec e 1 1 (λi=>[.v (cl.getD i undef)]) false) (ins j (.vec e 1 n (λi=>[.v (cj.getD i undef)]) false) st.Uu):=⟨_,rfl⟩;have u:∀q,A2 R' q=ite (l=q) (some (.vec e 1 1 (λi=>[.v (cl.getD i undef)]) false)) (ite (j=q) (some (.vec e 1 n (λi=>[.v (cj.getD i undef)]) false)) (A2 st.Uu q)):=λq=>by rw[hR',A4,A4]
      have hwas:∀q o b,(q=j \/ q=l)->A2 R' q=some o->G0 (rho q) o b->∃oi,A2 st.Uu q=some oi/\G0 (rho q) oi b:=by
       intro q o b r f hb;rw[u]at f;split at f
       .rename_i h1;subst h1;cases f;exact⟨_,hl,hb⟩
       rename_i h1;obtain rfl:q=j:=(by omega);rw[Jk rfl]at f;cases f;exact⟨_,hj,hb⟩
      obtain⟨h2,h3⟩:=h.re (λq=>q=j \/ q=l) (R':=R') (rho':=rho)
       (by grind) (λq r=>⟨by rw[hR'];grind[Jz],rfl⟩)
       (λq r a1=>by
        rw[hR']at a1;rcases FV a1 with rfl|a1
        .grind[Ke,ZX]
        rcases FV a1 with rfl|a1
        all_goals grind[Ke,ZX])
       (by grind)
       (by grind)
       (λq q' o o' b r a1 f ho' hb hb'=>by obtain⟨o1,g1,g2⟩:=hwas q o b r f hb;obtain⟨o2,g3,g4⟩:=hwas q' o' b a1 ho' hb';exact h.hp.sep q q' o1 o2 b g1 g3 g2 g4)
       (λq o r f off=>by
        rcases r with rfl|rfl
        .rw[hj]at f;cases f;trivial
        rw[hl]at f;cases f;trivial)
       (λ_ hk q o r f=>by
        rw[u]at f;split at f
        .rename_i h1;subst h1;cases f;rcases k1 with h|⟨b,cap,c,g1,g2,g3,g4,g5,g6,g7⟩
         .omega
         exact .inr ⟨b,cap,c,g1,g2,g3,g4,g5,g6,λi l hi hl=>by
          have:=g7 i l hi hl
          obtain rfl:l=0:=by omega
          exact⟨this.1.toV ▸ .v _,this.2⟩⟩
        rename_i h1;obtain rfl:q=j:=(by omega);rw[Jk rfl]at f;cases f;rcases f1 with h|⟨b,cap,c,g1,g2,g3,g4,g5,g6,g7⟩
        .exact .inl h
        exact .inr ⟨b,cap,c,g1,g2,g3,g4,g5,g6,λi l hi hl=>by
         have:=g7 i l hi hl
         obtain rfl:l=0:=by omega
         exact⟨this.1.toV ▸ .v _,this.2⟩⟩)
      have hd' : A2 R' (nid d 0)=none:=by rw[u,Js (Cl4 hnl),Js (Cl4 hnj)];omega
      have hj' : A2 R' j=some (.vec e 1 n (λi=>[.v (cj.getD i undef)]) false):=by rw[u,Js (Cl4 hne),Jk rfl]
      have hl' : A2 R' l=some (.vec e 1 1 (λi=>[.v (cl.getD i undef)]) false):=by rw[u,Jk rfl]
      have hop:=Vt (P:=P) (o:=o) (d:=d) (out:=⟨[(n+1)*Fi P e<=140737488355328/\n+1<=140737488355328],.vec (nid d 0),ins (nid d 0) (.vec e 1 (n+1) (DO n (λi=>[.v (cj.getD i undef)]) λi=>[.v (cl.getD i undef)]) false) (ins j .dead R')⟩) h2
       (c:=⟨.builtin .append,args,types⟩) (λs1 x1 e3 m3 b3 hx1=>by rw[a0]at hx1;grind[MV]) rfl f
       (by rw[f];simp only[aop,a0,htypes,ht,ht2,hk2,hm,hz,hsv,hxv,hd',elems,Xd,hj',hl',Lo,and_self,hzl,hby]) a2
      obtain⟨nx,v,w',rho1,p1,p2,p3,p4,p5⟩:=hop;have g:∀q,Lv (A2 st.Uu) q->Lv (A2 R') q:=λq r=>by rw[hR'];grind[Jz]
      have hrj:rho1 jr=.agg rv:=(p4.live jr (g jr l1)).2.trans l2;have hx:∃Rz:C6,Rz=ins (nid d 0) (.fam e (n+1) jr (some (n,y))) (ins l .dead (ins j .dead st.Uu)):=⟨_,rfl⟩;obtain⟨Rz,hRz⟩:=hx;have hgz:∀q,A2 Rz q=ite (nid d 0=q) (some (.fam e (n+1) jr (some (n,y)))) (ite (l=q) (some .dead) (ite (j=q) (some .dead) (A2 st.Uu q))):=λq=>by rw[hRz,A4,A4,A4]
      obtain⟨Ry,hRy⟩:∃Ry:C6,Ry=ins (nid d 0) (.vec e 1 (n+1) (DO n (λi=>[.v (cj.getD i undef)]) λi=>[.v (cl.getD i undef)]) false) (ins j .dead R'):=⟨_,rfl⟩;have hgy:∀q,A2 Ry q=ite (nid d 0=q) (some (.vec e 1 (n+1) (DO n (λi=>[.v (cj.getD i undef)]) λi=>[.v (cl.getD i undef)]) false)) (ite (j=q) (some .dead) (ite (l=q) (some (.vec e 1 1 (λi=>[.v (cl.getD i undef)]) false)) (A2 st.Uu q))):=λq=>by
       rw[hRy,A4,A4,u]
       grind
      simp only[<- hRy]at p3 p4 p5;simp only[<- hRz];have hlz:∀q,Lv (A2 Ry) q->Lv (A2 Rz) q:=λq r=>by
       unfold Lv at r⊢;rw[hgz];rw[hgy]at r
       grind
      have hlz' : ∀q,Lv (A2 Rz) q->Lv (A2 Ry) q:=λq r=>by
       unfold Lv at r⊢;rw[hgy];rw[hgz]at r
       grind
      obtain⟨q2,q3⟩:=p3.re (λq=>q=nid d 0 \/ q=l) (R':=Rz) (rho':=rho1)
       (λq r=>by
        grind) (by grind)
       (by grind)
       (by grind)
       (λq o b r f hb=>by
        rw[hgz]at f;split at f
        .rename_i h1;subst h1;cases f;exact⟨_,_,.inl rfl,(hgy (nid d 0)).trans (Jk rfl),hb⟩
        rename_i h1;obtain rfl:q=l:=(by omega);rw[Jk rfl]at f;cases f;cases hb)
       (λq q' o o' b r a1 f ho' hb hb'=>by
        have key:∀q o,(q=nid d 0 \/ q=l)->A2 Rz q=some o->G0 (rho1 q) o b->q=nid d 0:=by
         intro q o r f hb;rcases r with h1|h1
         .omega
         rw[h1,hgz,Js hnl,Jk rfl]at f;have f:=Ci5 f
         grind[Ke,G0,R8]
        rw[key q o r f hb,key q' o' a1 ho' hb'])
       (λq o r f off=>by
        replace f:A2 Ry q=some o:=f;rw[hgy]at f;rcases r with h1|h1
        .rw[Jk h1.symm]at f;have f:=Ci5 f;subst f;trivial
        rw[h1,Js hnl,Js hne,Jk rfl]at f;have f:=Ci5 f;subst f;trivial)
       (λhpi hk q o r f=>by
        rw[hgz]at f;split at f
        .rename_i h1;subst h1;cases f;refine⟨rv,hlz jr (p4.live jr (g jr l1)).1,hrj,?_⟩;have hh:=p3.hp.holds (nid d 0) _ (by show A2 Ry _=_;rw[hgy,Jk rfl]);rcases hh with⟨_,h0⟩ | ⟨b,cap,c,g1,g2,g3,g4,g5,g6,g7⟩
         .omega
         have hc:∀i,i<n+1->c.getD i undef=(ite (i<n) (cj.getD i undef) (cl.getD (i-n) undef))/\(c.getD i undef).oneCell' = true:=by
          intro i hi
          have:=g7 i 0 hi (by omega)
          rw[Ci3,Cm1]at this;refine⟨?_,this.2⟩;have h5:=this.1;unfold DO at h5;split at h5
          .rename_i h6;rw[Jk h6];exact h5.toV
          rename_i h6;rw[Js h6];exact h5.toV
         refine .inr ⟨b,cap,c,g1,g2,g3,by omega,g5,λi hi=>⟨(hc i hi).2,λhx=>?_⟩,?_⟩
         .have hin:i<n:=by
           have:i≠n:=λh=>hx (by rw[h];rfl)
           omega
          rw[(hc i hi).1,Jk hin]
          grind
         show Yj w' _ _ rho1 (c.getD n undef) y;rw[(hc n (by omega)).1,Js (by omega),Nat.sub_self];exact k3.keeps ((Ik h3).trans (p4.keeps.trans hk)) λq r=>⟨hlz q (p4.live q (g q r)).1,(p4.live q (g q r)).2⟩
        rename_i h1;obtain rfl:q=l:=(by omega);rw[Jk rfl]at f;cases f;trivial)
      refine⟨nx,v,w',rho1,p1,p2,q2,⟨(Ik h3).trans (p4.keeps.trans (Ik q3)),λq r=>⟨hlz q (p4.live q (g q r)).1,(p4.live q (g q r)).2⟩⟩,?_⟩;exact p5.keeps (Ik q3) (by grind)
     grind
    grind
   grind
  grind
 grind
def Xo (h:Sat C st a w rho){t:TypeId}{n:Nat}{parts:Array (Nat×Operand)}(s:o.op=.buildSlice t n parts)(he:aop P st.env st.Uu d o.op=some out)(hc:D2 out.cond):OpOk P C o st a w rho out:=by
 cases u:MW st.Uu n (parts.toList.map λq=>(q.1,aev st.env q.2))with
 |none=>exact Lz h u s he hc
 |some p=>
  obtain⟨jz,j⟩:=p;have hJ:∃x e1 k m f r g,parts.toList=[(0,x)]/\aev st.env x=.vec j/\n=1/\A2 st.Uu j=some (.vec e1 k m f false)/\A2 st.Uu jz=some (.rows r g):=by
   cases hp:parts.toList with
   |nil=>rw[hp]at u;simp[MW]at u
   |cons p1 ps=>
    obtain⟨i,x⟩:=p1;rw[hp]at u;cases ps with
    |cons p2 ps=>simp[MW]at u
    |nil=>
     simp only[Cf8,Cn5]at u;unfold MW at u;split at u
     .rename_i hx;rename_i j1;simp only[Ck9,Cf2,and_true]at hx;obtain⟨rfl,hx⟩:=hx;split at u
      .rename_i h1 h2;split at u
       .rename_i h3;split at u
        .rename_i h4;simp only[Cd9,Cf2]at u;obtain⟨rfl,rfl⟩:=u;exact⟨x,_,_,_,_,_,_,rfl,hx,h4,h1,h3⟩
        cases u
       cases u
      cases u
     cases u
  obtain⟨x,e1,k,m,f,r,g,a0,hx,rfl,hj,hjz⟩:=hJ;rw[s]at he;simp only[aop,u]at he;split at he
  .rename_i e hk hd;split at he
   .rename_i z hsz hz;split at he
    .rename_i hzl;cases he;obtain⟨rv,l2,_⟩:=h.hp.holds jz _ hjz;have hv:=h.aev x;rw[hx]at hv;obtain⟨b0,nn,cap,hV⟩:∃b0 nn cap,a.eval x=.slice b0 nn cap:=by
      generalize a.eval x=V at hv;cases hv with
      |vec j base nn cap hl hr=>exact⟨_,_,_,rfl⟩
     cases x with
     |const c=>cases hx
     |func q=>cases hx
     |global q=>cases hx
     |tmp t0=>
     obtain⟨env',henv⟩:∃env' : Env,env' = ins t0 (.p (.v (.slice b0 nn cap))) st.env:=⟨_,rfl⟩;have h2:Sat C ⟨env',st.Uu⟩ a w rho:=⟨h.toSatE,λq=>by
      show Yj _ _ _ _ _ (get env' q);rw[henv,Rp];split
      .rename_i h1;subst h1;rw[show a.tmps.getD t0 undef=.slice b0 nn cap from hV];exact .p _ _ (.v _)
      exact h.env q,h.pin,h.marks⟩
     have hx' : aev env' (.tmp t0)=.p (.v (.slice b0 nn cap)):=by show get env' t0=_;rw[henv,Rp,Jk rfl]
     obtain⟨Ry,hRy⟩:∃Ry:C6,Ry=ins (nid d 0) (.vec e 1 1 (G9 z [(0,[.v (.slice b0 nn cap)])]) false) st.Uu:=⟨_,rfl⟩;have hop:=Lz (P:=P) (o:=o) (d:=d) (st:=⟨env',st.Uu⟩) (out:=⟨[Ic 1 1 [0] [.v (.slice b0 nn cap)]=true],.vec (nid d 0),Ry⟩) h2
      (by rw[a0];simp only[Cf8,Cn5,hx'];rfl) s
      (by
       rw[s];have h3:MW st.Uu 1 ([(0,Operand.tmp t0)].map λq=>(q.1,aev env' q.2))=none:=by simp only[Cf8,Cn5,hx'];rfl
       have h4:Hq st.Uu ([(0,Operand.tmp t0)].map λ(q:Nat×Operand)=>aev env' q.2)=some ([.v (.slice b0 nn cap)],st.Uu):=by simp only[Cf8,Cn5,hx'];rfl
       simp only[aop,a0,h3,hk,hd,h4,hsz,hz];rw[Jk ⟨⟨by omega,by omega⟩,hzl⟩,hRy];rfl)
      (show Ic 1 1 [0] [.v (.slice b0 nn cap)]=true from rfl)
     obtain⟨nx,v,w',rho1,p1,p2,p3,p4,p5⟩:=hop;have a1:∀q,A2 Ry q=ite (nid d 0=q) (some (.vec e 1 1 (G9 z [(0,[.v (.slice b0 nn cap)])]) false)) (A2 st.Uu q):=λq=>by rw[hRy,A4]
     obtain⟨Rz,hRz⟩:∃Rz:C6,Rz=ins (nid d 0) (.fam e 1 jz (some (0,.vec j))) st.Uu:=⟨_,rfl⟩;have a2:∀q,A2 Rz q=ite (nid d 0=q) (some (.fam e 1 jz (some (0,.vec j)))) (A2 st.Uu q):=λq=>by rw[hRz,A4]
     simp only[<- hRz];have y:∀q,Lv (A2 Ry) q↔Lv (A2 Rz) q:=λq=>by
      unfold Lv;rw[a1,a2];split
      .exact⟨λ_=>rfl,λ_=>rfl⟩
      exact Cp5
     have hrz:rho1 jz=.agg rv:=(p4.live jz (ZX hjz)).2.trans l2;obtain⟨q2,q3⟩:=p3.re (λq=>q=nid d 0) (R':=Rz) (rho':=rho1)
      (λq l=>by show A2 Rz q=A2 Ry q;rw[a2,a1,Js (λh=>l h.symm),Js (λh=>l h.symm)]) (λq l=>⟨(y q).1 l,rfl⟩)
      (λq l hq'=>Ke ((y q).2 hq') l)
      (λq r b l=>by rw[a2,l,Jk rfl];simp)
      (λq o b l s hb=>by subst l;rw[a2,Jk rfl]at s;have s:=Ci5 s;subst s;exact⟨_,_,rfl,(a1 (nid d 0)).trans (Jk rfl),hb⟩)
      (λq q' o o' b l hq' _ _ _ _=>l.trans hq'.symm)
      (λq o l s off=>by replace s:A2 Ry q=some o:=s;rw[a1,Jk l.symm]at s;have s:=Ci5 s;subst s;trivial)
      (λhpi hk q o l s=>by
       subst l;rw[a2,Jk rfl]at s;have s:=Ci5 s;subst s;refine⟨rv,(y jz).1 (p4.live jz (ZX hjz)).1,hrz,?_⟩;have hh:=p3.hp.holds (nid d 0) _ (by show A2 Ry _=_;rw[a1,Jk rfl]);rcases hh with⟨_,h0⟩ | ⟨b,cap',c,g1,g2,g3,g4,g5,g6,g7⟩
       .omega
       have h0:=g7 0 0 (by omega) (by omega);refine .inr ⟨b,cap',c,g1,g2,g3,by omega,g5,λi hi=>?_,?_⟩
       .obtain rfl:i=0:=by omega
        exact⟨h0.2,λhx=>Ke rfl hx⟩
       show Yj w' _ _ rho1 (c.getD 0 undef) (.vec j);have h1:c.getD 0 undef=.slice b0 nn cap:=Uy.toV h0.1;rw[h1,<- hV];exact hv.keeps (p4.keeps.trans hk) λq l=>⟨(y q).1 (p4.live q l).1,(p4.live q l).2⟩)
     refine⟨nx,v,w',rho1,p1,p2,⟨q2.toSatE,λq=>?_,q2.pin,q2.marks⟩,⟨p4.keeps.trans (Ik q3),λq l=>⟨(y q).1 (p4.live q l).1,(p4.live q l).2⟩⟩,?_⟩
     .exact (h.env q).keeps (p4.keeps.trans (Ik q3)) λq l=>⟨(y q).1 (p4.live q l).1,(p4.live q l).2⟩
     exact p5.keeps (Ik q3) λq l=>⟨(y q).1 l,rfl⟩
    cases he
   cases he
  cases he
end
end Go.AM
