/- Part 1. -/
import Derived.CallsIn
import Derived.Laws.AppendOwn
import Derived.Laws.IdiomCopy
import Derived.Below
import Derived.Laws.Rows
import Derived.Deep.AppendSrc
set_option linter.defProp false
set_option linter.unusedSimpArgs false
set_option linter.unusedVariables false
set_option linter.unusedSectionVars false
namespace Go.AM
def Ld:=@if_false
def Lc:=@if_true
def Ij:=@absurd
def Hj:=@if_neg
def Gy:=@if_pos
def By2:=@Array.getD_eq_getD_getElem?
def By3:=@List.getD_eq_getElem?_getD
def By4:=@Option.some.injEq
def By5:=@Bool.and_eq_true
def By7:=@List.getElem?_eq_getElem
def Bz0:=@Array.getElem?_eq_some_iff
def Bz1:=@List.getElem?_map
def Bz2:=@List.all_eq_true
def Bz3:=@Prod.mk.injEq
def Bz4:=@Option.getD_some
def Bz5:=@Nat.le_refl
def Bz6:=@List.length_append
def Bz7:=@Option.map_some
def Bz8:=@List.getElem?_eq_some_iff
def BA0:=@List.cons_append
def BA2:=@List.length_cons
def BA3:=@List.map_cons
def BA6:=@Nat.mul_le_mul_right
def BA8:=@Array.getElem?_eq_getElem
def BB0:=@Nat.lt_of_lt_of_le
def BB1:=@List.length_drop
def BB6:=@Option.map_eq_some_iff
def BC3:=@List.length_singleton
def BC5:=@Ne.symm
def BC6:=@Array.length_toList
def BC8:=@Go.World.cell?_of_block
def BC9:=@Array.getElem?_toList
def BD0:=@List.getElem?_eq_none
def BD2:=@List.length_map
def BD6:=@List.cons.injEq
def BD9:=@Nat.le_trans
def BE1:=@Nat.zero_add
def BE2:=@List.getElem_of_mem
def BE3:=@List.length_take
def BE8:=@Go.Addr.add_lit
def BE9:=@List.map_nil
def BF4:=@Go.World.block_lt_of_cell?
def BF6:=@List.getElem?_drop
def BF9:=@List.size_toArray
def BG2:=@Nat.add_zero
def BG3:=@Nat.mod_eq_of_lt
def BG4:=@Array.size_eq_zero_iff
def BG6:=@Nat.zero_le
def BG9:=@Nat.mul_comm
def BH1:=@List.getElem?_take
def BH5:=@Nat.mul_one
def BI2:=@List.all_map
def BI7:=@Nat.min_eq_left
def BJ8:=@Array.getElem?_extract
def BK0:=@Nat.mul_add_mod
def BK4:=@Nat.add_assoc
def BK9:=@Nat.div_eq_of_lt
def BL1:=@Iff.rfl
def BL2:=@List.getD_cons_zero
def BL3:=@Nat.succ_mul
def BL9:=@List.take_of_length_le
def BN6:=@List.ext_getElem?
def BO2:=@ByteArray.ext
def BP5:=@Nat.mul_add_div
def BP8:=@Nat.mod_lt
def BP9:=@List.getElem?_append
def BQ0:=@Nat.div_lt_of_lt_mul
def BQ1:=@List.getElem?_of_mem
def BQ4:=@List.getElem?_range
inductive PV where
 |v (x:Value)
 |bb (b:Bool)
 |str (l:List UInt8)
 |agg (cs:List PV)
 |sl (nn:Bool) (k n:Nat) (f:Nat->List PV)
 |ptr (cs:List PV)
 |iface (t:TypeId) (a:PV)
 |fn (f:FuncId) (first caps:List PV)
 deriving Inhabited
inductive AV where
 |p (x:PV)
 |reg (j off:Nat)
 |vec (j:Nat)
 |vecp (j n:Nat)
 |elt (j k i off:Nat)
 |Se (j:Nat)
 |clo (f:FuncId) (first caps:List AV)
 |tup (l:List AV)
 |agr (cs:List AV)
 |yf (j:Nat)
 |rsl (j n:Nat)
 |top
 deriving Inhabited
abbrev Env:=List (Nat×AV)
inductive Obj where
 |cells (cs:List AV)
 |vec (e:TypeId) (k n:Nat) (f:Nat->List PV) (viewed:Bool)
 |map (es:List (PV×PV))
 |arr (n:Nat) (f:Nat->PV)
 |blk (l:List Nat) (jr:Nat)
 |ghost (cs:List AV)
 |yld (rest:List (List PV)) (live:Bool)
 |fam (e:TypeId) (n jr:Nat) (x:Option (Nat×AV))
 |rows (n:Nat) (g:Nat->Obj)
 |dead
 deriving Inhabited
abbrev C5:=List (Nat×Obj)
def DL (n:Nat)(f:Nat->PV):List PV:=(List.range n).map f
def get:Env->Nat->AV
 |[],_=>.top
 |(k,a)::r,t=>if k=t then a else get r t
def A1:C5->Nat->Option Obj
 |[],_=>none
 |(k,o)::r,j=>if k=j then some o else A1 r j
def ins {α : Type}(k:Nat)(a : α):List (Nat × α)->List (Nat × α)
 |[]=>[(k,a)]
 |(i,b)::r=>if i<k then (k,a)::(i,b)::r else if i=k then (k,a)::r else (i,b)::ins k a r
def del {α : Type}(k:Nat):List (Nat × α)->List (Nat × α)
 |[]=>[]
 |(i,b)::r=>if i=k then r else (i,b)::del k r
structure St where
 env:Env
 Qw:C5
 deriving Inhabited
def MR:Value->PV
 |.string s=>.str s.data.toList
 |x=>.v x
abbrev AV.int (k:IntKind)(n:Int):AV:=.p (.v (.int k n))
abbrev AV.bool (b:Bool):AV:=.p (.bb b)
def nP:PV->PV
 |.v (.bool b)=>.bb b
 |x=>x
inductive TK where
 |int (k:IntKind)|bool|str
 |slice (e:TypeId)|map (k e:TypeId)|arr (n:Nat) (e:TypeId)
 |struct (fs:List (Nat×TypeId))|ptr (e:TypeId)|iface (n:Nat)|other
 deriving Inhabited,DecidableEq
section
variable (P:Program)
def WC:TypeDesc->TK
 |.int k=>.int k
 |.bool=>.bool
 |.string=>.str
 |.slice e=>.slice e
 |.map k e=>.map k e
 |.array n e=>.arr n e
 |.struct fs=>.struct (fs.toList.map λf=>(f.offset,f.type))
 |.pointer e=>.ptr e
 |.interface ms=>.iface ms.size
 |_=>.other
def tk (t:TypeId):Option TK:=(P.underlying t).map WC
def tsz (t:TypeId):Option Nat:=(P.info? t).map (·.size)
def DZ (t:TypeId):Nat:=P.bytesOf t
def Zh:TK->Bool
 |.struct _ | .arr _ _=>true
 |_=>false
def MS (t:TypeId):Option (List PV):=((P.info? t).bind (·.zero)).map λv=>v.cells.toList.map MR
end
def pvK:Value->PV
 |.agg cs=>if cs.all (λc=>c.oneCell') then .agg (cs.toList.map MR)else .v (.agg cs)
 |x=>MR x
def aev (env:Env):Operand->AV
 |.tmp t=>get env t
 |.const v=>.p (pvK v)
 |.func f=>.clo f [] []
 |.global _=>.top
def nid (d i:Nat):Nat:=1000*(d+1)+i
def Wy:List AV->Option (List PV)
 |[]=>some []
 |.p x::r=>match Wy r with|some l=>some (x::l)|none=>none
 |_::_=>none
def mkAgg (cs:List AV):AV:=match Wy cs with|some l=>.p (.agg l)|none=>.agr cs
def cellsOf:AV->List AV
 |.p (.agg cs)=>cs.map .p
 |.agr cs=>cs
 |.p x=>[.p (nP x)]
 |a=>[a]
def Ca:PV->List PV
 |.agg cs=>cs
 |x=>[nP x]
def JM:PV->Bool
 |.agg _ | .v (.agg _) | .v (.tuple _)=>false
 |_=>true
def Ay8:AV->Bool
 |.p x=>JM x
 |.tup _ | .agr _ | .top=>false
 |_=>true
def Dd:AV->Bool
 |.p (.agg _) | .agr _=>true
 |a=>Ay8 a
def Pk:PV->Bool
 |.agg _=>true
 |x=>JM x
def splice {α : Type}(cs:List α)(off:Nat)(new:List α):List α:=cs.take off++new++cs.drop (off+new.length)
def Ao7:List AV->Option (List PV)
 |[]=>some []
 |.p x::r=>match Ao7 r with
  |some l=>some (x::l)
  |none=>none
 |.clo f [] []::r=>match Ao7 r with
  |some l=>some (.v (.func (.func f) #[] #[])::l)
  |none=>none
 |_=>none
def DO (Qw:C5):AV->Option (PV×C5)
 |.p x=>some (nP x,Qw)
 |.vec j=>match A1 Qw j with
  |some (.vec e k n f _)=>some (.sl false k n f,ins j (.vec e k n f true) Qw)
  |_=>none
 |.vecp j m=>match A1 Qw j with
  |some (.vec e k n f _)=>some (.sl false k (min m n) f,ins j (.vec e k n f true) Qw)
  |_=>none
 |.clo f [] []=>some (.v (.func (.func f) #[] #[]),Qw)
 |.clo f a b=>match Wy a,Wy b with
  |some a,some b=>some (.fn f a b,Qw)
  |_,_=>none
 |.agr cs=>match Ao7 cs with
  |some l=>some (.agg l,Qw)
  |none=>none
 |_=>none
def Gk (Qw:C5):List AV->Option (List PV×C5)
 |[]=>some ([],Qw)
 |a::r=>match DO Qw a with
  |some (x,Qw)=>match Gk Qw r with
   |some (l,Qw)=>some (x::l,Qw)
   |none=>none
  |none=>none
structure Out where
 cond:List Prop
 val:AV
 Qw:C5
def G6 (op:BinOp)(k:IntKind)(x y:Int):Int:=
 let a:=BitVec.ofInt k.bits x
 let b:=BitVec.ofInt k.bits y
 k.wrap (match op with | .and=>a &&& b | .or=>a ||| b | .xor=>a ^^^ b|_=>a &&& ~~~b).toNat
def shI (op:BinOp)(k:IntKind)(x y:Int):Int:=
 match op with
 |.shl=>k.wrap (x*2 ^ (min y.toNat k.bits))
 |_=>x.fdiv (2 ^ (min y.toNat k.bits))
def WD:PV->Option Bool
 |.bb b=>some b
 |.v (.bool b)=>some b
 |_=>none
def Zm:TK->PV->PV->Option Bool
 |.int _,.v (.int k a),.v (.int l b)=>if k=l then some (a==b)else none
 |.bool,x,y=>match WD x,WD y with
  |some a,some b=>some (a==b)
  |_,_=>none
 |.str,.str a,.str b=>some (a==b)
 |_,_,_=>none
def Ab:List TK->List PV->List PV->Option Bool
 |[],[],[]=>some true
 |k::ks,x::a,y::b=>match ks with
  |[]=>match a,b with
   |[],[]=>Zm k x y
   |_,_=>none
  |_=>match Zm k x y,Ab ks a b with
   |some p,some q=>some (p&&q)
   |_,_=>none
 |_,_,_=>none
def AM9:AV->Option Bool
 |.p (.v (.pointer none)) | .p (.v (.slice none 0 0)) | .p (.v (.map none)) | .p (.v .nilFunc) | .p (.v .nilIface)=>some true
 |.p (.ptr _) | .p (.iface _ _) | .p (.fn _ _ _) | .reg _ _ | .clo _ _ _ | .elt _ _ _ _ | .Se _ | .yf _=>some false
 |.p (.sl true _ _ _)=>some false
 |_=>none
def WE (op:BinOp)(k:IntKind)(a b:Int):List Prop×PV:=
 match op with
 |.add=>([],.v (.int k (k.wrap (a+b))))
 |.sub=>([],.v (.int k (k.wrap (a-b))))
 |.mul=>([],.v (.int k (k.wrap (a*b))))
 |.quo=>([b≠0],.v (.int k (k.wrap (a.tdiv b))))
 |.rem=>([b≠0],.v (.int k (a.tmod b)))
 |.eql=>([],.bb (a==b))
 |.neq=>([],.bb (a != b))
 |.lss=>([],.bb (decide (a<b)))
 |.leq=>([],.bb (decide (a<=b)))
 |.gtr=>([],.bb (decide (b<a)))
 |.geq=>([],.bb (decide (b<=a)))
 |.and=>([],.v (.int k (G6 .and k a b)))
 |.or=>([],.v (.int k (G6 .or k a b)))
 |.xor=>([],.v (.int k (G6 .xor k a b)))
 |.andNot=>([],.v (.int k (G6 .andNot k a b)))
 |.shl=>([0<=b],.v (.int k (shI .shl k a b)))
 |.shr=>([0<=b],.v (.int k (shI .shr k a b)))
def Bc5 (rec:TypeId->Option (List TK)):List Field->Nat->Option (List TK)
 |[],_=>some []
 |f::fs,off=>if f.offset≠off then none else match rec f.type with
  |some a=>match Bc5 rec fs (off+a.length)with
   |some b=>some (a++b)
   |none=>none
  |none=>none
def lay (P:Program):Nat->TypeId->Option (List TK)
 |0,_=>none
 |n+1,t=>match P.underlying t with
  |some (.int k)=>some [.int k]
  |some .bool=>some [.bool]
  |some .string=>some [.str]
  |some (.struct fs)=>match Bc5 (lay P n) fs.toList 0 with
   |some l=>if tsz P t=some l.length then some l else none
   |none=>none
  |_=>none
def Ay9 (P:Program):Nat->TypeId->Bool
 |0,_=>false
 |n+1,t=>match P.underlying t with
  |some (.struct fs)=>!P.stoodInHeld t&&fs.toList.all λf=>decide (f.name ≠ "_")&&Ay9 P n f.type
  |_=>true
def RF (P:Program)(t:TypeId):Bool:=Ay9 P 10 t && !P.eqGuardType P.depth t
def AX9:TK->Bool
 |.int _=>true
 |.bool=>true
 |.str=>true
 |_=>false
def WF (P:Program)(t:TypeId)(a b:PV):Option Bool:=
 match tk P t with
 |some (.arr n e)=>match tk P e,a,b with
  |some k,.agg xs,.agg ys=>if AX9 k=true/\tsz P e=some 1 then Ab (List.replicate n k) xs ys else none
  |_,_,_=>none
 |_=>none
def Ic (P:Program)(t:TypeId)(a b:PV):Option Bool:=
 match tk P t with
 |some (.struct _)=>match lay P 10 t,a,b with
  |some ks,.agg xs,.agg ys=>Ab ks xs ys
  |_,_,_=>none
 |some (.arr _ _)=>WF P t a b
 |some k=>Zm k a b
 |none=>none
def HI (P:Program)(t:TypeId):List Prop:=
 match tk P t with
 |some (.struct _)=>[RF P t=true]
 |some (.arr _ _)=>[(!P.eqGuardType P.depth t)=true]
 |_=>[]
def Bc6 (P:Program)(t:TypeId)(x y:AV):Option Bool:=
 match P.underlying t with
 |some (.pointer _)=>match x,y with
  |.p (.v (.pointer none)),.p (.v (.pointer none))=>some true
  |.p (.v (.pointer none)),.p (.ptr _) | .p (.v (.pointer none)),.reg _ _ | .p (.v (.pointer none)),.elt _ _ _ _=>some false
  |.p (.ptr _),.p (.v (.pointer none)) | .reg _ _,.p (.v (.pointer none)) | .elt _ _ _ _,.p (.v (.pointer none))=>some false
  |_,_=>none
 |some (.slice _)=>match x,y with
  |.p (.v (.slice none 0 0)),.p (.v (.slice none 0 0))=>some true
  |.p (.sl true _ _ _),.p (.v (.slice none 0 0))=>some false
  |_,_=>none
 |some (.map _ _)=>match x,y with
  |.p (.v (.map none)),.p (.v (.map none))=>some true
  |.Se _,.p (.v (.map none))=>some false
  |_,_=>none
 |some (.func _ _ _)=>match x,y with
  |.p (.v .nilFunc),.p (.v .nilFunc)=>some true
  |.clo _ _ _,.p (.v .nilFunc)=>some false
  |_,_=>none
 |some (.interface _)=>match x,y with
  |.p (.iface _ _),.p (.v .nilIface)=>some false
  |_,_=>none
 |_=>none
def eqA (P:Program)(t:TypeId)(x y:AV)(neg:Bool):Option (List Prop×PV):=
 match (match x,y with
  |.p a,.p b=>Ic P t a b
  |_,_=>none:Option Bool)with
 |some r=>some (HI P t,.bb (r != neg))
 |none=>match (match x,y with
  |.p a,.p b=>WF P t a b
  |_,_=>none:Option Bool)with
  |some r=>some ([(!P.eqGuardType P.depth t)=true],.bb (r != neg))
  |none=>match Bc6 P t x y with
   |some b=>some ([],.v (.bool (b != neg)))
   |none=>none
def bin (P:Program)(op:BinOp)(t:TypeId)(x y:AV):Option (List Prop×PV):=
 match x,y with
 |.p (.v (.int k a)),.p (.v (.int l b))=>
  match op with
  |.shl | .shr=>some (WE op k a b)
  |op=>if k=l then some (WE op k a b)else none
 |x,y=>match op with
  |.add=>match x,y with
   |.p (.str a),.p (.str b)=>some ([((a.length+b.length:Nat):Int)<=9223372036854775807],.str (a++b))
   |_,_=>none
  |.eql=>eqA P t x y false
  |.neq=>eqA P t x y true
  |_=>none
def LC:AV:=.p (.v (.tuple #[]))
def un (op:UnOp)(x:AV):Option PV:=
 match op,x with
 |.not,.p (.v (.bool b))=>some (.v (.bool !b))
 |.not,.p (.bb b)=>some (.bb !b)
 |.neg,.p (.v (.int k n))=>some (.v (.int k (k.wrap (0-n))))
 |.xor,.p (.v (.int k n))=>some (.v (.int k (G6 .xor k (if k.signed then -1 else k.max) n)))
 |_,_=>none
def asInt:AV->Option Int
 |.p (.v (.int _ n))=>some n
 |_=>none
def AY0:AV->Bool
 |.p (.str _)=>false
 |_=>true
def srcK:TK->Bool
 |.slice _ | .str=>true
 |_=>false
def elems (Qw:C5)(k:Nat):AV->Option (Nat×(Nat->List PV))
 |.p (.v (.slice none 0 0))=>some (0,λ_=>[])
 |.p (.sl _ m n f)=>if m=k then some (n,f)else none
 |.p (.str l)=>if k=1 then some (l.length,λi=>[.v (.int .u8 ((l.getD i 0).toNat:Nat))])else none
 |.vec j=>match A1 Qw j with
  |some (.vec _ m n f _)=>if m=k then some (n,f)else none
  |_=>none
 |.vecp j i=>match A1 Qw j with
  |some (.vec _ m n f _)=>if m=k then some (min i n,f)else none
  |_=>none
 |_=>none
def Up (Qw:C5)(e:TypeId)(k:Nat):AV->Option (Nat×(Nat->List PV)×Bool×C5)
 |.p (.v (.slice none 0 0))=>some (0,λ_=>[],false,Qw)
 |.vec j=>match A1 Qw j with
  |some (.vec e' m n f vw)=>if e' = e/\m=k then some (n,f,vw,ins j .dead Qw)else none
  |_=>none
 |.vecp j i=>match A1 Qw j with
  |some (.vec e' m n f false)=>if e' = e/\m=k then some (min i n,f,false,ins j .dead Qw)else none
  |_=>none
 |_=>none
def LD (Qw:C5)(e:TypeId)(m d bytes:Nat):AV->AV->Option (List Prop×AV×C5)
 |.vec j,.vec l=>match A1 Qw (nid d 0),A1 Qw j,A1 Qw l with
  |none,some (.fam e1 n jr none),some (.fam e2 1 jz (some (0,a)))=>if ((e1=e/\e2=e)/\m=1/\0<bytes)/\j≠l then
   some ([(n+1)*bytes<=140737488355328/\n+1<=140737488355328],.vec (nid d 0),ins (nid d 0) (.fam e (n+1) jr (some (n,a))) (ins l .dead (ins j .dead Qw)))else none
  |_,_,_=>none
 |_,_=>none
def famB (P:Program)(e:TypeId)(z:List PV)(m:Nat):Nat:=match z.length==m with|true=>DZ P e|false=>0
def Bn1:C5->Option Nat
 |[]=>none
 |(j,.rows _ _)::_=>some j
 |_::r=>Bn1 r
def JW (Qw:C5)(n:Nat):List (Nat×AV)->Option (Nat×Nat)
 |[(0,.vec j)]=>match A1 Qw j,Bn1 Qw with
  |some (.vec _ _ _ _ false),some jz=>match A1 Qw jz with
   |some (.rows _ _)=>if n=1 then some (jz,j)else none
   |_=>none
  |_,_=>none
 |_=>none
def LE (n:Nat):List (Nat×AV)->Option (List AV)
 |[(0,.reg j o),(1,.reg i q)]=>if n=2 then some [.reg j o,.reg i q]else none
 |_=>none
def Ey (n:Nat)(f g:Nat->List PV)(i:Nat):List PV:=if i<n then f i else g (i-n)
def find (cmp:PV->PV->Option Bool)(k:PV):List (PV×PV)->Option (Option PV)
 |[]=>some none
 |(a,x)::r=>match cmp k a with
  |some true=>some (some x)
  |some false=>find cmp k r
  |none=>none
def upd (cmp:PV->PV->Option Bool)(k x:PV):List (PV×PV)->Option (List (PV×PV))
 |[]=>some [(k,x)]
 |(a,y)::r=>match cmp k a with
  |some true=>some ((k,x)::r)
  |some false=>(upd cmp k x r).map ((a,y) :: ·)
  |none=>none
def Ft (cmp:PV->PV->Option Bool)(k:PV):List (PV×PV)->Option (Option Nat)
 |[]=>some none
 |(a,_)::r=>match cmp k a with
  |some true=>some (some 0)
  |some false=>(Ft cmp k r).map λq=>q.map (· + 1)
  |none=>none
def ent (k z:PV)(es:List (PV×PV)):Option Nat->Nat×PV×List (PV×PV)
 |none=>(es.length,z,es++[(k,z)])
 |some j=>(j,(es.getD j default).2,es.set j (k,(es.getD j default).2))
def Bc7 (es:List (PV×PV))(i:Nat)(y:PV):List (PV×PV):=es.set i ((es.getD i default).1,y)
def Il:List PV->Option UInt8
 |[.v (.int .u8 n)]=>some (UInt8.ofNat n.toNat)
 |_=>none
def NE (env:Env)(place:Nat->Option (Nat×Nat)):List (Nat×Operand)->List AV->Option (List AV)
 |[],cs=>some cs
 |(i,x)::r,cs=>
  match Dd (aev env x),place i with
  |true,some (off,m)=>if (cellsOf (aev env x)).length=m/\off+m<=cs.length then NE env place r (splice cs off (cellsOf (aev env x)))else none
  |_,_=>none
section
variable (P:Program)
def Uq (t:TypeId)(ps:List PV):Obj:=match tk P t with
 |some (.arr n _)=>if 8<=n/\ps.length=n then .arr n (λi=>(ps.map nP).getD i default)else .cells (ps.map .p)
 |_=>.cells (ps.map .p)
def NF (t:TypeId)(a:AV):Obj:=match a with
 |.p (.agg ps)=>Uq P t ps
 |a=>.cells (cellsOf a)
def ldA (t:TypeId)(cs:List AV):Option AV:=
 match tk P t,tsz P t with
 |some k,some n=>match Zh k with
  |true=>if n<=cs.length then some (mkAgg (cs.take n))else none
  |false=>cs.head?
 |_,_=>none
def ldP (t:TypeId)(cs:List PV):Option (List Prop×AV):=
 match tk P t,tsz P t with
 |some k,some n=>match Zh k with
  |true=>some ([n<=cs.length],.p (.agg (cs.take n)))
  |false=>match cs with
   |c::_=>some ([],.p c)
   |[]=>none
 |_,_=>none
def HJ (t:TypeId):Option PV:=
 match (P.info? t).bind (·.zero)with
 |some v=>match v with
  |.agg cs=>if (cs.toList.map MR).all JM then some (.agg (cs.toList.map MR))else none
  |v=>some (MR v)
 |none=>none
def Bl6 (j u jr:Nat):List AV:=[if u=0 then .p (.v (.pointer none))else .reg j 0,.vec jr]
def load (Qw:C5)(t:TypeId):AV->Option (List Prop×AV)
 |.reg j off=>match A1 Qw j with
  |some (.cells cs)=>match ldA P t (cs.drop off)with
   |some a=>some ([],a)
   |none=>none
  |some (.arr n f)=>match tk P t,tsz P t with
   |some k,some m=>match Zh k with
    |true=>if m=n/\off=0 then some ([],.p (.agg (DL n f)))else none
    |false=>some ([off<n],.p (f off))
   |_,_=>none
  |some (.blk (0::_::u::_) jr)=>match ldA P t ((Bl6 j u jr).drop off)with
   |some a=>some ([],a)
   |none=>none
  |_=>none
 |.p (.ptr cs)=>ldP P t cs
 |.elt j k i off=>match A1 Qw j with
  |some (.vec _ m n f _)=>if k=m then match ldP P t ((f i).drop off)with
   |some (c,a)=>some ((i<n)::c,a)
   |none=>none else none
  |some (.fam _ n _ (some (i0,x)))=>match tk P t with
   |some q=>if Zh q=false/\k=1/\off=0 then some ([i<n/\i=i0],x)else none
   |none=>none
  |_=>none
 |_=>none
def store (Qw:C5)(t:TypeId)(a x:AV):Option (List Prop×C5):=
 match tsz P t,Dd x with
 |some m,true=>match a with
  |.reg j off=>match A1 Qw j with
   |some (.cells cs)=>if (cellsOf x).length=m/\off+m<=cs.length then some ([],ins j (.cells (splice cs off (cellsOf x))) Qw)else none
   |some (.arr n f)=>match x with
    |.p (.agg ps)=>if m=n then some ([off=0/\ps.length=n],ins j (.arr n (λi=>ps.getD i default)) Qw)else none
    |.p y=>if m=1 then some ([off<n],ins j (.arr n (λi=>if i=off then nP y else f i)) Qw)else none
    |_=>none
   |some (.blk (0::T::u::l) _)=>match x with
    |.vec jr=>if (m=1/\off=1)/\j≠jr then some ([],ins j (.blk (0::T::u::l) jr) Qw)else none
    |_=>none
   |_=>none
  |.elt j k i off=>match A1 Qw j,x with
   |some (.vec e k' n f false),.p x=>if k=k' then some ([(Ca x).length=m/\i<n/\off+m<=k],ins j (.vec e k' n (λl=>if l=i then splice (f l) off (Ca x)else f l) false) Qw)else none
   |some (.fam e n jr (some (i0,_))),x=>match cellsOf x with
    |[y]=>if m=1/\k=1/\off=0 then some ([i<n/\i=i0],ins j (.fam e n jr (some (i0,y))) Qw)else none
    |_=>none
   |_,_=>none
  |_=>none
 |_,_=>none
def AY1 (t:TypeId)(f:Nat)(x:AV):Option AV:=
 match tk P t with
 |some (.struct fs)=>match fs[f]? with
  |some (off,ft)=>match tsz P ft with
   |some 0=>none
   |some _=>match x with
    |.reg j o=>some (.reg j (o+off))
    |.elt j k i o=>some (.elt j k i (o+off))
    |.p (.ptr cs)=>some (.p (.ptr (cs.drop off)))
    |_=>none
   |none=>none
  |none=>none
 |_=>none
def AY2 (t:TypeId)(f:Nat)(x:AV):Option (List Prop×AV):=
 match tk P t,x with
 |some (.struct fs),.p (.agg cs)=>match fs[f]? with
  |some (off,ft)=>ldP P ft (cs.drop off)
  |none=>none
 |some (.struct fs),.agr cs=>match fs[f]? with
  |some (off,ft)=>match ldA P ft (cs.drop off)with
   |some a=>some ([],a)
   |none=>none
  |none=>none
 |_,_=>none
def Gl (Qw:C5)(t:TypeId)(x:AV)(i:Int):Option (List Prop×AV):=
 match tk P t,x with
 |some (.arr n e),.reg j o=>match tsz P e with
  |some m=>some ([0<=i/\i<n],.reg j (o+i.toNat*m))
  |none=>none
 |some (.arr n e),.p (.ptr cs)=>match tsz P e with
  |some m=>some ([0<=i/\i<n],.p (.ptr (cs.drop (i.toNat*m))))
  |none=>none
 |some (.slice e),.p (.sl _ k n f)=>if tsz P e=some k then some ([0<=i/\i<n],.p (.ptr (f i.toNat)))else none
 |some (.slice e),.vec j=>match A1 Qw j with
  |some (.vec _ k n _ _)=>if tsz P e=some k then some ([0<=i/\i<n],.elt j k i.toNat 0)else none
  |some (.fam _ n _ _)=>if tsz P e=some 1 then some ([0<=i/\i<n],.elt j 1 i.toNat 0)else none
  |_=>none
 |some (.slice e),.vecp j m=>match A1 Qw j with
  |some (.vec _ k n _ _)=>if tsz P e=some k then some ([0<=i/\i<m/\m<=n],.elt j k i.toNat 0)else none
  |_=>none
 |some (.slice e),.rsl j n=>if tsz P e=some 1 then some ([0<=i/\i<n],.reg j i.toNat)else none
 |_,_=>none
def Ah7:List PV->Option (List (List UInt8))
 |[]=>some []
 |.str s::r=>match Ah7 r with
  |some l=>some (s::l)
  |none=>none
 |_=>none
def AY3 (t:TypeId)(x:AV)(i:Int):Option (List Prop×AV):=
 match tk P t,x with
 |some .str,.p (.str l)=>some ([0<=i/\i<l.length],.int .u8 ((l.getD i.toNat 0).toNat:Nat))
 |some (.arr n e),.p (.agg cs)=>match tk P e,Ah7 cs with
  |some .str,some ss=>if ss.length=n/\tsz P e=some 1 then some ([0<=i/\i<n],.p (.str (ss.getD i.toNat [])))else none
  |_,_=>match tsz P e with
   |some m=>match ldP P e (cs.drop (i.toNat*m))with
    |some (c,a)=>some ((0<=i/\i<n)::c,a)
    |none=>none
   |none=>none
 |_,_=>none
def Gm (Qw:C5)(t:TypeId)(x:AV)(lo c:Option Int):Option (List Prop×AV×C5):=
 match tk P t,x with
 |some .str,.p (.str l)=>
  match lo,c with
  |none,none=>some ([],.p (.str l),Qw)
  |some a,none=>some ([0<=a/\a<=l.length],.p (.str (l.drop a.toNat)),Qw)
  |none,some b=>some ([0<=b/\b<=l.length],.p (.str (l.take b.toNat)),Qw)
  |some a,some b=>some ([0<=a/\a<=b/\b<=l.length],.p (.str ((l.take b.toNat).drop a.toNat)),Qw)
 |some (.slice e),.p (.sl nn k n f)=>
  if tsz P e=some k then
   match lo,c with
   |none,none=>some ([],.p (.sl nn k n f),Qw)
   |some a,none=>some ([0<=a/\a<=n],.p (.sl nn k (n-a.toNat) (λi=>f (a.toNat+i))),Qw)
   |none,some b=>some ([0<=b/\b<=n],.p (.sl nn k b.toNat f),Qw)
   |some a,some b=>some ([0<=a/\a<=b/\b<=n],.p (.sl nn k (b.toNat-a.toNat) (λi=>f (a.toNat+i))),Qw)
  else none
 |some (.slice e),.p (.v (.slice none 0 0))=>match tsz P e with
  |some _=>some ([lo.getD 0=0/\c.getD 0=0],.p (.v (.slice none 0 0)),Qw)
  |none=>none
 |some (.arr n e),.p (.ptr cs)=>
  match lo,c with
  |none,some b=>if tsz P e=some 1/\cs.length=n then some ([0<=b/\b<=n],.p (.sl true 1 b.toNat (λi=>[cs.getD i default])),Qw)else none
  |none,none=>if tsz P e=some 1/\cs.length=n then some ([],.p (.sl true 1 n (λi=>[cs.getD i default])),Qw)else none
  |_,_=>none
 |some (.slice e),.vec j=>match A1 Qw j with
  |some (.vec e' k n f _)=>if tsz P e=some k/\e' = e then
   match lo,c with
   |none,none=>some ([],.vec j,Qw)
   |none,some b=>some ([0<=b/\b<=n],.vecp j b.toNat,Qw)
   |some a,none=>some ([0<=a/\a<=n],.p (.sl false k (n-a.toNat) (λi=>f (a.toNat+i))),ins j (.vec e k n f true) Qw)
   |some a,some b=>some ([0<=a/\a<=b/\b<=n],.p (.sl false k (b.toNat-a.toNat) (λi=>f (a.toNat+i))),ins j (.vec e k n f true) Qw)
   else none
  |_=>none
 |_,_=>none
def Ay0 (Qw:C5)(t:TypeId)(x:AV):Option Int:=
 match tk P t,x with
 |some .str,.p (.str l)=>some l.length
 |some (.slice _),.p (.sl _ _ n _)=>some n
 |some (.slice _),.p (.v (.slice none 0 0))=>some 0
 |some (.map _ _),.p (.v (.map none))=>some 0
 |some (.slice _),.vec j=>match A1 Qw j with
  |some (.vec _ _ n _ _)=>some n
  |some (.fam _ n _ _)=>some n
  |_=>none
 |some (.slice _),.vecp _ n=>some n
 |some (.slice _),.rsl _ n=>some n
 |some (.map _ _),.Se j=>match A1 Qw j with
  |some (.map es)=>some es.length
  |_=>none
 |some (.arr n _),_=>some n
 |_,_=>none
def Bn2:TK->Bool
 |.int _ | .bool | .str=>true
 |_=>false
def Gn (t:TypeId)(k:PV):Bool:=
 match tk P t with
 |some (.struct _)=>match lay P 10 t,k with
  |some ks,.agg cs=>cs.length==ks.length
  |_,_=>false
 |some (.arr n e)=>match tk P e,k with
  |some ek,.agg cs=>cs.length==n&&Bn2 ek&&tsz P e==some 1
  |_,_=>false
 |some k=>Bn2 k
 |none=>false
def EG (Qw:C5)(t:TypeId)(m:AV)(k:PV)(ok:Bool):Option (List Prop×AV):=
 match tk P t with
 |some (.map kt e)=>
  match (match Gn P kt k,m with
   |true,.p (.v (.map none))=>some none
   |true,.Se j=>match A1 Qw j with
    |some (.map es)=>find (Ic P kt) k es
    |_=>none
   |_,_=>none:Option (Option PV))with
  |some (some x)=>some (HI P kt,if ok then .tup [.p x,.bool true]else .p x)
  |some none=>match HJ P e with
   |some z=>some (HI P kt,if ok then .tup [.p z,.bool false]else .p z)
   |none=>none
  |none=>none
 |_=>none
def SY (t:TypeId)(i:Nat):Option (Nat×Nat):=
 match tk P t with
 |some (.struct fs)=>match fs[i]? with
  |some (off,ft)=>match tsz P ft with
   |some m=>some (off,m)
   |none=>none
  |none=>none
 |some (.arr _ e)=>match tsz P e with
  |some m=>some (i*m,m)
  |none=>none
 |_=>none
def Az0 (t:TypeId):Bool:=match tk P t with
 |some (.struct fs)=>fs.all λf=>(tsz P f.2).isSome
 |some (.arr _ e)=>(tsz P e).isSome
 |_=>false
def H0 (zero:List PV):List (Nat×List PV)->Nat->List PV
 |[],_=>zero
 |(j,x)::r,i=>if i=j then x else H0 zero r i
def GR (n k:Nat):List Nat->List PV->Bool
 |[],_=>true
 |i::r,x::l=>decide (i<n)&&(Pk x&&((Ca x).length==k))&&(!r.contains i&&GR n k r l)
 |_::_,[]=>false
def aop (env:Env)(Qw:C5)(d:Nat)(o:Op):Option Out:=
 match o with
 |.move x=>some ⟨[],aev env x,Qw⟩
 |.assign x=>some ⟨[],aev env x,Qw⟩
 |.pick c a b=>match aev env c with
  |.p (.v (.bool true))=>some ⟨[],aev env a,Qw⟩
  |.p (.v (.bool false))=>some ⟨[],aev env b,Qw⟩
  |.p (.bb true)=>some ⟨[],aev env a,Qw⟩
  |.p (.bb false)=>some ⟨[],aev env b,Qw⟩
  |_=>none
 |.alloc t=>match A1 Qw (nid d 0),MS P t with
  |none,some z=>if z.all JM then some ⟨[],.reg (nid d 0) 0,ins (nid d 0) (Uq P t z) Qw⟩else none
  |_,_=>none
 |.box t x=>match A1 Qw (nid d 0),Dd (aev env x)with
  |none,true=>some ⟨[],.reg (nid d 0) 0,ins (nid d 0) (NF P t (aev env x)) Qw⟩
  |_,_=>none
 |.build t parts=>match MS P t with
  |some z=>match z.all JM&&Az0 P t,NE env (SY P t) parts.toList (z.map .p)with
   |true,some cs=>some ⟨[],mkAgg cs,Qw⟩
   |_,_=>none
  |none=>none
 |.buildSlice t n parts=>match JW Qw n (parts.toList.map λq=>(q.1,aev env q.2))with
  |some (jz,j)=>match tk P t,A1 Qw (nid d 0)with
   |some (.slice e),none=>match tsz P e,MS P e with
    |some 1,some z=>if z.length=1/\z.all JM then some ⟨[],.vec (nid d 0),ins (nid d 0) (.fam e 1 jz (some (0,.vec j))) Qw⟩else none
    |_,_=>none
   |_,_=>none
  |none=>match LE n (parts.toList.map λq=>(q.1,aev env q.2))with
  |some cs=>match tk P t,A1 Qw (nid d 0)with
   |some (.slice e),none=>match tsz P e,MS P e with
    |some 1,some z=>if z.length=1 then some ⟨[],.rsl (nid d 0) 2,ins (nid d 0) (.cells cs) Qw⟩else none
    |_,_=>none
   |_,_=>none
  |none=>match tk P t,A1 Qw (nid d 0)with
  |some (.slice e),none=>match Gk Qw (parts.toList.map λq=>aev env q.2),tsz P e,MS P e with
   |some (l,Qw),some m,some z=>if (n*m<=16777216/\n<=16777216)/\z.length=m/\z.all JM then
    some ⟨[GR n m (parts.toList.map (·.1)) l=true],.vec (nid d 0),ins (nid d 0) (.vec e m n (H0 z ((parts.toList.map (·.1)).zip (l.map Ca))) false) Qw⟩
    else none
   |_,_,_=>none
  |_,_=>none
 |.load t a=>match load P Qw t (aev env a)with
  |some (c,a)=>some ⟨c,a,Qw⟩
  |none=>none
 |.store t a x=>match store P Qw t (aev env a) (aev env x)with
  |some (c,Qw)=>some ⟨c,LC,Qw⟩
  |none=>none
 |.nilCheck x=>match AM9 (aev env x)with
  |some false=>some ⟨[],aev env x,Qw⟩
  |_=>none
 |.binOp op t x y _=>match bin P op t (aev env x) (aev env y)with
  |some (c,r)=>some ⟨c,.p r,Qw⟩
  |none=>none
 |.unOp op _ x=>match un op (aev env x)with
  |some r=>some ⟨[],.p r,Qw⟩
  |none=>none
 |.convert s t x=>match tk P s,tk P t with
  |some (.int _),some (.int k)=>match aev env x with
   |.p (.v (.int _ n))=>some ⟨[],.int k (k.wrap n),Qw⟩
   |_=>none
  |some .str,some .str=>match aev env x with
   |.p (.str l)=>some ⟨[],.p (.str l),Qw⟩
   |_=>none
  |some .str,some (.slice e)=>match aev env x,tk P e with
   |.p (.str l),some (.int .u8)=>some ⟨[],.p (.sl true 1 l.length (λi=>[.v (.int .u8 ((l.getD i 0).toNat:Nat))])),Qw⟩
   |_,_=>none
  |some (.slice e),some .str=>if tk P e=some (.int .u8)then
   match AY0 (aev env x),elems Qw 1 (aev env x)with
   |true,some (n,f)=>some ⟨[∀i,i<n->(Il (f i)).isSome=true],.p (.str ((List.range n).map λi=>(Il (f i)).getD 0)),Qw⟩
   |_,_=>none
   else none
  |_,_=>none
 |.makeInterface t x=>match DO Qw (aev env x),tk P t with
  |some (x,Qw),some k=>match k with
   |.iface _=>none
   |_=>some ⟨[],.p (.iface t x),Qw⟩
  |_,_=>none
 |.makeFunc (.func f) first caps=>some ⟨[],.clo f (first.toList.map (aev env)) (caps.toList.map (aev env)),Qw⟩
 |.makeMap _ none=>match A1 Qw (nid d 0)with
  |none=>some ⟨[],.Se (nid d 0),ins (nid d 0) (.map []) Qw⟩
  |some _=>none
 |.range t x=>match tk P t,aev env x with
  |some (.map _ _),.Se j=>match A1 Qw j,A1 Qw (nid d 0)with
   |some (.map es),none=>some ⟨[],.reg (nid d 0) 0,ins (nid d 0) (.blk [1,es.length,es.length] j) Qw⟩
   |_,_=>none
  |_,_=>none
 |.entry x=>match aev env x with
  |.reg j 0=>match A1 Qw j with
   |some (.blk (1::_::last::seen) jm)=>match A1 Qw jm,seen with
    |some (.map es),i::_=>some ⟨[last=es.length/\i<es.length],.tup [.p (es.getD i default).1,.p (es.getD i default).2],Qw⟩
    |_,_=>none
   |_=>none
  |_=>none
 |.makeSlice t l c=>match tk P t,asInt (aev env l),asInt (aev env c),A1 Qw (nid d 0)with
  |some (.slice e),some n,some m,none=>match tsz P e,MS P e with
   |some k,some z=>if z.length=k/\z.all JM then
    some ⟨[0<=n/\n<=m/\m*DZ P e<=140737488355328/\m<=140737488355328],.vec (nid d 0),ins (nid d 0) (.vec e k n.toNat (λ_=>z) false) Qw⟩else none
   |_,_=>none
  |_,_,_,_=>none
 |.slice t x lo hi none=>
  match lo.map (λo=>asInt (aev env o)),hi.map (λo=>asInt (aev env o))with
  |none,none=>match Gm P Qw t (aev env x) none none with|some (c,a,Qw)=>some ⟨c,a,Qw⟩ | none=>none
  |some (some l),none=>match Gm P Qw t (aev env x) (some l) none with|some (c,a,Qw)=>some ⟨c,a,Qw⟩ | none=>none
  |none,some (some h)=>match Gm P Qw t (aev env x) none (some h)with|some (c,a,Qw)=>some ⟨c,a,Qw⟩ | none=>none
  |some (some l),some (some h)=>match Gm P Qw t (aev env x) (some l) (some h)with|some (c,a,Qw)=>some ⟨c,a,Qw⟩ | none=>none
  |_,_=>none
 |.fieldAddr t x f=>match AY1 P t f (aev env x)with
  |some a=>some ⟨[],a,Qw⟩
  |none=>none
 |.field t x f=>match AY2 P t f (aev env x)with
  |some (c,a)=>some ⟨c,a,Qw⟩
  |none=>none
 |.indexAddr t x i=>match asInt (aev env i)with
  |some i=>match Gl P Qw t (aev env x) i with
   |some (c,a)=>some ⟨c,a,Qw⟩
   |none=>none
  |none=>none
 |.index t x i=>match asInt (aev env i)with
  |some i=>match AY3 P t (aev env x) i with
   |some (c,a)=>some ⟨c,a,Qw⟩
   |none=>none
  |none=>none
 |.lookup t m k ok=>match DO Qw (aev env k)with
  |some (k,Qw)=>match EG P Qw t (aev env m) k ok with
   |some (c,a)=>some ⟨c,a,Qw⟩
   |none=>none
  |none=>none
 |.mapUpdate t m k x | .insert t m k x=>match tk P t,aev env m,aev env k with
  |some (.map kt _),.Se j,.p k=>match DO Qw (aev env x)with
   |some (x,Qw)=>match A1 Qw j with
    |some (.map es)=>match Gn P kt (nP k),upd (Ic P kt) (nP k) x es with
     |true,some es=>some ⟨HI P kt,LC,ins j (.map es) Qw⟩
     |_,_=>none
    |_=>none
   |none=>none
  |_,_,_=>none
 |.mapEntry t m k=>match tk P t,aev env m,aev env k with
  |some (.map kt e),.Se j,.p k=>match A1 Qw j,HJ P e with
   |some (.map es),some z=>match Gn P kt (nP k),Ft (Ic P kt) (nP k) es with
    |true,some q=>some ⟨HI P kt,.tup [.p (ent (nP k) z es q).2.1,.p (.v (.int .i64 ((ent (nP k) z es q).1:Nat)))],ins j (.map (ent (nP k) z es q).2.2) Qw⟩
    |_,_=>none
   |_,_=>none
  |_,_,_=>none
 |.entryStore _ m s x=>match aev env m,asInt (aev env s),DO Qw (aev env x)with
  |.Se j,some s,some (y,Qw)=>match A1 Qw j with
   |some (.map es)=>some ⟨[0<=s/\s<(es.length:Int)],LC,ins j (.map (Bc7 es s.toNat y)) Qw⟩
   |_=>none
  |_,_,_=>none
 |.extract x i=>match aev env x with
  |.tup l=>match l[i]? with
   |some a=>some ⟨[],a,Qw⟩
   |none=>none
  |_=>none
 |.call { callee:=.builtin .len,args,argTypes }=>match args.toList,argTypes.toList with
  |[x],[t]=>match Ay0 P Qw t (aev env x)with
   |some n=>some ⟨[],.int .i64 n,Qw⟩
   |none=>none
  |_,_=>none
 |.call { callee:=.builtin .append,args,argTypes }=>match args.toList,argTypes.toList with
  |[s,x],[t,t2]=>match tk P t,tk P t2 with
   |some (.slice e),some k2=>match srcK k2,tsz P e,MS P e with
    |true,some m,some z=>match A1 Qw (nid d 0),elems Qw m (aev env x),Up Qw e m (aev env s)with
     |none,some (n,g),some (l,f,vw,Qw)=>if z.length=m/\0<DZ P e then
      some ⟨[(l+n)*DZ P e<=140737488355328/\l+n<=140737488355328],.vec (nid d 0),ins (nid d 0) (.vec e m (l+n) (Ey l f g) vw) Qw⟩else none
     |_,_,_=>match LD Qw e m d (famB P e z m) (aev env s) (aev env x)with
      |some (c,v,R)=>some ⟨c,v,R⟩
      |none=>none
    |_,_,_=>none
   |_,_=>none
  |_,_=>none
 |.call { callee:=.builtin .clear,args,argTypes }=>match args.toList,argTypes.toList with
  |[x],[t]=>match tk P t,aev env x with
   |some (.slice e),.vec j=>match A1 Qw j,tsz P e,MS P e with
    |some (.vec e' k n _ false),some m,some z=>if (m=k/\z.length=k)/\z.all JM then some ⟨[],LC,ins j (.vec e' k n (λ_=>z) false) Qw⟩else none
    |_,_,_=>none
   |_,_=>none
  |_,_=>none
 |.call { callee:=.builtin .min,args,.. }=>match args.toList.map (aev env)with
  |[.p (.v (.int k a)),.p (.v (.int _ b))]=>some ⟨[],.int k (if b<a then b else a),Qw⟩
  |_=>none
 |.call { callee:=.builtin .max,args,.. }=>match args.toList.map (aev env)with
  |[.p (.v (.int k a)),.p (.v (.int _ b))]=>some ⟨[],.int k (if a<b then b else a),Qw⟩
  |_=>none
 |_=>none
end
def Az1:List AV->Option (List PV)
 |[]=>some []
 |.p x::r=>match Az1 r with
  |some l=>some (nP x::l)
  |none=>none
 |_::_=>none
def RK (P:Program)(env:Env)(o:Op):Option (List Prop×PV):=
 match o with
 |.buildSlice t n parts=>match tk P t with
  |some (.slice e)=>match Az1 (parts.toList.map λq=>aev env q.2),tsz P e,MS P e with
   |some l,some m,some z=>if (n*m<=16777216/\n<=16777216)/\z.length=m/\z.all JM then
    some ([GR n m (parts.toList.map (·.1)) l=true],.sl true m n (H0 z ((parts.toList.map (·.1)).zip (l.map Ca))))
    else none
   |_,_,_=>none
  |_=>none
 |.makeSlice t l c=>match tk P t,asInt (aev env l),asInt (aev env c)with
  |some (.slice e),some n,some m=>match tsz P e,MS P e with
   |some k,some z=>if z.length=k/\z.all JM then
    some ([0<=n/\n<=m/\m*DZ P e<=140737488355328/\m<=140737488355328],.sl true k n.toNat (λ_=>z))else none
   |_,_=>none
  |_,_,_=>none
 |_=>none
def bldE (P:Program)(t:TypeId):Option TypeId:=match P.underlying t with
 |some (.struct fs)=>match fs.toList.map (·.type)with
  |[a,b]=>match P.underlying a,P.underlying b with
   |some (.pointer t'),some (.slice e)=>if t' = t then some e else none
   |_,_=>none
  |_=>none
 |_=>none
def bop (P:Program)(Qw:C5)(d:Nat)(o:Op):Option Out:=
 match o with
 |.alloc t=>match bldE P t,MS P t,A1 Qw (nid d 0),A1 Qw (nid d 1)with
  |some e,some [.v (.pointer none),.v (.slice none 0 0)],none,none=>some ⟨[],.reg (nid d 0) 0,ins (nid d 0) (.blk [0,t,0] (nid d 1)) (ins (nid d 1) (.vec e 1 0 (λ_=>[]) false) Qw)⟩
  |_,_,_,_=>none
 |_=>none
inductive JN where
 |normal
 |exit (id:Nat)
 |goto (l:Nat)
 |ret
 |panic (x:PV)
inductive ARes where
 |ret (a:AV)
 |panic (x:PV)
def idx (ids:List Nat)(j:Nat):Option Nat:=
 match ids with
 |[]=>none
 |i::r=>if i=j then some 0 else match idx r j with
  |some n=>some (n+1)
  |none=>none
mutual
def Ur (ids:List Nat)(a:AV):Option AV:=
 match a with
 |.p x=>some (.p (nP x))
 |.reg j off=>match idx ids j with|some j=>some (.reg j off)|none=>none
 |.vec j=>match idx ids j with|some j=>some (.vec j)|none=>none
 |.vecp j n=>match idx ids j with|some j=>some (.vecp j n)|none=>none
 |.elt j k i off=>match idx ids j with|some j=>some (.elt j k i off)|none=>none
 |.Se j=>match idx ids j with|some j=>some (.Se j)|none=>none
 |.clo f a b=>match DP ids a,DP ids b with|some a,some b=>some (.clo f a b)|_,_=>none
 |.tup a=>match DP ids a with|some a=>some (.tup a)|none=>none
 |.agr a=>match DP ids a with|some a=>some (.agr a)|none=>none
 |.yf j=>match idx ids j with|some j=>some (.yf j)|none=>none
 |.rsl j n=>match idx ids j with|some j=>some (.rsl j n)|none=>none
 |.top=>some .top
def DP (ids:List Nat)(l:List AV):Option (List AV):=
 match l with
 |[]=>some []
 |a::r=>match Ur ids a,DP ids r with
  |some a,some r=>some (a::r)
  |_,_=>none
end
mutual
def unA (ids:List Nat)(a:AV):AV:=
 match a with
 |.p x=>.p x
 |.reg j off=>.reg (ids.getD j 0) off
 |.vec j=>.vec (ids.getD j 0)
 |.vecp j n=>.vecp (ids.getD j 0) n
 |.elt j k i off=>.elt (ids.getD j 0) k i off
 |.Se j=>.Se (ids.getD j 0)
 |.clo f a b=>.clo f (unL ids a) (unL ids b)
 |.tup a=>.tup (unL ids a)
 |.agr a=>.agr (unL ids a)
 |.yf j=>.yf (ids.getD j 0)
 |.rsl j n=>.rsl (ids.getD j 0) n
 |.top=>.top
def unL (ids:List Nat)(l:List AV):List AV:=
 match l with
 |[]=>[]
 |a::r=>unA ids a::unL ids r
end
def SZ (ids:List Nat):Obj->Option Obj
 |.cells cs=>match DP ids cs with|some cs=>some (.cells cs)|none=>none
 |.vec e k n f vw=>some (.vec e k n f vw)
 |.map es=>some (.map es)
 |.arr n f=>some (.arr n f)
 |.blk l jr=>match idx ids jr with|some jr=>some (.blk l jr)|none=>none
 |.ghost cs=>match DP ids cs with|some cs=>some (.ghost cs)|none=>none
 |.yld r b=>some (.yld r b)
 |.fam e n jr x=>match x,idx ids jr with|none,some jr=>some (.fam e n jr none)|_,_=>none
 |.rows n g=>some (.rows n g)
 |.dead=>some .dead
def unO (ids:List Nat):Obj->Obj
 |.cells cs=>.cells (unL ids cs)
 |.ghost cs=>.ghost (unL ids cs)
 |.blk l jr=>.blk l (ids.getD jr 0)
 |.fam e n jr x=>.fam e n (ids.getD jr 0) (match x with|none=>none|some (i,a)=>some (i,unA ids a))
 |o=>o
def M0 (ids:List Nat)(Qw:C5):List Nat->Option (List Obj)
 |[]=>some []
 |j::r=>match A1 Qw j with
  |some o=>match SZ ids o,M0 ids Qw r with
   |some o,some l=>some (o::l)
   |_,_=>none
  |none=>none
def Im (Qw:C5):List AV->Option (List AV×C5)
 |[]=>some ([],Qw)
 |a::r=>
  match (match a with | .vec _ | .vecp _ _=>(match DO Qw a with|some (x,Qw)=>some (AV.p x,Qw)|none=>none)|a=>some (a,Qw):Option (AV×C5))with
  |some (a,Qw)=>match Im Qw r with
   |some (l,Qw)=>some (a::l,Qw)
   |none=>none
  |none=>none
def H5:List Nat->Bool
 |[]=>true
 |a::r=>!r.contains a&&H5 r
structure U8 where
 F:FuncId->List AV->List Obj->(ARes->List Obj->List Bool->Prop)->Prop
 up:St->(St->Prop)->Prop
variable (S:U8) (P:Program)
def put (st:St)(d:Option Nat)(a:AV):St:=
 match d with
 |some d=>{ st with env:=ins d a st.env }
 |none=>st
def back (all:List Nat):List Nat->List Obj->C5->C5
 |j::ids,o::objs,Qw=>back all ids objs (ins j (unO all o) Qw)
 |_,_,Qw=>Qw
def G7 (d:Nat)(ids:List Nat)(ks:List Bool)(n:Nat):List Nat:=(List.range n).map λp=>
 match ids[p]?,ks[p]? with
 |some j,some true=>j
 |_,_=>nid d p
def J9:List Nat->List Bool->C5->C5
 |j::ids,k::ks,Qw=>if k then J9 ids ks Qw else J9 ids ks (ins j .dead Qw)
 |j::ids,[],Qw=>J9 ids [] (ins j .dead Qw)
 |[],_,Qw=>Qw
def unRes (ids:List Nat):ARes->ARes
 |.ret a=>.ret (unA ids a)
 |.panic x=>.panic x
def X1 (Qw:C5)(ids:List Nat)(ks:List Bool)(d n:Nat):Bool:=(List.range n).all λp=>
 match ids[p]?,ks[p]? with
 |some _,some true=>true
 |_,_=>(A1 Qw (nid d p)).isNone
def Fu:List Obj->Bool
 |[]=>true
 |.yld _ _::_=>false
 |_::r=>Fu r
def Zn (d:Nat)(ids:List Nat)(f:FuncId)(args:List AV)(st:St)(K:ARes->St->Prop):Prop:= ∃args' objs,H5 ids=true/\DP ids args=some args' /\ M0 ids st.Qw ids=some objs/\Fu objs=true /\ S.F f args' objs λr objs' ks=>X1 st.Qw ids ks d objs'.length=true /\ K (unRes (G7 d ids ks objs'.length) r) { env:=st.env,Qw:=back (G7 d ids ks objs'.length) (G7 d ids ks objs'.length) objs' (J9 ids ks st.Qw) }
def Ta (env:Env)(f:Operand)(args:List AV):Option (FuncId×List AV):=
 match aev env f with
 |.clo f first caps=>some (f,first++args++caps)
 |.p (.v (.func (.func f) x y))=>match x.toList,y.toList with
  |[],[]=>some (f,args)
  |_,_=>none
 |.p (.fn f first caps)=>some (f,first.map .p++args++caps.map .p)
 |_=>none
def FN (env:Env)(f:Operand):Option (FuncId×List AV×List AV):=
 match aev env f with
 |.clo f first caps=>some (f,first,caps)
 |.p (.v (.func (.func f) x y))=>match x.toList,y.toList with
  |[],[]=>some (f,[],[])
  |_,_=>none
 |.p (.fn f first caps)=>some (f,first.map .p,caps.map .p)
 |_=>none
def FO (ops:List Oper)(j:Nat):Nat:=match ops[j]? with
 |some o=>o.dst.getD 0
 |none=>0
def Pl:AV->Option Bool
 |.p (.v (.bool b))=>some b
 |.p (.bb b)=>some b
 |_=>none
def yv:AV->Option (Option Bool)
 |.p (.v (.bool b))=>some (some b)
 |.p (.bb b)=>some (some b)
 |.p (.v (.tuple _))=>some none
 |_=>none
abbrev Cl:AV:=LC
abbrev J3:=JN->St->Prop
def Io (d:Option Nat)(k:St->Prop)(Q:J3):ARes->St->Prop
 |.ret a,st=>k (put st d a)
 |.panic x,st=>Q (.panic x) st
def C6:List Prop->Prop
 |[]=>True
 |[p]=>p
 |p::r=>C6 r/\p
def Pm (p:Prop)(r:List Prop):C6 (p::r)↔C6 r/\p:=by
 cases r with
 |nil=>exact⟨λh=>⟨trivial,h⟩,λh=>h.2⟩
 |cons q s=>exact BL1
def CE (c d:List Prop):C6 (c++d)↔C6 d/\C6 c:=by
 induction c with
 |nil=>exact⟨λh=>⟨h,trivial⟩,λh=>h.1⟩
 |cons p c ih=>simp only[BA0,Pm,ih];exact and_assoc
def leP0 (x y:PV):Prop:= x=y \/ (∃nn k n f g,x=.sl nn k n f/\y=.sl false k n g/\∀i,i<n->f i=g i) \/ (∃k f,x=.v (.slice none 0 0)/\y=.sl false k 0 f)
def Bc8:List PV->List PV->Prop
 |[],[]=>True
 |x::r,y::s=>leP0 x y/\Bc8 r s
 |_,_=>False
def FP (j:Nat):C5->Bool
 |[]=>true
 |(i,.yld _ _)::r=>i==j&&FP j r
 |_::r=>FP j r
def WG (P:Program)(t:TypeId)(m:String):Option FuncId:=
 match P.info? t,P.underlying t with
 |some i,some d=>match d with
  |.pointer _=>none
  |_=>match i.methods.find? (·.name==m)with
   |some q=>match q.path.toList,q.func with
    |[],some (f,false)=>some f
    |_,_=>none
   |none=>none
 |_,_=>none
def RG:Obj->Option PV
 |.vec _ k n f false=>some (.sl false k n f)
 |.ghost [.p x]=>some x
 |_=>none
def Us (f:AV->Option (List Prop×PV)):List AV->Option (List Prop×List PV)
 |[]=>some ([],[])
 |a::r=>match f a,Us f r with
  |some (c,x),some (d,l)=>some (c++d,x::l)
  |_,_=>none
def WH (Qw:C5):Nat->AV->Option (List Prop×PV)
 |0,a=>match a with
  |.p x=>some ([],x)
  |_=>none
 |n+1,a=>match a with
  |.p x=>some ([],x)
  |.vec j=>match A1 Qw j with
   |some (.vec _ k m f _)=>some ([],.sl false k m f)
   |some (.fam _ m jr none)=>match A1 Qw jr with
    |some (.rows l g)=>some ([l=m/\∀i,i<m->(RG (g i)).isSome=true],.sl false 1 m λi=>[(RG (g i)).getD default])
    |_=>none
   |_=>none
  |.reg j off=>match A1 Qw j with
   |some (.cells cs)=>match Us (WH Qw n) (cs.drop off)with
    |some (c,l)=>some (c,.ptr l)
    |none=>none
   |_=>none
  |.agr cs=>match Us (WH Qw n) cs with
   |some (c,l)=>some (c,.agg l)
   |none=>none
  |_=>none
def Zo:PV->Bool
 |.v (.int _ _) | .v (.bool _) | .bb _ | .str _=>true
 |_=>false
def Az2:List AV->Bool
 |[]=>true
 |.p x::r=>Zo x&&Az2 r
 |_=>false
def Bc9:AV->Bool
 |.p x=>Zo x
 |.tup l=>Az2 l
 |_=>false
def Bn3 (Qw:C5)(l l' : List AV)(regs' : C5):Prop:=Im Qw l=some (l',regs') \/ (l' = l/\regs' = Qw)
def Ah8 (j:Nat)(dst:Option Nat)(k:St->Prop)(st:St)(r:ARes)(objs:List Obj):Prop:= (∃a,r=.ret a/\Bc9 a=true/\k (put st dst a)) \/ ∃e m n g,r=.ret (.vec 0)/\objs=[.vec e m n g false]/\(∀i l,i<n->l<m->Zo ((g i).getD l default)=true)/\A1 st.Qw j=none /\ k (put { st with Qw:=ins j (.vec e m n g false) st.Qw } dst (.vec j))
def Ut (e:TypeId)(k n:Nat)(f:Nat->List PV):List PV:=[.agg [.sl true 1 1 λ_=>[],.iface e (.sl false k n f)]]
def wOp (o:Oper)(k:St->Prop)(Q:J3)(st:St):Prop:=
 match o.op with
 |.call { callee:=.value f,args,.. }=>
  (∃as Qw f' as',Bn3 st.Qw (args.toList.map (aev st.env)) as Qw/\Ta st.env f as=some (f',as') /\
   ∃ids,Zn S (o.dst.getD 0) ids f' as' { st with Qw } (Io o.dst k Q)) \/
  (∃j xs Qw ys rest,aev st.env f=.yf j/\Gk st.Qw (args.toList.map (aev st.env))=some (xs,Qw)/\A1 Qw j=some (.yld (ys::rest) true)/\FP j Qw=true/\Bc8 xs ys /\
   ∀b:Bool,k (put { st with Qw:=ins j (.yld (if b then rest else []) b) Qw } o.dst (.p (.bb b)))) \/
  (∃f' as' c xs,Ta st.env f (args.toList.map (aev st.env))=some (f',as')/\Us (WH st.Qw 9) as' = some (c,xs)/\C6 c /\
   S.F f' (xs.map .p) [] λr objs _=>Ah8 (nid (o.dst.getD 0) 0) o.dst k st r objs) \/
  (∃j jw e m n g rest,(aev st.env f=.yf j/\args.toList.map (aev st.env)=[.vec jw]/\A1 st.Qw jw=some (.vec e m n g false))/\A1 st.Qw j=some (.yld (Ut e m n g::rest) true)/\FP j st.Qw=true /\
   ∀b:Bool,k (put { st with Qw:=ins j (.yld (if b then rest else []) b) st.Qw } o.dst (.p (.bb b))))
 |.call { callee:=.invoke recv m,args,.. }=>
  ∃as Qw t y f',Im st.Qw (args.toList.map (aev st.env))=some (as,Qw)/\aev st.env recv=.p (.iface t y)/\WG P t m=some f' /\
   ∃ids,Zn S (o.dst.getD 0) ids f' (.p y::as) { st with Qw } (Io o.dst k Q)
 |.panic x=>∃t y,aev st.env x=.p (.iface t y)/\Q (.panic (.iface t y)) st
 |.next x false=>∃j cl last seen jm es,aev st.env x=.reg j 0/\A1 st.Qw j=some (.blk (1::cl::last::seen) jm)/\A1 st.Qw jm=some (.map es)/\cl=es.length/\cl<=last /\
  ((∀i,i<es.length->i∈seen)->k (put st o.dst (.tup [.p (.bb false)]))) /\
  ∀i,i<es.length->i ∉ seen->k (put { st with Qw:=ins j (.blk (1::cl::es.length::(i::seen)) jm) st.Qw } o.dst (.tup [.p (.bb true),.p (es.getD i default).1,.p (es.getD i default).2]))
 |op=>(∃out,aop P st.env st.Qw (o.dst.getD 0) op=some out/\C6 out.cond/\k (put { st with Qw:=out.Qw } o.dst out.val)) \/
  (∃c x,RK P st.env op=some (c,x)/\C6 c/\k (put st o.dst (.p x))) \/
  ∃out,bop P st.Qw (o.dst.getD 0) op=some out/\C6 out.cond/\k (put { st with Qw:=out.Qw } o.dst out.val)
def JO (all:List Oper):List Oper->J3->St->Prop
 |[],Q,st=>Q .normal st
 |o::rest,Q,st0=>S.up st0 λst=>
  match o.guard with
  |none=>wOp S P o (JO all rest Q) Q st
  |some (j,want)=>∃b,yv (get st.env (FO all j))=some b /\
   if b=some want then wOp S P o (JO all rest Q) Q st else JO all rest Q (put st o.dst Cl)
def thn (K:St->Prop)(Q:J3):J3
 |.normal,s=>S.up s K
 |e,s=>Q e s
def blk (id:Nat)(Q:J3):J3
 |.exit i,s=>if i=id then Q .normal s else Q (.exit i) s
 |e,s=>Q e s
def lop {X:Type}(s:X->St)(J:X->Prop)(m:X->Nat)(n:Nat)(Q:J3):J3
 |.normal,t=>S.up t λt'=>∃x,t' = s x/\J x/\m x<n
 |e,t=>Q e t
def scp (Q:J3):J3
 |.goto _,_=>False
 |e,s=>Q e s
def Id (all:List Oper)(o:Oper)(k:St->Prop)(Q:J3)(st0:St):Prop:=S.up st0 λst=>
 match o.guard with
 |none=>wOp S P o k Q st
 |some (j,want)=>∃b,yv (get st.env (FO all j))=some b /\
  if b=some want then wOp S P o k Q st else k (put st o.dst Cl)
def EH (e:Edge):Bool:=Region.binds .any e
def Ip (ops:List Oper):Bool:=(List.range ops.length).all λi=>match ops[i]? with
 |some o=>o.after.toList.all λe=>!EH e||decide (e.on<i)
 |none=>true
def Zp (ops:List Oper)(Q:J3)(st:St):Prop:= P.follows .mixedOrders=true/\Ip ops=true/\∃Inv:(Nat->Bool)->St->Prop,Inv (λ_=>false) st /\ (∀D i s o,Inv D s->ops[i]? = some o->D i=false->(∀e∈o.after.toList,EH e=true->D e.on=true) -> Id S P ops o (Inv λj=>if j=i then true else D j) Q s) /\ ∀D s,Inv D s->(∀i,i<ops.length->D i=true)->S.up s (Q .normal)
def JX (n:Nat)(all:List Oper)(o:Oper):Bool:=
 (match o.dst with|some d=>Nat.blt d n|none=>true) &&
 (match o.guard with|some (j,_)=>(match all[j]? with|some o'=>o'.dst.isSome|none=>false)|none=>true)
def Bm (n:Nat):Code->Bool
 |.region _ ops _=>ops.toList.all (JX n ops.toList)
 |.seq a b | .cond _ a b=>Bm n a&&Bm n b
 |.rangeFunc _ ps a b=>ps.toList.all (λt=>Nat.blt t n)&&Bm n a&&Bm n b
 |.block _ b | .loop b | .scope b=>Bm n b
 |_=>true
mutual
def inA (js:List Nat)(a:AV):Bool:=
 match a with
 |.p _ | .top=>true
 |.reg j _ | .vec j | .vecp j _ | .elt j _ _ _ | .Se j | .yf j | .rsl j _=>js.contains j
 |.clo _ a b=>inL js a&&inL js b
 |.tup a | .agr a=>inL js a
def inL (js:List Nat)(l:List AV):Bool:=
 match l with
 |[]=>true
 |a::r=>inA js a&&inL js r
end
def inO (js:List Nat):Obj->Bool
 |.cells cs | .ghost cs=>inL js cs
 |.fam _ _ jr x=>js.contains jr&&(match x with|some (_,a)=>inA js a|none=>true)
 |.blk _ jr=>js.contains jr
 |_=>true
def Az3:List PV->Option (TypeId×Nat×Nat×(Nat->List PV))
 |[.agg [.sl true _ _ _,.iface e (.sl false k n f)]]=>some (e,k,n,f)
 |_=>none
def AH (ys:List PV):Option Nat:=match Az3 ys with
 |none=>some ys.length
 |some _=>none
def Bn4 (jl:Option Nat)(m:Nat)(ys:List PV):Prop:=match jl with
 |none=>AH ys=some m
 |some _=>m=1/\∃e k n f,ys=Ut e k n f
def X7:List Nat->List AV->Env
 |t::ts,a::l=>(t,a)::X7 ts l
 |_,_=>[]
def Oz:List Nat->List PV->Env->Env
 |t::ts,x::l,env=>Oz ts l (ins t (.p x) env)
 |_,_,env=>env
def GS (g:Nat)(ts:List Nat)(next:St->Prop)(Q:J3):J3
 |.normal,s=>S.up s λs=>∃cs,A1 s.Qw g=some (.ghost cs)/\cs.length=ts.length/\A1 (del g s.Qw) g=none/\next ⟨X7 ts cs,del g s.Qw⟩
 |.panic _,_=>False
 |e,s=>S.up s λs=>∃cs,A1 s.Qw g=some (.ghost cs)/\cs.length=ts.length/\A1 (del g s.Qw) g=none/\Q e ⟨X7 ts cs,del g s.Qw⟩
def Bw8 (g j:Nat)(ts:List Nat)(o:Obj)(s:St)(cs:List AV):Prop:= (A1 s.Qw g=some (.ghost cs)/\cs.length=ts.length/\A1 s.Qw j=some o)/\(A1 (del j (del g s.Qw)) g=none/\A1 (del j (del g s.Qw)) j=none) /\ cs.all (inA ((del j (del g s.Qw)).map (·.1)))=true/\(del j (del g s.Qw)).all (λp=>inO ((del j (del g s.Qw)).map (·.1)) p.2)=true
def Az4 (g j:Nat)(ts:List Nat)(o:Obj)(next:St->Prop)(Q:J3):J3
 |.normal,s=>S.up s λs=>∃cs,Bw8 g j ts o s cs/\next ⟨X7 ts cs,del j (del g s.Qw)⟩
 |.panic _,_=>False
 |e,s=>S.up s λs=>∃cs,Bw8 g j ts o s cs/\Q e ⟨X7 ts cs,del j (del g s.Qw)⟩
def Az5 (jl:Option Nat)(gh:Nat)(ts:List Nat)(ps:Array Tmp)(wa wb:J3->St->Prop)(next:St->Prop)(Q:J3)(ys:List PV)(s:St):Prop:=match jl with
 |none=>wa (λe s'=>match e with
  |.normal=>S.up s' λs'=>wb (GS S gh ts next Q) s'
  |_=>False) ⟨Oz ps.toList ys s.env,ins gh (.ghost (s.env.map (·.2))) s.Qw⟩
 |some j=>(j<1000/\j≠gh/\A1 s.Qw j=none)/\∀e k n f,ys=Ut e k n f->wa (λe' s'=>match e' with
  |.normal=>S.up s' λs'=>wb (Az4 S gh j ts (.vec e k n f false) next Q) s'
  |_=>False) ⟨ins (ps.getD 0 0) (.vec j) s.env,ins j (.vec e k n f false) (ins gh (.ghost (s.env.map (·.2))) s.Qw)⟩
def Bn5 (g:Operand)(ps:Array Tmp)(wa:J3->St->Prop)(wb:J3->St->Prop)(Q:J3)(st:St):Prop:=
 ∃(f:FuncId) (first caps as bs:List AV) (objs:List Obj) (ids ts:List Nat) (gh:Nat) (jl:Option Nat) (L:List (List PV)) (I:List (List PV)->St->Prop) (Fin:Bool->ARes->Prop),
  FN st.env g=some (f,first,caps) /\
  (∃fn,P.funcs[f]? = some fn/\fn.body.isSome=true/\(fn.name == "runtime.NumGoroutine")=false)/\Fu objs=true /\
  H5 ids=true/\DP ids first=some as/\DP ids caps=some bs/\M0 ids st.Qw ids=some objs/\gh<1000/\A1 st.Qw gh=none/\ids.length<1000/\ts.Nodup /\
  (∀ys∈L,Bn4 jl ps.size ys) /\
  S.up ⟨X7 ts (ts.map (get st.env)),J9 ids (ids.map λ_=>false) st.Qw⟩ (λs=>s.env.map (·.1)=ts/\A1 s.Qw gh=none/\I L s) /\
  (∀ys rest s,s.env.map (·.1)=ts->A1 s.Qw gh=none->I (ys::rest) s->Az5 S jl gh ts ps wa wb (I rest) Q ys s) /\
  (∀s r,s.env.map (·.1)=ts->A1 s.Qw gh=none->I [] s->Fin true r->match r with
   |.ret _=>Q .normal s
   |.panic x=>Q (.panic x) s) /\
  S.F f (as ++ .yf ids.length::bs) (objs++[.yld L true]) λr objs' ks=>∃b,objs'[ids.length]? = some (.yld [] b)/\ks[ids.length]? = some true/\Fin b r/\(b=false->∃a,r=.ret a)
def awp:Code->J3->St->Prop
 |.skip,Q,st=>Q .normal st
 |.label _,Q,st=>Q .normal st
 |.region _ ops draw,Q,st=>if draw then Zp S P ops.toList Q st else JO S P ops.toList ops.toList Q st
 |.seq a b,Q,st=>awp a (thn S (awp b Q) Q) st
 |.cond c t e,Q,st=>∃b,Pl (aev st.env c)=some b/\if b then awp t Q st else awp e Q st
 |.block id b,Q,st=>awp b (blk id Q) st
 |.loop b,Q,st=>∃(X:Type) (s:X->St) (J:X->Prop) (m:X->Nat),S.up st (λt=>∃x,t=s x/\J x)/\∀x,J x->awp b (lop S s J m (m x) Q) (s x)
 |.scope b,Q,st=>awp b (scp Q) st
 |.exit id,Q,st=>Q (.exit id) st
 |.goto l,Q,st=>Q (.goto l) st
 |.ret,Q,st=>Q .ret st
 |.rangeFunc g ps asg body,Q,st=>Bn5 S P g ps (awp asg) (awp body) Q st
 |.refuse _,_,_=>False
def Az6 (st:St):ResultVar->Option AV
 |.tmp t=>some (get st.env t)
 |.cell a t=>match load P st.Qw t (get st.env a)with
  |some ([],a)=>some a
  |_=>none
def Iq (st:St):List ResultVar->Option (List AV)
 |[]=>some []
 |r::rs=>match Az6 P st r,Iq st rs with
  |some a,some l=>some (a::l)
  |_,_=>none
def one:List AV->AV
 |[a]=>a
 |l=>.tup l
def Ss (args:List AV):Env:=go 0 args []
where
 go (n:Nat):List AV->Env->Env
  |[],acc=>acc
  |a::r,acc=>go (n+1) r ((n,a)::acc)
def Sa (objs:List Obj):C5:=go 0 objs []
where
 go (n:Nat):List Obj->C5->C5
  |[],acc=>acc
  |a::r,acc=>go (n+1) r ((n,a)::acc)
def Fy (n:Nat)(outs:List Nat):List Bool:=(List.range n).map λi=>outs.getD i 1000==i
def Cm (n:Nat)(rs:List ResultVar)(Q:ARes->List Obj->List Bool->Prop):J3
 |.normal,st | .ret,st=>S.up st λst1=>∃l outs a objs,Iq P st1 rs=some l/\H5 outs=true/\Ur outs (one l)=some a/\M0 outs st1.Qw outs=some objs/\Q (.ret a) objs (Fy n outs)
 |.panic x,st=>∃outs objs,H5 outs=true/\M0 outs st.Qw outs=some objs/\Q (.panic x) objs (Fy n outs)
 |_,_=>False
def viewP (Qw:C5):AV->Option PV
 |.p x=>some x
 |.vec j=>match A1 Qw j with
  |some (.vec _ k n f _)=>some (.sl false k n f)
  |_=>none
 |.vecp j m=>match A1 Qw j with
  |some (.vec _ k n f _)=>some (.sl false k (min m n) f)
  |_=>none
 |.clo f [] []=>some (.v (.func (.func f) #[] #[]))
 |.clo f a b=>match Wy a,Wy b with
  |some a,some b=>some (.fn f a b)
  |_,_=>none
 |_=>none
def leP (x y:PV):Prop:= x=y \/ (∃nn k n f g,x=.sl nn k n f/\y=.sl false k n g/\∀i,i<n->f i=g i) \/ (∃k f,x=.v (.slice none 0 0)/\y=.sl false k 0 f) \/ (∃b,x=.v (.bool b)/\y=.bb b) \/ (∃b,x=.bb b/\y=.v (.bool b))
def lk (ids:List (Nat×Nat))(j:Nat):Option Nat:=
 match ids with
 |[]=>none
 |(a,b)::r=>if a=j then some b else lk r j
mutual
def leA (Qw:C5)(ids:List (Nat×Nat))(a b:AV):Prop:=
 match b with
 |.top=>True
 |.p y=>∃x,viewP Qw a=some x/\leP x y
 |.reg j off=>∃i,lk ids j=some i/\a=.reg i off
 |.vec j=>(∃i,lk ids j=some i/\a=.vec i) \/ (lk ids j=none/\a=.p (.v (.slice none 0 0)))
 |.vecp j n=>∃i,lk ids j=some i/\a=.vecp i n
 |.elt j k n off=>∃i,lk ids j=some i/\a=.elt i k n off
 |.Se j=>∃i,lk ids j=some i/\a=.Se i
 |.clo f x y=>∃x' y',a=.clo f x' y' /\ leL Qw ids x' x/\leL Qw ids y' y
 |.tup l=>∃l',a=.tup l' /\ leL Qw ids l' l
 |.agr l=>∃l',a=.agr l' /\ leL Qw ids l' l
 |.yf j=>∃i,lk ids j=some i/\a=.yf i
 |.rsl j n=>∃i,lk ids j=some i/\a=.rsl i n
def leL (Qw:C5)(ids:List (Nat×Nat))(a b:List AV):Prop:=
 match b with
 |[]=>a=[]
 |y::s=>∃x r,a=x::r/\leA Qw ids x y/\leL Qw ids r s
end
def Uu (Qw:C5)(ids:List (Nat×Nat))(env:Env):Env->Prop
 |[]=>True
 |(t,b)::r=>leA Qw ids (get env t) b/\Uu Qw ids env r
def nov:AV->AV->Bool
 |.p _,.p _|_,.vec _|_,.Se _|_,.top=>true
 |_,_=>false
def leO (Qw:C5)(ids:List (Nat×Nat))(o p:Obj):Prop:=
 match p with
 |.cells cs=>∃cs',o=.cells cs' /\ leL Qw ids cs' cs
 |.vec e k n f vw=>∃g vw',o=.vec e k n g vw' /\ (∀i,i<n->g i=f i)/\(vw' = true->vw=true)
 |.map es=>o=.map es
 |.arr n f=>∃g,o=.arr n g/\∀i,i<n->g i=f i
 |.blk l jr=>∃jr',o=.blk l jr' /\ lk ids jr=some jr'
 |.ghost cs=>∃cs',o=.ghost cs' /\ leL Qw ids cs' cs
 |.yld r b=>o=.yld r b
 |.fam e n jr x=>∃jr' x',o=.fam e n jr' x' /\ lk ids jr=some jr' /\ match x with
  |none=>x' = none
  |some (i,a)=>∃a',x' = some (i,a')/\nov a' a=true/\leA Qw ids a' a
 |.rows n g=>∃g',o=.rows n g' /\ ∀i,i<n->g' i=g i
 |.dead=>True
def WI (Qw:C5)(ids:List (Nat×Nat)):C5->Prop
 |[]=>True
 |(j,p)::r=>((∃i o,lk ids j=some i/\A1 Qw i=some o/\leO Qw ids o p) \/ (lk ids j=none/\∃e k f vw,p=.vec e k 0 f vw))/\WI Qw ids r
def AN0 {α : Type}:List (Nat × α)->Bool
 |(a,_)::(b,y)::r=>b<a&&AN0 ((b,y)::r)
 |_=>true
def wf (st:St):Bool:= AN0 st.env&&AN0 st.Qw&&st.env.all (λp=>inA (st.Qw.map (·.1)) p.2)&&st.Qw.all (λp=>inO (st.Qw.map (·.1)) p.2)
mutual
def LF (a b:AV):List Nat:=
 match b with
 |.p _=>match a with | .vec j | .vecp j _=>[j] | _=>[]
 |.clo _ x y=>match a with | .clo _ x' y'=>Pn x' x++Pn y' y|_=>[]
 |.tup l=>match a with | .tup l'=>Pn l' l|_=>[]
 |.agr l=>match a with | .agr l'=>Pn l' l|_=>[]
 |_=>[]
def Pn (a b:List AV):List Nat:=
 match b with
 |[]=>[]
 |y::s=>match a with
  |x::r=>LF x y++Pn r s
  |[]=>[]
end
def seen (env:Env):Env->List Nat
 |[]=>[]
 |(t,b)::r=>LF (get env t) b++seen env r
def LG (ids:List (Nat×Nat))(Qw:C5):C5->List Nat
 |[]=>[]
 |(j,.cells cs)::r=>(match lk ids j with
  |some i=>match A1 Qw i with
   |some (.cells cs')=>Pn cs' cs
   |_=>[]
  |none=>[])++LG ids Qw r
 |(j,.ghost cs)::r=>(match lk ids j with
  |some i=>match A1 Qw i with
   |some (.ghost cs')=>Pn cs' cs
   |_=>[]
  |none=>[])++LG ids Qw r
 |_::r=>LG ids Qw r
def NG (ids:List (Nat×Nat))(js:List Nat):C5->Bool
 |[]=>true
 |(j,.vec _ _ _ _ false)::r=>(match lk ids j with|some i=>!js.contains i|none=>true)&&NG ids js r
 |_::r=>NG ids js r
def Ao8:List (Nat×Nat)->Bool
 |[]=>true
 |(j,i)::r=>(j==i||1000<=j)&&Ao8 r
def Tb (ids:List (Nat×Nat)):C5->Bool
 |[]=>true
 |(j,_)::r=>((lk ids j).isSome||1000<=j)&&Tb ids r
def Le (ids:List (Nat×Nat))(s t:St):Prop:= (wf t=true/\H5 (ids.map (·.2))=true/\Ao8 ids=true/\Tb ids t.Qw=true/\NG ids (seen s.env t.env++LG ids s.Qw t.Qw) t.Qw=true)/\Uu s.Qw ids s.env t.env/\WI s.Qw ids t.Qw
def frzA (j:Nat)(ps:List PV):AV->AV
 |.reg i o=>if i=j then .p (.ptr (ps.drop o))else .reg i o
 |a=>a
def AM5 (j:Nat)(ps:List PV):Env->Env
 |[]=>[]
 |(t,a)::r=>(t,frzA j ps a)::AM5 j ps r
def AN1 (j n j' : Nat):AV->AV
 |.vecp i m=>if i=j/\m=n then .vec j' else .vecp i m
 |a=>a
def AY4 (j n j' : Nat):Env->Env
 |[]=>[]
 |(t,a)::r=>(t,AN1 j n j' a)::AY4 j n j' r
def AY5 (j n j' : Nat):List AV->List AV
 |[]=>[]
 |a::r=>AN1 j n j' a::AY5 j n j' r
def Bl7 (j n j' : Nat):Obj->Obj
 |.cells cs=>.cells (AY5 j n j' cs)
 |o=>o
def Ah9 (j n j' : Nat):C5->C5
 |[]=>[]
 |(t,o)::r=>(t,Bl7 j n j' o)::Ah9 j n j' r
def AN2 (n:Nat)(f:Nat->PV):List AV:=(List.range n).map λi=>.p (f i)
inductive leQ:PV->PV->Prop
 |p {x y:PV}(h:leP x y):leQ x y
 |sl {nn:Bool}{k n:Nat}{f g:Nat->List PV}(hl:∀i,i<n->(f i).length=(g i).length) (h:∀i j,i<n->leQ ((f i).getD j default) ((g i).getD j default)):leQ (.sl nn k n f) (.sl false k n g)
 |agg {xs ys:List PV}(hl:xs.length=ys.length) (h:∀j,leQ (xs.getD j default) (ys.getD j default)):leQ (.agg xs) (.agg ys)
def leC (l m:List PV):Prop:=l.length=m.length/\∀j,leQ (l.getD j default) (m.getD j default)
def WJ:List AV->List AV->Prop
 |[],[]=>True
 |a::r,b::s=>(a=b \/ ∃x y,a=.p x/\b=.p y/\leQ x y)/\WJ r s
 |_,_=>False
inductive Uv where
 |fam (j jr:Nat) (g:Nat->Obj)
 |take (j i j' : Nat)
 |over (j i:Nat)
 |put (j jr:Nat)
 |psh (j jr:Nat)
 |pub (j:Nat)
def Po (f:List PV):Obj->Prop
 |.vec _ _ 0 _ false=>f=[.v (.slice none 0 0)]
 |.ghost [.p x]=>f=[x]/\JM x=true
 |_=>False
def rowA (j' : Nat):Obj->Option (AV×Obj)
 |.vec e k n f false=>some (.vec j', .vec e k n f false)
 |.map es=>some (.Se j', .map es)
 |.ghost [.p x]=>some (.p x,.dead)
 |_=>none
def ofA (Qw:C5):AV->Option (Option Nat×Obj)
 |.vec j'=>match A1 Qw j' with
  |some (.vec e k l f false)=>some (some j', .vec e k l f false)
  |_=>none
 |.Se j'=>match A1 Qw j' with
  |some (.map es)=>some (some j', .map es)
  |_=>none
 |.p x=>some (none,.ghost [.p x])
 |_=>none
def Zq (jo:Option Nat)(Qw:C5):C5:=match jo with
 |some j=>ins j .dead Qw
 |none=>Qw
def W0 (op:Uv)(st:St):Option (List Prop×St):=
 match op with
 |.fam j jr g=>match A1 st.Qw j,A1 st.Qw jr with
  |some (.vec e 1 n f false),none=>some ([1000<=jr/\∀i,i<n->Po (f i) (g i)],⟨st.env,ins jr (.rows n g) (ins j (.fam e n jr none) st.Qw)⟩)
  |_,_=>none
 |.take j i j'=>match A1 st.Qw j,A1 st.Qw j' with
  |some (.fam e n jr none),none=>match A1 st.Qw jr with
   |some (.rows m g)=>match rowA j' (g i)with
    |some (a,o)=>some ([(1000<=j' /\ m=n)/\i<n],⟨st.env,ins j' o (ins jr (.rows n λl=>if l=i then .dead else g l) (ins j (.fam e n jr (some (i,a))) st.Qw))⟩)
    |none=>none
   |_=>none
  |_,_=>none
 |.over j i=>match A1 st.Qw j with
  |some (.fam e n jr none)=>match A1 st.Qw jr with
   |some (.rows m g)=>some ([m=n/\i<n],⟨st.env,ins jr (.rows n λl=>if l=i then .dead else g l) (ins j (.fam e n jr (some (i,.top))) st.Qw)⟩)
   |_=>none
  |_=>none
 |.put j jr'=>match A1 st.Qw j,A1 st.Qw jr' with
  |some (.fam e n jr (some (i,a))),none=>match A1 st.Qw jr,ofA st.Qw a with
   |some (.rows m g),some (jo,o)=>some ([(1000<=jr' /\ m=n)/\i<n],⟨st.env,ins jr' (.rows n λq=>if q=i then o else g q) (Zq jo (ins jr .dead (ins j (.fam e n jr' none) st.Qw)))⟩)
   |_,_=>none
  |_,_=>none
 |.psh j jr'=>match A1 st.Qw j,A1 st.Qw jr' with
  |some (.fam e n jr (some (i,a))),none=>match A1 st.Qw jr,ofA st.Qw a with
   |some (.rows m g),some (jo,o)=>some ([1000<=jr' /\ n=m+1/\i=m],⟨st.env,ins jr' (.rows (m+1) λq=>if q=m then o else g q) (Zq jo (ins jr .dead (ins j (.fam e (m+1) jr' none) st.Qw)))⟩)
   |_,_=>none
  |_,_=>none
 |.pub j=>match A1 st.Qw j with
  |some (.fam e n jr none)=>match A1 st.Qw jr with
   |some (.rows m g)=>some ([m=n/\∀i,i<n->(RG (g i)).isSome=true],⟨st.env,ins jr .dead (ins j (.vec e 1 n (λi=>[(RG (g i)).getD default]) false) st.Qw)⟩)
   |_=>none
  |_=>none
def Uw (a b:AV):Prop:=a=.top \/ a=b \/ ∃x,a=.p (.bb x)/\b=.p (.v (.bool x))
structure G0:Prop where
 refl:∀s K,K s->S.up s K
 trans:∀s K,S.up s (λt=>S.up t K)->S.up s K
 mono:∀s K K',(∀t,K t->K' t)->S.up s K->S.up s K'
 bool:∀(st:St) (t:Nat) (b:Bool) K,get st.env t=.p (.bb b)->K ⟨ins t (.p (.v (.bool b))) st.env,st.Qw⟩->S.up st K
 nil:∀(st:St) (t:Nat) (k n:Nat) (f:Nat->List PV) K,get st.env t=.p (.sl false k n f) ->
  (n=0->K ⟨ins t (.p (.v (.slice none 0 0))) st.env,st.Qw⟩)->K ⟨ins t (.p (.sl true k n f)) st.env,st.Qw⟩->S.up st K
 frz:∀(st:St) (j:Nat) (ps:List PV) K,A1 st.Qw j=some (.cells (ps.map .p))->K ⟨AM5 j ps st.env,ins j .dead st.Qw⟩->S.up st K
 trunc:∀(st:St) (j j' n N k:Nat) (e:TypeId) (f:Nat->List PV) K,A1 st.Qw j=some (.vec e k N f false)->n<=N->A1 st.Qw j' = none->1000<=j' -> K ⟨AY4 j n j' st.env,ins j' (.vec e k n f false) (ins j .dead (Ah9 j n j' st.Qw))⟩->S.up st K
 toArr:∀(st:St) (j n:Nat) (f:Nat->PV) K,A1 st.Qw j=some (.cells (AN2 n f))->K ⟨st.env,ins j (.arr n f) st.Qw⟩->S.up st K
 ofArr:∀(st:St) (j n:Nat) (f:Nat->PV) K,A1 st.Qw j=some (.arr n f)->K ⟨st.env,ins j (.cells (AN2 n f)) st.Qw⟩->S.up st K
 pq:∀(st:St) (t:Nat) (x y:PV) K,get st.env t=.p x->leQ x y->K ⟨ins t (.p y) st.env,st.Qw⟩->S.up st K
 vecq:∀(st:St) (j n k:Nat) (e:TypeId) (f g:Nat->List PV) (vw:Bool) K,A1 st.Qw j=some (.vec e k n f vw)->(∀i,i<n->leC (f i) (g i))->K ⟨st.env,ins j (.vec e k n g vw) st.Qw⟩->S.up st K
 le:∀ids s t K,Le ids s t->K t->S.up s K
 fam:∀(op:Uv) (s t:St) (c:List Prop) K,W0 op s=some (c,t)->C6 c->K t->S.up s K
 less:∀(s t:St) K,(∀x,Uw (get t.env x) (get s.env x))->(∀j,A1 s.Qw j=A1 t.Qw j)->K t->S.up s K
 eqv:∀(s t:St) K,(∀x,get s.env x=get t.env x)->(∀j,A1 s.Qw j=A1 t.Qw j)->K t->S.up s K
 func:∀f fn code args objs Q,P.funcs[f]? = some fn->fn.body=some code->(fn.name == "runtime.NumGoroutine")=false->Bm fn.ntmps code=true->args.length<=fn.ntmps->objs.length<1000 ->
  S.up { env:=Ss args,Qw:=Sa objs } (awp S P code (Cm S P objs.length fn.results.toList Q))->S.F f args objs Q
 argLe:∀f args args' objs Q,WJ args args' -> S.F f args' objs Q->S.F f args objs Q
 monoF:∀f args objs Q Q',(∀r o y,Q r o y->Q' r o y)->S.F f args objs Q->S.F f args objs Q'
universe u
def fC {R:Type u}(c:List Prop)(d:List Prop)(κ : List Prop->R):R:=
 match c with
 |[]=>κ d
 |p::r=>fC r d λd=>κ (p::d)
def Bn6 {R:Type u}(c d:List Prop)(κ : List Prop->R):fC c d κ = κ (c++d):=by
 induction c generalizing κ with
 |nil=>rfl
 |cons p r ih=>simp only[fC,ih,BA0]
def fP {R:Type u}(x:PV)(κ : PV->R):R:=
 match x with
 |.v x=>match x with
  |.bool b=>κ (.v (.bool b))
  |.int k n=>κ (.v (.int k n))
  |x=>κ (.v x)
 |.bb b=>κ (.bb b)
 |.str l=>κ (.str l)
 |.agg cs=>κ (.agg cs)
 |.sl nn k n f=>κ (.sl nn k n f)
 |.ptr cs=>κ (.ptr cs)
 |.iface t a=>κ (.iface t a)
 |.fn f a b=>κ (.fn f a b)
mutual
def fA {R:Type u}(a:AV)(κ : AV->R):R:=
 match a with
 |.p x=>fP x λx=>κ (.p x)
 |.reg j off=>κ (.reg j off)
 |.vec j=>κ (.vec j)
 |.vecp j n=>κ (.vecp j n)
 |.elt j k i off=>κ (.elt j k i off)
 |.Se j=>κ (.Se j)
 |.clo f a b=>fL a λa=>fL b λb=>κ (.clo f a b)
 |.tup l=>fL l λl=>κ (.tup l)
 |.agr l=>fL l λl=>κ (.agr l)
 |.yf j=>κ (.yf j)
 |.rsl j n=>κ (.rsl j n)
 |.top=>κ .top
def fL {R:Type u}(l:List AV)(κ : List AV->R):R:=
 match l with
 |[]=>κ []
 |a::r=>fA a λa=>fL r λr=>κ (a::r)
end
def fO {R:Type u}(o:Obj)(κ : Obj->R):R:=
 match o with
 |.cells cs=>fL cs λcs=>κ (.cells cs)
 |.vec e k n f vw=>κ (.vec e k n f vw)
 |.map es=>κ (.map es)
 |.arr n f=>κ (.arr n f)
 |.blk l jr=>κ (.blk l jr)
 |.ghost cs=>fL cs λcs=>κ (.ghost cs)
 |.yld r b=>κ (.yld r b)
 |.fam e n jr x=>match x with
  |none=>κ (.fam e n jr none)
  |some (i,a)=>fA a λa=>κ (.fam e n jr (some (i,a)))
 |.rows n g=>κ (.rows n g)
 |.dead=>κ .dead
def fR {R:Type u}(l:C5)(κ : C5->R):R:=
 match l with
 |[]=>κ []
 |(j,o)::r=>fO o λo=>fR r λr=>κ ((j,o)::r)
def fE {R:Type u}(l:Env)(κ : Env->R):R:=
 match l with
 |[]=>κ []
 |(j,o)::r=>fA o λo=>fE r λr=>κ ((j,o)::r)
def Az7 {α : Type}{R:Type u}(k:Nat)(a : α)(l:List (Nat × α))(κ : List (Nat × α)->R):R:=
 match l with
 |[]=>κ [(k,a)]
 |(i,b)::r=>if i<k then κ ((k,a)::(i,b)::r)else if i=k then κ ((k,a)::r)else Az7 k a r λr=>κ ((i,b)::r)
def fP_eq {R:Type u}(x:PV)(κ : PV->R):fP x κ = κ x:=by
 cases x<;>try rfl
 rename_i x;cases x<;>rfl
mutual
def Ao9 {R:Type u}(a:AV)(κ : AV->R):fA a κ = κ a:=by cases a<;>simp only[fA,fP_eq,Bd0]
def Bd0 {R:Type u}(l:List AV)(κ : List AV->R):fL l κ = κ l:=by
 cases l with
 |nil=>rfl
 |cons a r=>simp only[fL,Ao9 a,Bd0 r]
end
def fO_eq {R:Type u}(o:Obj)(κ : Obj->R):fO o κ = κ o:=by
 cases o<;>simp only[fO,Bd0];rename_i x;rcases x with _|⟨i,a⟩
 .rfl
 simp only[Ao9]
def Bd1 {R:Type u}(l:C5)(κ : C5->R):fR l κ = κ l:=by
 induction l generalizing κ with
 |nil=>rfl
 |cons a r ih=>simp only[fR,fO_eq,ih]
def fE_eq {R:Type u}(l:Env)(κ : Env->R):fE l κ = κ l:=by
 induction l generalizing κ with
 |nil=>rfl
 |cons a r ih=>simp only[fE,Ao9,ih]
def KP {α : Type}{R:Type u}(k:Nat)(a : α)(l:List (Nat × α))(κ : List (Nat × α)->R):Az7 k a l κ = κ (ins k a l):=by
 induction l generalizing κ with
 |nil=>rfl
 |cons p r ih=>simp only[Az7,ins];split;rfl;split;rfl;rw[ih]
def Bd2:AV->Option Bool
 |.p (.v (.bool b))=>some b
 |_=>none
def Tc {a:AV}{b:Bool}(h:Bd2 a=some b):Pl a=some b:=by
 unfold Bd2 at h;split at h
 .simpa[Pl]using h
 cases h
def WK (want:Bool):AV->Option Bool
 |.p (.v (.bool true))=>some want
 |.p (.v (.bool false))=>some (!want)
 |.p (.v (.tuple _))=>some false
 |_=>none
def WL {want b:Bool}{a:AV}(h:WK want a=some b):∃v,yv a=some v/\(b=true↔v=some want):=by
 unfold WK at h;split at h
 .cases h;exact⟨_,rfl,by cases want<;>simp⟩
 .cases h;exact⟨_,rfl,by cases want<;>simp⟩
 .cases h;exact⟨_,rfl,by simp⟩
 cases h
inductive It:Type 1 where
 |code (c:Code)
 |blk (id:Nat)
 |lp (X:Type) (s:X->St) (J:X->Prop) (m:X->Nat) (n:Nat)
 |mid (M:St->Prop)
 |scp
section
variable (S:U8) (P:Program)
def kp:List It->J3->J3
 |[],F=>F
 |.code c::K,F=>thn S (awp S P c (kp K F)) (kp K F)
 |.blk id::K,F=>blk id (kp K F)
 |.lp _ s J m n::K,F=>lop S s J m n (kp K F)
 |.mid M::K,F=>thn S M (kp K F)
 |.scp::K,F=>scp (kp K F)
inductive Cfg:Type 1 where
 |code (c:Code) (K:List It) (st:St)
 |ops (all rest:List Oper) (K:List It) (st:St)
 |pop (e:JN) (K:List It) (st:St)
def G (F:J3):Cfg->Prop
 |.code c K st=>awp S P c (kp S P K F) st
 |.ops all rest K st=>JO S P all rest (kp S P K F) st
 |.pop e K st=>kp S P K F e st
structure Res:Type 1 where
 conds:List Prop
 cfg:Cfg
def AN3:Op->Bool
 |.lookup .. | .mapUpdate .. | .mapEntry .. | .entryStore .. | .panic _ | .next ..=>false
 |.call { callee:=.builtin _,.. }=>true
 |.call _=>false
 |_=>true
def isAt:Option Nat->Option Nat->Bool
 |some d,some e=>Nat.beq d e
 |_,_=>false
def AN4 (P:Program)(u:Option Nat)(all:List Oper)(K:List It):List Oper->List Prop->Env->C5->(List Prop->St->Res)->Res
 |[],c,env,Qw,κ=>κ c ⟨env,Qw⟩
 |o::rest,c,env,Qw,κ=>
  match isAt u o.dst with
  |true=>⟨c,.ops all (o::rest) K ⟨env,Qw⟩⟩
  |false=>match (match o.guard with
   |none=>some true
   |some (j,want)=>WK want (get env (FO all j)):Option Bool)with
  |some true=>match AN3 o.op with
   |true=>match aop P env Qw (o.dst.getD 0) o.op with
    |none=>⟨c,.ops all (o::rest) K ⟨env,Qw⟩⟩
    |some ⟨p,v,regs'⟩=>fA v λv=>fR regs' λregs'=>fC p c λc=>
     match o.dst with
     |some d=>Az7 d v env λenv=>AN4 P u all K rest c env regs' κ
     |none=>AN4 P u all K rest c env regs' κ
   |false=>⟨c,.ops all (o::rest) K ⟨env,Qw⟩⟩
  |some false=>match o.dst with
   |some d=>Az7 d Cl env λenv=>AN4 P u all K rest c env Qw κ
   |none=>AN4 P u all K rest c env Qw κ
  |none=>⟨c,.ops all (o::rest) K ⟨env,Qw⟩⟩
def run (P:Program)(u:Option Nat):Nat->List Prop->Cfg->Res
 |0,c,g=>⟨c,g⟩
 |n+1,c,g=>
  match g with
  |.code x K st=>match x with
   |.skip=>run P u n c (.pop .normal K st)
   |.label _=>run P u n c (.pop .normal K st)
   |.region _ ops false=>AN4 P u ops.toList K ops.toList c st.env st.Qw λc st=>run P u n c (.pop .normal K st)
   |.seq a b=>run P u n c (.code a (.code b::K) st)
   |.cond o t e=>match Bd2 (aev st.env o)with
    |some true=>run P u n c (.code t K st)
    |some false=>run P u n c (.code e K st)
    |none=>⟨c,.code (.cond o t e) K st⟩
   |.block id b=>run P u n c (.code b (.blk id::K) st)
   |.scope b=>run P u n c (.code b (.scp::K) st)
   |.exit id=>run P u n c (.pop (.exit id) K st)
   |.ret=>run P u n c (.pop .ret K st)
   |x=>⟨c,.code x K st⟩
  |.ops all rest K st=>AN4 P u all K rest c st.env st.Qw λc st=>run P u n c (.pop .normal K st)
  |.pop e K st=>match e,K with
   |.normal,.code x::K=>run P u n c (.code x K st)
   |.normal,.blk _::K=>run P u n c (.pop .normal K st)
   |.normal,.scp::K=>run P u n c (.pop .normal K st)
   |.exit i,.blk id::K=>if i=id then run P u n c (.pop .normal K st)else run P u n c (.pop (.exit i) K st)
   |.exit i,.code _::K=>run P u n c (.pop (.exit i) K st)
   |.exit i,.lp _ _ _ _ _::K=>run P u n c (.pop (.exit i) K st)
   |.exit i,.mid _::K=>run P u n c (.pop (.exit i) K st)
   |.exit i,.scp::K=>run P u n c (.pop (.exit i) K st)
   |.ret,_::K=>run P u n c (.pop .ret K st)
   |.panic x,_::K=>run P u n c (.pop (.panic x) K st)
   |e,K=>⟨c,.pop e K st⟩
end
section
variable {S:U8}{P:Program}{F:J3}
def OX {o:Oper}{k:St->Prop}{Q:J3}{st:St}{p:List Prop}{v:AV}{regs' : C5}(ha:AN3 o.op=true)
 (h:aop P st.env st.Qw (o.dst.getD 0) o.op=some ⟨p,v,regs'⟩) (hp:C6 p) (hk:k (put { st with Qw:=regs' } o.dst v)):wOp S P o k Q st:=by
 unfold wOp;split
 .rename_i f args types a;rw[a]at ha;simp[AN3]at ha
 .rename_i r m args types a;rw[a]at ha;simp[AN3]at ha
 .rename_i x a;rw[a]at ha;simp[AN3]at ha
 .rename_i x a;rw[a]at ha;simp[AN3]at ha
 exact .inl ⟨_,h,hp,hk⟩
def Az8 {u:Option Nat}(hS:G0 S P)(all:List Oper)(K:List It)(κ : List Prop->St->Res)
 (hκ : ∀c st,C6 (κ c st).conds->C6 c/\(G S P F (κ c st).cfg->kp S P K F .normal st)) :
 ∀(rest:List Oper) (c:List Prop) (env:Env) (Qw:C5),C6 (AN4 P u all K rest c env Qw κ).conds ->
  C6 c/\(G S P F (AN4 P u all K rest c env Qw κ).cfg->JO S P all rest (kp S P K F) ⟨env,Qw⟩):=by
 intro rest
 induction rest with
 |nil=>intro c env Qw h;exact hκ _ _ h
 |cons o rest ih=>
  intro c env Qw h;simp only[AN4]at h⊢;cases n:isAt u o.dst with
  |true=>simp only[n]at h⊢;exact⟨h,λhw=>hw⟩
  |false=>
  simp only[n]at h⊢;have g:∀(b:Bool),(match o.guard with
   |none=>some true
   |some (j,want)=>WK want (get env (FO all j)):Option Bool)=some b ->
    ((b=true->wOp S P o (JO S P all rest (kp S P K F)) (kp S P K F) ⟨env,Qw⟩->JO S P all (o::rest) (kp S P K F) ⟨env,Qw⟩) /\
     (b=false->JO S P all rest (kp S P K F) (put ⟨env,Qw⟩ o.dst Cl)->JO S P all (o::rest) (kp S P K F) ⟨env,Qw⟩)):=by
   intro b hb;cases a:o.guard with
   |none=>simp only[a]at hb;cases hb;exact⟨λ_ hw=>by simp only[JO];refine hS.refl _ _ ?_;simp only[a];exact hw,λh=>by cases h⟩
   |some q=>
    obtain⟨j,want⟩:=q;simp only[a]at hb;obtain⟨v,r,m⟩:=WL hb;refine⟨λht hw=>?_,λs hw=>?_⟩
    .simp only[JO];refine hS.refl _ _ ?_;simp only[a];exact⟨v,r,by rw[Gy (m.1 ht)];exact hw⟩
    simp only[JO];refine hS.refl _ _ ?_;simp only[a];exact⟨v,r,by rw[Hj (λe=>by have:=m.2 e;rw[s]at this;cases this)];exact hw⟩
  split at h
  .rename_i hb;have g:=(g true (by simpa using hb)).1 rfl
   try simp only[hb]
   split at h
   .rename_i ha
    try simp only[ha]
    split at h
    .rename_i hn
     try simp only[hn]
     exact⟨h,λhw=>hw⟩
    rename_i p v regs' hs;simp only[Ao9,Bd1,Bn6]at h⊢;cases f:o.dst with
    |some d=>simp only[f,KP]at h⊢;obtain⟨i,hk⟩:=ih _ _ _ h;obtain⟨hc,hp⟩:=(CE _ _).1 i;refine⟨hc,λl=>g (OX ha hs hp ?_)⟩;rw[f];exact hk l
    |none=>simp only[f]at h⊢;obtain⟨i,hk⟩:=ih _ _ _ h;obtain⟨hc,hp⟩:=(CE _ _).1 i;refine⟨hc,λl=>g (OX ha hs hp ?_)⟩;rw[f];exact hk l
   rename_i ha
   try simp only[ha]
   exact⟨h,λhw=>hw⟩
  .rename_i hb;have g:=(g false (by simpa using hb)).2 rfl
   try simp only[hb]
   cases f:o.dst with
   |some d=>simp only[f,KP]at h⊢;obtain⟨hc,hk⟩:=ih _ _ _ h;exact⟨hc,λl=>g (by rw[f];exact hk l)⟩
   |none=>simp only[f]at h⊢;obtain⟨hc,hk⟩:=ih _ _ _ h;exact⟨hc,λl=>g (by rw[f];exact hk l)⟩
  rename_i hb
  try simp only[hb]
  exact⟨h,λhw=>hw⟩
def GT {u:Option Nat}(hS:G0 S P):∀(n:Nat) (c:List Prop) (g:Cfg),C6 (run P u n c g).conds->C6 c/\(G S P F (run P u n c g).cfg->G S P F g):=by
 intro n
 induction n with
 |zero=>intro c g h;exact⟨h,λhw=>hw⟩
 |succ n ih=>
  intro c g h;simp only[run]at h⊢;cases g with
  |code x K st=>
   cases x with
   |skip=>exact ih _ _ h
   |label l=>exact ih _ _ h
   |region id ops draw=>
    cases draw with
    |false=>obtain⟨hc,hk⟩:=Az8 (S:=S) (F:=F) hS ops.toList K _ (λc st h=>ih c (.pop .normal K st) h) _ _ _ _ h;exact⟨hc,λd=>by simp only[G,awp];exact hk d⟩
    |true=>exact⟨h,λhw=>hw⟩
   |seq a b=>exact ih _ _ h
   |cond o t e=>
    simp only at h⊢;split at h
    .rename_i f;try simp only[f]
     obtain⟨hc,hk⟩:=ih _ _ h;exact⟨hc,λd=>⟨true,Tc f,hk d⟩⟩
    .rename_i f;try simp only[f]
     obtain⟨hc,hk⟩:=ih _ _ h;exact⟨hc,λd=>⟨false,Tc f,hk d⟩⟩
    exact⟨h,λd=>d⟩
   |block id b=>exact ih _ _ h
   |scope b=>exact ih _ _ h
   |exit id=>exact ih _ _ h
   |ret=>exact ih _ _ h
   |loop b=>exact⟨h,λhw=>hw⟩
   |goto l=>exact⟨h,λhw=>hw⟩
   |rangeFunc g ps asg body=>exact⟨h,λhw=>hw⟩
   |refuse w=>exact⟨h,λhw=>hw⟩
  |ops all rest K st=>exact Az8 (S:=S) (F:=F) hS all K _ (λc st h=>ih c (.pop .normal K st) h) _ _ _ _ h
  |pop e K st=>
   cases e with
   |normal=>
    cases K with
    |nil=>exact⟨h,λhw=>hw⟩
    |cons i K=>
     cases i with
     |code x=>obtain⟨hc,hk⟩:=ih _ _ h;exact⟨hc,λd=>hS.refl _ _ (hk d)⟩
     |blk id=>exact ih _ _ h
     |lp X s J m k=>exact⟨h,λhw=>hw⟩
     |mid M=>exact⟨h,λhw=>hw⟩
     |scp=>exact ih _ _ h
   |exit j=>
    cases K with
    |nil=>exact⟨h,λhw=>hw⟩
    |cons i K=>
     cases i with
     |code x=>exact ih _ _ h
     |blk id=>
      simp only at h⊢;by_cases q:j=id
      .simp only[q,Lc]at h⊢;obtain⟨hc,hk⟩:=ih _ _ h;exact⟨hc,λd=>by simp only[G,kp,blk,Lc];exact hk d⟩
      simp only[q,Ld]at h⊢;obtain⟨hc,hk⟩:=ih _ _ h;exact⟨hc,λd=>by simp only[G,kp,blk,q,Ld];exact hk d⟩
     |lp X s J m k=>exact ih _ _ h
     |mid M=>exact ih _ _ h
     |scp=>exact ih _ _ h
   |ret=>
    cases K with
    |nil=>exact⟨h,λhw=>hw⟩
    |cons i K=>cases i<;>exact ih _ _ h
   |panic x=>
    cases K with
    |nil=>exact⟨h,λhw=>hw⟩
    |cons i K=>cases i<;>exact ih _ _ h
   |goto l=>cases K<;>exact⟨h,λhw=>hw⟩
def go (hS:G0 S P){g g' : Cfg}{c:List Prop}(h:run P none 400 [] g=⟨c,g'⟩)(hc:C6 c)(hk:G S P F g'):G S P F g:=by
 have:=GT (F:=F) hS 400 [] g (by rw[h];exact hc)
 rw[h]at this;exact this.2 hk
end
def Sb (S:U8)(f:FuncId)(args:List AV)(objs:List Obj)(r:AV)(objs' : List Obj)(ks:List Bool):Prop:= S.F f args objs λres o k=>res=.ret r/\o=objs' /\ k=ks
def WM (S:U8)(f:FuncId)(args:List AV)(r:AV):Prop:=Sb S f args [] r [] []
def Sb.le {S:U8}{P:Program}(hS:G0 S P){f:FuncId}{args args' : List AV}{objs:List Obj}{r:AV}{objs' : List Obj}{ks:List Bool}(h:WJ args args')(a:Sb S f args' objs r objs' ks):Sb S f args objs r objs' ks:=hS.argLe _ _ _ _ _ h a
def LH {nn:Bool}{k n m:Nat}{f g:Nat->List PV}(hn:n=m)(h:∀i,i<n->f i=g i):AV.p (.sl nn k n f)=.p (.sl false k m g) \/ ∃x y,AV.p (.sl nn k n f)=.p x/\AV.p (.sl false k m g)=.p y/\leQ x y:=by subst hn;exact .inr ⟨_,_,rfl,rfl,.p (.inr (.inl ⟨_,_,_,_,_,rfl,rfl,h⟩))⟩
def leC0:leC [] []:=⟨rfl,λ_=>.p (.inl rfl)⟩
def leCq {x y:PV}{xs ys:List PV}(h:leQ x y)(hs:leC xs ys):leC (x::xs) (y::ys):=
 ⟨by rw[BA2,BA2,hs.1],λj=>by cases j with
  |zero=>exact h
  |succ j=>exact hs.2 j⟩
def Ie {x y:PV}{xs ys:List PV}(h:leP x y)(hs:leC xs ys):leC (x::xs) (y::ys):=leCq (.p h) hs
def Bw9 {k:Nat}{g:Nat->List PV}:leP (.v (.slice none 0 0)) (.sl false k 0 g):=.inr (.inr (.inl ⟨_,_,rfl,rfl⟩))
def lePT {b:Bool}:leP (.v (.bool b)) (.bb b):=.inr (.inr (.inr (.inl ⟨_,rfl,rfl⟩)))
def Bn (all:List Oper)(env:Env)(o:Oper):Option Bool:=
 match o.guard with
 |none=>some true
 |some (j,want)=>WK want (get env (FO all j))
section
variable {S:U8}{P:Program}{F:J3}{K:List It}{st:St}
def Bo (hS:G0 S P){all rest:List Oper}{o:Oper}{Q:J3}(a:Bn all st.env o=some true)
 (h:wOp S P o (JO S P all rest Q) Q st):JO S P all (o::rest) Q st:=by
 unfold Bn at a;simp only[JO];refine hS.refl _ _ ?_;cases b:o.guard with
 |none=>exact h
 |some q=>obtain⟨j,want⟩:=q;simp only[b]at a;obtain⟨v,d,c⟩:=WL a;exact⟨v,d,by rw[Gy (c.1 rfl)];exact h⟩
def Bn7 {c:Operand}{t e:Code}{b:Bool}(hc:aev st.env c=.p (.bb b))
 (ht:b=true->G S P F (.code t K st)) (a:b=false->G S P F (.code e K st)):G S P F (.code (.cond c t e) K st):=by
 refine⟨b,by rw[hc];rfl,?_⟩;cases b
 .exact a rfl
 exact ht rfl
def Zr (hS:G0 S P){all rest:List Oper}{o:Oper}(hle:S.up st λst1=>G S P F (.ops all (o::rest) K st1)):G S P F (.ops all (o::rest) K st):=
 hS.trans _ _ hle
def Bn8 (all:List Oper)(j:Nat):Option Nat:=match all[j]? with
 |some o=>o.dst
 |none=>none
def Bd3 (hS:G0 S P){all rest:List Oper}{o:Oper}{j d:Nat}{want b:Bool}(_hg:o.guard=some (j,want))(c:Bn8 all j=some d)(hb:get st.env d=.p (.bb b))
 (ht:b=true->G S P F (.ops all (o::rest) K ⟨ins d (.p (.v (.bool true))) st.env,st.Qw⟩))
 (a:b=false->G S P F (.ops all (o::rest) K ⟨ins d (.p (.v (.bool false))) st.env,st.Qw⟩)):G S P F (.ops all (o::rest) K st):=by
 refine Zr hS (hS.bool st _ b _ hb ?_);cases b
 .exact a rfl
 exact ht rfl
def Bn9 (hS:G0 S P){all rest:List Oper}{o:Oper}(t:Nat){k n:Nat}{f:Nat->List PV}(hb:get st.env t=.p (.sl false k n f))
 (ht:n=0->G S P F (.ops all (o::rest) K ⟨ins t (.p (.v (.slice none 0 0))) st.env,st.Qw⟩))
 (a:G S P F (.ops all (o::rest) K ⟨ins t (.p (.sl true k n f)) st.env,st.Qw⟩)):G S P F (.ops all (o::rest) K st):=
 Zr hS (hS.nil st t k n f _ hb ht a)
def AY6 (hS:G0 S P){all rest:List Oper}{o:Oper}{out:Out}(d:Bn all st.env o=some true)(ha:aop P st.env st.Qw (o.dst.getD 0) o.op=some out)
 (hn:∀c,o.op=.call c->∃b,c.callee=.builtin b) (hp:∀x,o.op ≠ .panic x) (hc:C6 out.cond)
 (hk:G S P F (.ops all rest K (put { st with Qw:=out.Qw } o.dst out.val))):G S P F (.ops all (o::rest) K st):=by
 refine Bo hS d ?_;unfold wOp;split
 .rename_i f args types a;obtain⟨b,hb⟩:=hn _ a;simp at hb
 .rename_i r m args types a;obtain⟨b,hb⟩:=hn _ a;simp at hb
 .rename_i x a;exact Ij a (hp x)
 .rename_i a;rw[a]at ha;simp[aop]at ha
 exact .inl ⟨_,ha,hc,hk⟩
def Bd4 (hS:G0 S P){all rest:List Oper}{o:Oper}{c:Call}{f:Operand}{as:List AV}{Qw:C5}{fn:FuncId}{as' args:List AV}{objs objs' : List Obj}{ks:List Bool}{r:AV}(ids:List Nat)
 (d:Bn all st.env o=some true) (g:o.op=.call c) (b:c.callee=.value f) (ha:Im st.Qw (c.args.toList.map (aev st.env))=some (as,Qw))
 (hw:Ta st.env f as=some (fn,as')) (i:DP ids as' = some args) (a:M0 ids Qw ids=some objs) (j:Sb S fn args objs r objs' ks)
 (l:H5 ids=true) (hy:Fu objs=true) (hn:X1 Qw ids ks (o.dst.getD 0) objs'.length=true)
 (hk:G S P F (.ops all rest K (put { env:=st.env,Qw:=back (G7 (o.dst.getD 0) ids ks objs'.length) (G7 (o.dst.getD 0) ids ks objs'.length) objs' (J9 ids ks Qw) } o.dst (unA (G7 (o.dst.getD 0) ids ks objs'.length) r)))) :
 G S P F (.ops all (o::rest) K st):=by
 refine Bo hS d ?_;unfold wOp;obtain⟨callee,cargs,types⟩:=c;simp only at b ha;subst b;rw[g];refine .inl ⟨as,Qw,_,_,.inl ha,hw,ids,args,objs,l,i,a,hy,hS.monoF _ _ _ _ _ ?_ j⟩;rintro _ _ _ ⟨rfl,rfl,rfl⟩;exact⟨hn,hk⟩
def Bd5 (hS:G0 S P){all rest:List Oper}{o:Oper}{c:Call}{f:Operand}{fn:FuncId}{as' args:List AV}{objs objs' : List Obj}{ks:List Bool}{r:AV}(ids:List Nat)
 (d:Bn all st.env o=some true) (g:o.op=.call c) (b:c.callee=.value f)
 (hw:Ta st.env f (c.args.toList.map (aev st.env))=some (fn,as')) (i:DP ids as' = some args) (a:M0 ids st.Qw ids=some objs) (j:Sb S fn args objs r objs' ks)
 (l:H5 ids=true) (hy:Fu objs=true) (hn:X1 st.Qw ids ks (o.dst.getD 0) objs'.length=true)
 (hk:G S P F (.ops all rest K (put { env:=st.env,Qw:=back (G7 (o.dst.getD 0) ids ks objs'.length) (G7 (o.dst.getD 0) ids ks objs'.length) objs' (J9 ids ks st.Qw) } o.dst (unA (G7 (o.dst.getD 0) ids ks objs'.length) r)))) :
 G S P F (.ops all (o::rest) K st):=by
 refine Bo hS d ?_;unfold wOp;obtain⟨callee,cargs,types⟩:=c;simp only at b hw;subst b;rw[g];refine .inl ⟨_,st.Qw,_,_,.inr ⟨rfl,rfl⟩,hw,ids,args,objs,l,i,a,hy,hS.monoF _ _ _ _ _ ?_ j⟩;rintro _ _ _ ⟨rfl,rfl,rfl⟩;exact⟨hn,hk⟩
def Ai0 (hS:G0 S P){b:Code}{X:Type}(s:X->St)(J:X->Prop)(m:X->Nat)(x0:X)(ids:List (Nat×Nat))(hle:Le ids st (s x0))(a:J x0)
 (c:∀x,J x->G S P F (.code b (.lp X s J m (m x)::K) (s x))):G S P F (.code (.loop b) K st):=
 ⟨X,s,J,m,hS.le ids _ _ _ hle ⟨x0,rfl,a⟩,c⟩
def Zs (hS:G0 S P){X:Type}{s:X->St}{J:X->Prop}{m:X->Nat}{n:Nat}(x:X)(ids:List (Nat×Nat))(hle:Le ids st (s x))(a:J x)(hm:m x<n) :G S P F (.pop .normal (.lp X s J m n::K) st):=hS.le ids _ _ _ hle ⟨x,rfl,a,hm⟩
def le_p {Qw:C5}{ids:List (Nat×Nat)}{a:AV}{y:PV}(h:viewP Qw a=some y):leA Qw ids a (.p y):=by unfold leA;exact⟨y,h,.inl rfl⟩
def Bo0 {Qw:C5}{ids:List (Nat×Nat)}{i j:Nat}(h:lk ids j=some i):leA Qw ids (.vec i) (.vec j):=by unfold leA;exact .inl ⟨i,h,rfl⟩
def Bd6 {Qw:C5}{ids:List (Nat×Nat)}{j:Nat}(h:lk ids j=none):leA Qw ids (.p (.v (.slice none 0 0))) (.vec j):=by unfold leA;exact .inr ⟨h,rfl⟩
def Bo1 {Qw:C5}{ids:List (Nat×Nat)}{i j off:Nat}(h:lk ids j=some i):leA Qw ids (.reg i off) (.reg j off):=by unfold leA;exact⟨i,h,rfl⟩
def Bd7 {Qw:C5}{ids:List (Nat×Nat)}{i j:Nat}(h:lk ids j=some i):leA Qw ids (.Se i) (.Se j):=by unfold leA;exact⟨i,h,rfl⟩
def Bo2 {Qw:C5}{ids:List (Nat×Nat)}{f:FuncId}{a b c d:List AV}(h:leL Qw ids a c)(h' : leL Qw ids b d):leA Qw ids (.clo f a b) (.clo f c d):=by unfold leA;exact⟨a,b,rfl,h,h'⟩
def Bd8 {Qw:C5}{ids:List (Nat×Nat)}:leL Qw ids [] []:=by unfold leL;rfl
def AN5 {Qw:C5}{ids:List (Nat×Nat)}{a b:AV}{l m:List AV}(h:leA Qw ids a b)(h' : leL Qw ids l m):leL Qw ids (a::l) (b::m):=by unfold leL;exact⟨a,l,rfl,h,h'⟩
def Bo3 {Qw:C5}{ids:List (Nat×Nat)}{env:Env}{t:Nat}{b:AV}{r:Env}{a:AV}(c:get env t=a)(h:leA Qw ids a b)(h' : Uu Qw ids env r):Uu Qw ids env ((t,b)::r):=by subst c;exact⟨h,h'⟩
def AN6 {Qw:C5}{ids:List (Nat×Nat)}{l m:List AV}(h:leL Qw ids l m):leO Qw ids (.cells l) (.cells m):=⟨l,rfl,h⟩
def le_mk {s t:St}{ids:List (Nat×Nat)}(h1:(wf t&&H5 (ids.map (·.2))&&Ao8 ids&&Tb ids t.Qw&&NG ids (seen s.env t.env++LG ids s.Qw t.Qw) t.Qw)=true)
 (a:Uu s.Qw ids s.env t.env) (b:WI s.Qw ids t.Qw):Le ids s t:=by
 simp only[By5]at h1;exact⟨⟨h1.1.1.1.1,h1.1.1.1.2,h1.1.1.2,h1.1.2,h1.2⟩,a,b⟩
section
variable {n:Nat}{rs:List ResultVar}{Q:ARes->List Obj->List Bool->Prop}{l:List AV}{a:AV}
end
def Az9 (hS:G0 S P){f:FuncId}{fn:Func}{code:Code}{args:List AV}{objs objs' : List Obj}{ks:List Bool}{r:AV}{rs:List ResultVar}(d:P.funcs[f]? = some fn)(hc:fn.body=some code)(hn:args.length<=fn.ntmps)(g:objs.length<1000)
 (a:fn.results.toList=rs) (b:Bm fn.ntmps code=true) (c:(fn.name == "runtime.NumGoroutine")=false)
 (h:G S P (Cm S P objs.length rs λres o k=>res=.ret r/\o=objs' /\ k=ks) (.code code [] { env:=Ss args,Qw:=Sa objs })):Sb S f args objs r objs' ks:=by
 subst a;exact hS.func f fn code args objs _ d hc c b hn g (hS.refl _ _ h)
end
def Ext (w w' : World):Prop:=w'.os=w.os/\w'.output=w.output
def Ext.refl (w:World):Ext w w:=⟨rfl,rfl⟩
def Ext.trans {w w' w'' : World}(h:Ext w w')(h' : Ext w' w''):Ext w w'':=⟨h'.1.trans h.1,h'.2.trans h.2⟩
inductive Sd (w:World) (Pi:Nat->Nat->Prop):Value->PV->Prop
 |v (x:Value):Sd w Pi x (.v x)
 |bb (b:Bool):Sd w Pi (.bool b) (.bb b)
 |str (l:List UInt8):Sd w Pi (.string ⟨l.toArray⟩) (.str l)
 |agg (vs:Array Value) (cs:List PV) (hs:vs.size=cs.length) (h1:∀i,i<cs.length->(vs.getD i undef).oneCell' = true)
  (h:∀i,i<cs.length->Sd w Pi (vs.getD i undef) (cs.getD i default)):Sd w Pi (.agg vs) (.agg cs)
 |slnil (k:Nat) (f:Nat->List PV):Sd w Pi (.slice none 0 0) (.sl false k 0 f)
 |sl (nn:Bool) (b off cap k n:Nat) (f:Nat->List PV) (c:Nat->Nat->Value) (hn:n<=cap) (hk:∀i,i<n->(f i).length=k)
  (hc:∀i j,i<n->j<k->w.cell? ⟨b,off+i*k+j,none⟩=some (c i j)/\¬Pi b (off+i*k+j)/\(c i j).oneCell' = true)
  (h:∀i j,i<n->j<k->Sd w Pi (c i j) ((f i).getD j default)) (sp:Option Nat) (hsp:0<n->sp=none):Sd w Pi (.slice (some ⟨b,off,sp⟩) n cap) (.sl nn k n f)
 |ptr (b off:Nat) (cs:List PV) (c:Nat->Value) (hc:∀j,j<cs.length->w.cell? ⟨b,off+j,none⟩=some (c j)/\¬Pi b (off+j)/\(c j).oneCell' = true)
  (h:∀j,j<cs.length->Sd w Pi (c j) (cs.getD j default)):Sd w Pi (.pointer (some ⟨b,off,none⟩)) (.ptr cs)
 |iface (t:TypeId) (x:Value) (a:PV) (h:Sd w Pi x a):Sd w Pi (.iface t x) (.iface t a)
 |fn (f:FuncId) (x y:Array Value) (a b:List PV) (hx:x.size=a.length) (hy:y.size=b.length)
  (ha:∀i,i<a.length->Sd w Pi (x.getD i undef) (a.getD i default)) (hb:∀i,i<b.length->Sd w Pi (y.getD i undef) (b.getD i default)) :
  Sd w Pi (.func (.func f) x y) (.fn f a b)
def Sc (w:World)(Pi:Nat->Nat->Prop)(w' : World)(Pi' : Nat->Nat->Prop):Prop:= ∀b o v,¬Pi b o->w.cell? ⟨b,o,none⟩=some v->w'.cell? ⟨b,o,none⟩=some v/\¬Pi' b o
def Sc.refl (w:World)(Pi:Nat->Nat->Prop):Sc w Pi w Pi:=λ_ _ _ h h'=>⟨h',h⟩
def Sc.trans {w w' w'' : World}{p p' p'' : Nat->Nat->Prop}(h:Sc w p w' p')(h' : Sc w' p' w'' p''):Sc w p w'' p'':=
 λb o v hp hc=>let ⟨a,c⟩:=h b o v hp hc;h' b o v c a
def Sd.keeps {w w' : World}{Pi Pi' : Nat->Nat->Prop}(hk:Sc w Pi w' Pi'){v:Value}{x:PV}(h:Sd w Pi v x):Sd w' Pi' v x:=by
 induction h with
 |v x=>exact .v x
 |bb b=>exact .bb b
 |str l=>exact .str l
 |agg vs cs hs h1 h ih=>exact .agg vs cs hs h1 ih
 |slnil k f=>exact .slnil k f
 |sl nn b off cap k n f c hn hk' hc h sp hsp ih=>refine .sl nn b off cap k n f c hn hk' (λi j r d=>?_) ih sp hsp;obtain⟨h1,g,m⟩:=hc i j r d;obtain⟨o,q⟩:=hk _ _ _ g h1;exact⟨o,q,m⟩
 |ptr b off cs c hc h ih=>refine .ptr b off cs c (λj d=>?_) ih;obtain⟨h1,g,m⟩:=hc j d;obtain⟨o,q⟩:=hk _ _ _ g h1;exact⟨o,q,m⟩
 |iface t x a h ih=>exact .iface t x a ih
 |fn f x y a b hx hy ha hb iha ihb=>exact .fn f x y a b hx hy iha ihb
def Sd.nP {w:World}{Pi:Nat->Nat->Prop}{v:Value}{x:PV}(h:Sd w Pi v x):Sd w Pi v (nP x):=by
 cases x with
 |v y=>cases h;cases v<;>first|exact .v _|exact .bb _
 |_=>exact h
def Sd.leP {w:World}{Pi:Nat->Nat->Prop}{v:Value}{x y:PV}(hl:leP x y)(h:Sd w Pi v x):Sd w Pi v y:=by
 rcases hl with rfl|⟨nn,k,n,f,g,rfl,rfl,d⟩ | ⟨k,f,rfl,rfl⟩ | ⟨b,rfl,rfl⟩ | ⟨b,rfl,rfl⟩
 .exact h
 .cases h with
  |slnil=>exact .slnil _ _
  |sl _ b off cap _ _ _ c hn hk hc h sp hsp=>exact .sl false b off cap k n g c hn (λi a=>by rw[<- d i a];exact hk i a) hc (λi j a l=>by rw[<- d i a];exact h i j a l) sp hsp
 .cases h;exact .slnil _ _
 .cases h;exact .bb _
 cases h;exact .v _
def Sd.leQ {w:World}{Pi:Nat->Nat->Prop}{v:Value}{x y:PV}(hl:Go.AM.leQ x y)(h:Sd w Pi v x):Sd w Pi v y:=by
 induction hl generalizing v with
 |p hl=>exact h.leP hl
 | @sl nn k n f g hl hq ih=>
  cases h with
  |slnil=>exact .slnil _ _
  |sl _ b off cap _ _ _ c hn hk hc h sp hsp=>exact .sl false b off cap k n g c hn (λi a=>by rw[<- hl i a];exact hk i a) hc (λi j a d=>ih i j a (h i j a d)) sp hsp
 | @agg xs ys hl hq ih=>
  cases h with
  |agg vs _ hs h1 h=>exact .agg vs ys (hs.trans hl) (λi a=>h1 i (by rw[hl];exact a)) (λi a=>ih i (h i (by rw[hl];exact a)))
def Sd.cell {w:World}{Pi:Nat->Nat->Prop}{v:Value}{x:PV}(h:Sd w Pi v x)(hx:JM x=true):v.oneCell' = true:=by
 cases h with
 |v=>cases v<;>simp_all [JM,Value.oneCell']
 |agg=>simp[JM]at hx
 |_=>rfl
inductive Sq (w:World) (Pi:Nat->Nat->Prop) (live:Nat->Prop) (rho:Nat->Value):Value->AV->Prop
 |p (v:Value) (x:PV) (h:Sd w Pi v x):Sq w Pi live rho v (.p x)
 |reg (j off b:Nat) (hl:live j) (h:rho j=.pointer (some ⟨b,0,none⟩)):Sq w Pi live rho (.pointer (some ⟨b,off,none⟩)) (.reg j off)
 |vec (j:Nat) (base:Option Addr) (n cap:Nat) (hl:live j) (h:rho j=.slice base n cap):Sq w Pi live rho (.slice base n cap) (.vec j)
 |vecp (j m:Nat) (base:Option Addr) (n cap:Nat) (hl:live j) (h:rho j=.slice base n cap) (hm:m<=n):Sq w Pi live rho (.slice base m cap) (.vecp j m)
 |elt (j k i off b n cap:Nat) (hl:live j) (h:rho j=.slice (some ⟨b,0,none⟩) n cap):Sq w Pi live rho (.pointer (some ⟨b,i*k+off,none⟩)) (.elt j k i off)
 |Se (j r:Nat) (hl:live j) (h:rho j=.map (some r)):Sq w Pi live rho (.map (some r)) (.Se j)
 |clo (f:FuncId) (x y:Array Value) (a b:List AV) (hx:x.size=a.length) (hy:y.size=b.length)
  (ha:∀i,i<a.length->Sq w Pi live rho (x.getD i undef) (a.getD i .top)) (hb:∀i,i<b.length->Sq w Pi live rho (y.getD i undef) (b.getD i .top)) :
  Sq w Pi live rho (.func (.func f) x y) (.clo f a b)
 |tup (x:Array Value) (a:List AV) (hx:x.size=a.length) (ha:∀i,i<a.length->Sq w Pi live rho (x.getD i undef) (a.getD i .top)):Sq w Pi live rho (.tuple x) (.tup a)
 |agr (x:Array Value) (a:List AV) (hx:x.size=a.length) (h1:∀i,i<a.length->(x.getD i undef).oneCell' = true)
  (ha:∀i,i<a.length->Sq w Pi live rho (x.getD i undef) (a.getD i .top)):Sq w Pi live rho (.agg x) (.agr a)
 |yf (j l:Nat) (hl:live j) (h:rho j=.func (.yield l) #[] #[]):Sq w Pi live rho (.func (.yield l) #[] #[]) (.yf j)
 |rsl (j n b:Nat) (hl:live j) (h:rho j=.pointer (some ⟨b,0,none⟩)):Sq w Pi live rho (.slice (some ⟨b,0,none⟩) n n) (.rsl j n)
 |top (v:Value):Sq w Pi live rho v .top
def Sq.keeps {w w' : World}{Pi Pi' : Nat->Nat->Prop}{live live' : Nat->Prop}{rho rho' : Nat->Value}(hk:Sc w Pi w' Pi')
 (hl:∀j,live j->live' j/\rho' j=rho j) {v:Value}{a:AV}(h:Sq w Pi live rho v a):Sq w' Pi' live' rho' v a:=by
 induction h with
 |p v x h=>exact .p v x (h.keeps hk)
 |reg j off b hj h=>obtain⟨a,c⟩:=hl j hj;exact .reg j off b a (c.trans h)
 |vec j base n cap hj h=>obtain⟨a,c⟩:=hl j hj;exact .vec j base n cap a (c.trans h)
 |vecp j m base n cap hj h hm=>obtain⟨a,c⟩:=hl j hj;exact .vecp j m base n cap a (c.trans h) hm
 |elt j k i off b n cap hj h=>obtain⟨a,c⟩:=hl j hj;exact .elt j k i off b n cap a (c.trans h)
 |Se j r hj h=>obtain⟨a,c⟩:=hl j hj;exact .Se j r a (c.trans h)
 |clo f x y a b hx hy ha hb iha ihb=>exact .clo f x y a b hx hy iha ihb
 |tup x a hx ha ih=>exact .tup x a hx ih
 |agr x a hx h1 ha ih=>exact .agr x a hx h1 ih
 |yf j l hj h=>obtain⟨a,c⟩:=hl j hj;exact .yf j l a (c.trans h)
 |rsl j n b hj h=>obtain⟨a,c⟩:=hl j hj;exact .rsl j n b a (c.trans h)
 |top v=>exact .top v
def Bx0 (l:List Nat)(b:Nat)(v:Value):Go.Obj:=match l with
 |0::T::u::_=>.cells #[if u=0 then .pointer none else .pointer (some ⟨b,0,none⟩),v] T (0,0)
 |_::cl::last::seen=>.mapIter (match v with | .map r=>r|_=>none) cl seen.reverse.toArray last
 |_=>.cells #[] 0 (0,0)
def N1 (h:Value):Obj->Option Nat
 |.cells _=>match h with | .pointer (some a)=>some a.block|_=>none
 |.vec _ _ _ _ _=>match h with | .slice (some a) _ _=>some a.block|_=>none
 |.map _=>match h with | .map r=>r|_=>none
 |.arr _ _=>match h with | .pointer (some a)=>some a.block|_=>none
 |.blk _ _=>match h with | .pointer (some a)=>some a.block|_=>none
 |.fam _ _ _ _=>match h with | .slice (some a) _ _=>some a.block|_=>none
 |.ghost _ | .yld _ _ | .dead | .rows _ _=>none
def blkS (l:List Nat)(v:Value):Prop:=(∀vs,v ≠ .tuple vs)/\(l.head? = some 0->∃a n c,v=.slice a n c)
def E5 (h:Value)(o:Obj)(b:Nat):Prop:=
 match o with
 |.rows n g=>∃rv,h=.agg rv/\∃i,i<n/\N1 (rv.getD i undef) (g i)=some b
 |o=>N1 h o=some b
def JY (o:Obj)(off:Nat):Prop:=
 match o with
 |.vec _ k n _ true=>n*k<=off
 |_=>True
section
variable (w:World) (Pi:Nat->Nat->Prop) (live:Nat->Prop) (rho:Nat->Value)
def HoldsC (h:Value):Obj->Prop
 |.cells cs=>∃b c T,h=.pointer (some ⟨b,0,none⟩)/\w.heap[b]? = some (.cells c T (0,0))/\c.size=cs.length /\
  ∀i,i<cs.length->Sq w Pi live rho (c.getD i undef) (cs.getD i .top)/\(c.getD i undef).oneCell' = true
 |.vec e k n f _=>(h=.slice none 0 0/\n=0) \/ ∃b cap c,h=.slice (some ⟨b,0,none⟩) n cap/\w.heap[b]? = some (.cells c e (0,0))/\n<=cap/\c.size=cap*k/\cap<=maxLen /\
  (∀i,i<n->(f i).length=k)/\∀i j,i<n->j<k->Sd w Pi (c.getD (i*k+j) undef) ((f i).getD j default)/\(c.getD (i*k+j) undef).oneCell' = true
 |.map es=>∃b Sg clock,h=.map (some b)/\w.heap[b]? = some (.map Sg clock)/\Sg.size=es.length /\
  (∀i,i<es.length->Sd w Pi (Sg.getD i default).key (es.getD i default).1/\Sd w Pi (Sg.getD i default).val (es.getD i default).2)/\clock=Sg.size/\∀i,i<Sg.size->(Sg.getD i default).born=i
 |.arr n f=>∃b c T,h=.pointer (some ⟨b,0,none⟩)/\w.heap[b]? = some (.cells c T (0,0))/\c.size=n /\
  ∀i,i<n->Sd w Pi (c.getD i undef) (f i)/\(c.getD i undef).oneCell' = true
 |.blk l jr=>live jr/\blkS l (rho jr)/\∃b,h=.pointer (some ⟨b,0,none⟩)/\w.heap[b]? = some (Bx0 l b (rho jr))
 |.yld _ _=>∃l,h=.func (.yield l) #[] #[]
 |.ghost cs=>∃vs,h=.tuple vs/\vs.size=cs.length/\∀i,i<cs.length->Sq w Pi live rho (vs.getD i undef) (cs.getD i .top)
 |.dead=>True
 |.rows _ _=>False
 |.fam e n jr x=>∃rv,live jr/\rho jr=.agg rv/\((h=.slice none 0 0/\n=0) \/ ∃b cap c,h=.slice (some ⟨b,0,none⟩) n cap/\w.heap[b]? = some (.cells c e (0,0))/\n<=cap/\c.size=cap/\cap<=maxLen /\
  (∀i,i<n->(c.getD i undef).oneCell' = true/\(x.map (·.1)≠some i->c.getD i undef=rv.getD i undef)) /\
  match x with
  |none=>True
  |some (i,a)=>Sq w Pi live rho (c.getD i undef) a)
def rowV (v:Value):Obj->Prop
 |.vec e k n f false=>HoldsC w Pi live rho v (.vec e k n f false)
 |.map es=>HoldsC w Pi live rho v (.map es)
 |.ghost [.p x]=>Sd w Pi v x
 |.dead=>True
 |_=>False
def Sr (h:Value)(o:Obj):Prop:=
 match o with
 |.rows n g=>∃rv,h=.agg rv/\(∀i,i<n->rowV w Pi live rho (rv.getD i undef) (g i)) /\
  ∀i l b,i<n->l<n->N1 (rv.getD i undef) (g i)=some b->N1 (rv.getD l undef) (g l)=some b->i=l
 |o=>HoldsC w Pi live rho h o
end
def HoldsC.keeps {w w' : World}{Pi Pi' : Nat->Nat->Prop}{live live' : Nat->Prop}{rho rho' : Nat->Value}(hk:Sc w Pi w' Pi')
 (hl:∀j,live j->live' j/\rho' j=rho j) {h:Value}{o:Obj}(hb:∀b,N1 h o=some b->w'.heap[b]? = w.heap[b]?) (m:HoldsC w Pi live rho h o):HoldsC w' Pi' live' rho' h o:=by
 cases o with
 |cells cs=>obtain⟨b,c,T,rfl,h1,g,d⟩:=m;exact⟨b,c,T,rfl,(hb b rfl).trans h1,g,λi a=>⟨(d i a).1.keeps hk hl,(d i a).2⟩⟩
 |vec e k n f vw=>
  rcases m with hn|⟨b,cap,c,rfl,h1,g,d,t,u,s⟩
  .exact .inl hn
  exact .inr ⟨b,cap,c,rfl,(hb b rfl).trans h1,g,d,t,u,λi j a y=>⟨(s i j a y).1.keeps hk,(s i j a y).2⟩⟩
 |map es=>obtain⟨b,Sg,clock,rfl,h1,g,d,z⟩:=m;exact⟨b,Sg,clock,rfl,(hb b rfl).trans h1,g,λi a=>⟨(d i a).1.keeps hk,(d i a).2.keeps hk⟩,z⟩
 |arr n f=>obtain⟨b,c,T,rfl,h1,g,d⟩:=m;exact⟨b,c,T,rfl,(hb b rfl).trans h1,g,λi a=>⟨(d i a).1.keeps hk,(d i a).2⟩⟩
 |blk l jr=>obtain⟨g1,g2,b,rfl,h1⟩:=m;exact⟨(hl jr g1).1,by rw[(hl jr g1).2];exact g2,b,rfl,by rw[(hl jr g1).2];exact (hb b rfl).trans h1⟩
 |ghost cs=>obtain⟨vs,rfl,h1,g⟩:=m;exact⟨vs,rfl,h1,λi a=>(g i a).keeps hk hl⟩
 |yld r b=>exact m
 |dead=>trivial
 |fam e n jr x=>
  obtain⟨rv,g1,g2,v⟩:=m;refine⟨rv,(hl jr g1).1,(hl jr g1).2.trans g2,?_⟩;rcases v with v|⟨b,cap,c,rfl,h1,g,d,t,u,s⟩
  .exact .inl v
  refine .inr ⟨b,cap,c,rfl,(hb b rfl).trans h1,g,d,t,u,?_⟩;cases x with
  |none=>trivial
  |some q=>exact s.keeps hk hl
 |rows=>exact m.elim
def HoldsC.vec {w w' : World}{Pi Pi' : Nat->Nat->Prop}{live:Nat->Prop}{rho:Nat->Value}{v:Value}{e:TypeId}{k n:Nat}{f:Nat->List PV}{vw:Bool}(h:HoldsC w Pi live rho v (.vec e k n f vw))(hk:Sc w Pi w' Pi')(hb:∀b,N1 v (.vec e k n f vw)=some b->w'.heap[b]? = w.heap[b]?):HoldsC w' Pi' (λ_=>False) (λ_=>undef) v (.vec e k n f vw):=by
 rcases h with hn|⟨b,cap,c,rfl,h1,l,m,o,q,a⟩
 .exact .inl hn
 exact .inr ⟨b,cap,c,rfl,(hb b rfl).trans h1,l,m,o,q,λi j d g=>⟨(a i j d g).1.keeps hk,(a i j d g).2⟩⟩
def rowV.keeps' {w w' : World}{Pi Pi' : Nat->Nat->Prop}{live live' : Nat->Prop}{rho rho' : Nat->Value}(hk:Sc w Pi w' Pi')
 {v:Value}{o:Obj}(a:rowV w Pi live rho v o) (hb:∀b,N1 v o=some b->w'.heap[b]? = w.heap[b]?):rowV w' Pi' live' rho' v o:=by
 unfold rowV at a⊢;split at a
 .obtain h|⟨b,cap,c,rfl,h1,g,f,h4,h5,h6⟩:=a
  .exact .inl h
  exact .inr ⟨b,cap,c,rfl,(hb b rfl).trans h1,g,f,h4,h5,λi j d l=>⟨(h6 i j d l).1.keeps hk,(h6 i j d l).2⟩⟩
 .obtain⟨b,Sg,clock,rfl,h1,g,f,m⟩:=a;exact⟨b,Sg,clock,rfl,(hb b rfl).trans h1,g,λi d=>⟨(f i d).1.keeps hk,(f i d).2.keeps hk⟩,m⟩
 .exact a.keeps hk
 .trivial
 exact a.elim
def Gp {w w' : World}{Pi Pi' : Nat->Nat->Prop}{live live' : Nat->Prop}{rho rho' : Nat->Value}(hk:Sc w Pi w' Pi'){h:Value}{n:Nat}{g:Nat->Obj}
 (hb:∀b,E5 h (.rows n g) b->w'.heap[b]? = w.heap[b]?) (c:Sr w Pi live rho h (.rows n g)):Sr w' Pi' live' rho' h (.rows n g):=by
 obtain⟨rv,rfl,h1,d⟩:=c;exact⟨rv,rfl,λi a=>(h1 i a).keeps' hk λb f=>hb b ⟨rv,rfl,i,a,f⟩,d⟩
def Sr.keeps {w w' : World}{Pi Pi' : Nat->Nat->Prop}{live live' : Nat->Prop}{rho rho' : Nat->Value}(hk:Sc w Pi w' Pi')
 (hl:∀j,live j->live' j/\rho' j=rho j) {h:Value}{o:Obj}(hb:∀b,E5 h o b->w'.heap[b]? = w.heap[b]?) (a:Sr w Pi live rho h o):Sr w' Pi' live' rho' h o:=by
 cases o with
 |rows n g=>exact Gp hk hb a
 |_=>exact HoldsC.keeps hk hl hb a
def Lv (R:Nat->Option Obj)(j:Nat):Prop:=(R j).isSome=true
def Prv (X:Nat->Nat->Prop)(R:Nat->Option Obj)(rho:Nat->Value)(b off:Nat):Prop:= X b off \/ ∃j o,R j=some o/\E5 (rho j) o b/\JY o off
def Own (R:Nat->Option Obj)(rho:Nat->Value)(b:Nat):Prop:=∃j o,R j=some o/\E5 (rho j) o b
structure Hp (X:Nat->Nat->Prop) (R:Nat->Option Obj) (rho:Nat->Value) (w:World):Prop where
 holds:∀j o,R j=some o->Sr w (Prv X R rho) (Lv R) rho (rho j) o
 sep:∀i j oi oj b,R i=some oi->R j=some oj->E5 (rho i) oi b->E5 (rho j) oj b->i=j
 out:∀j o b off,R j=some o->E5 (rho j) o b->¬X b off
 bound:∀b off,X b off->b<w.heap.size
def HoldsC.lt {w:World}{Pi:Nat->Nat->Prop}{live:Nat->Prop}{rho:Nat->Value}{h:Value}{o:Obj}(a:HoldsC w Pi live rho h o){b:Nat}(hb:N1 h o=some b):b<w.heap.size:=by
 cases o with
 |cells cs=>obtain⟨b',c,T,rfl,h1,_⟩:=a;cases hb;exact (Bz0.1 h1).1
 |vec e k n f vw=>
  rcases a with⟨rfl,_⟩ | ⟨b',cap,c,rfl,h1,_⟩
  .cases hb
  cases hb;exact (Bz0.1 h1).1
 |map es=>obtain⟨b',Sg,clock,rfl,h1,_⟩:=a;cases hb;exact (Bz0.1 h1).1
 |arr n f=>obtain⟨b',c,T,rfl,h1,_⟩:=a;cases hb;exact (Bz0.1 h1).1
 |blk l jr=>obtain⟨_,_,b',rfl,h1⟩:=a;cases hb;exact (Bz0.1 h1).1
 |ghost cs=>cases hb
 |yld r b=>cases hb
 |dead=>cases hb
 |fam e n jr x=>
  rcases a with⟨rv,_,_,⟨rfl,_⟩ | ⟨b',cap,c,rfl,h1,_⟩⟩
  .cases hb
  cases hb;exact (Bz0.1 h1).1
 |rows=>exact a.elim
def Bo4 {w:World}{Pi:Nat->Nat->Prop}{live:Nat->Prop}{rho:Nat->Value}{v:Value}{o:Obj}(h:rowV w Pi live rho v o){b:Nat}(hb:N1 v o=some b):HoldsC w Pi live rho v o:=by
 unfold rowV at h;split at h
 .exact h
 .exact h
 .cases hb
 .cases hb
 exact h.elim
def Sr.own {w:World}{Pi:Nat->Nat->Prop}{live:Nat->Prop}{rho:Nat->Value}{h:Value}{o:Obj}(a:Sr w Pi live rho h o){b:Nat}(hb:E5 h o b):∃h' o',HoldsC w Pi live rho h' o' /\ N1 h' o' = some b:=by
 cases o with
 |rows n g=>obtain⟨rv,rfl,h1,j⟩:=a;obtain⟨rv',c,i,d,hb⟩:=hb;simp only[Value.agg.injEq]at c;subst c;exact⟨_,_,Bo4 (h1 i d) hb,hb⟩
 |cells cs=>exact⟨h,.cells cs,a,hb⟩
 |vec e k n f vw=>exact⟨h,.vec e k n f vw,a,hb⟩
 |map es=>exact⟨h,.map es,a,hb⟩
 |arr n f=>exact⟨h,.arr n f,a,hb⟩
 |blk l jr=>exact⟨h,.blk l jr,a,hb⟩
 |fam e n jr x=>exact⟨h,.fam e n jr x,a,hb⟩
 |_=>cases hb
def Sr.lt {w:World}{Pi:Nat->Nat->Prop}{live:Nat->Prop}{rho:Nat->Value}{h:Value}{o:Obj}(a:Sr w Pi live rho h o){b:Nat}(hb:E5 h o b):b<w.heap.size:=by obtain⟨h',o',h1,c⟩:=a.own hb;exact h1.lt c
def Hp.lt {X:Nat->Nat->Prop}{R:Nat->Option Obj}{rho:Nat->Value}{w:World}(h:Hp X R rho w){b:Nat}(hb:Own R rho b):b<w.heap.size:=by obtain⟨j,o,a,hb⟩:=hb;exact (h.holds j o a).lt hb
def Hp.update {X:Nat->Nat->Prop}{R R' : Nat->Option Obj}{rho rho' : Nat->Value}{w w' : World}(D:Nat->Prop)(h:Hp X R rho w)
 (d:∀j,¬D j->R' j=R j) (a:∀j,Lv R j->Lv R' j/\rho' j=rho j) (hsz:w.heap.size<=w'.heap.size)
 (u:∀b,b<w.heap.size->(∀j o,D j->R j=some o->¬E5 (rho j) o b)->w'.heap[b]? = w.heap[b]?)
 (n:∀j o b,D j->R' j=some o->E5 (rho' j) o b->(∃i oi,D i/\R i=some oi/\E5 (rho i) oi b) \/ w.heap.size<=b)
 (x:∀i j oi oj b,D i->D j->R' i=some oi->R' j=some oj->E5 (rho' i) oi b->E5 (rho' j) oj b->i=j)
 (y:∀i oi b off v,D i->R i=some oi->E5 (rho i) oi b->¬Prv X R rho b off->w.cell? ⟨b,off,none⟩=some v->w'.cell? ⟨b,off,none⟩=some v/\∀j o,D j->R' j=some o->E5 (rho' j) o b->¬JY o off)
 (hh:Sc w (Prv X R rho) w' (Prv X R' rho')->∀j o,D j->R' j=some o->Sr w' (Prv X R' rho') (Lv R') rho' (rho' j) o) :
 Hp X R' rho' w' /\ Sc w (Prv X R rho) w' (Prv X R' rho'):=by
 have hk:Sc w (Prv X R rho) w' (Prv X R' rho'):=by
  intro b off v hp hc;have hlt:b<w.heap.size:=BF4 w ⟨b,off,none⟩ hc;by_cases hD:∃i oi,D i/\R i=some oi/\E5 (rho i) oi b
  .obtain⟨i,oi,m,hr,hb⟩:=hD;obtain⟨h1,h2⟩:=y i oi b off v m hr hb hp hc;refine⟨h1,λz=>?_⟩;rcases z with s|⟨j,o,f,g,t⟩
   .exact hp (.inl s)
   by_cases c:D j
   .exact h2 j o c f g t
   rw[d j c]at f;rw[(a j (by simp[Lv,f])).2]at g;exact hp (.inr ⟨j,o,f,g,t⟩)
  refine⟨?_,λz=>?_⟩
  .rw[<- hc];exact BC8 (u b hlt λj o f hr hb=>hD ⟨j,o,f,hr,hb⟩)
  rcases z with s|⟨j,o,f,g,t⟩
  .exact hp (.inl s)
  by_cases c:D j
  .rcases n j o b c f g with m|m
   .exact hD m
   omega
  rw[d j c]at f;rw[(a j (by simp[Lv,f])).2]at g;exact hp (.inr ⟨j,o,f,g,t⟩)
 refine⟨⟨λj o f=>?_,λi j oi oj b m f l g=>?_,λj o b off f hb s=>?_,λb off s=>BB0 (h.bound b off s) hsz⟩,hk⟩
 .by_cases c:D j
  .exact hh hk j o c f
  rw[d j c]at f;have hr:=(a j (by simp[Lv,f])).2;rw[hr];refine (h.holds j o f).keeps hk a λb hb=>u b ((h.holds j o f).lt hb) λi oi m q l=>?_
  have:=h.sep i j oi o b q f l hb
  subst this;exact c m
 .by_cases r:D i<;>by_cases c:D j
  .exact x i j oi oj b r c m f l g
  .rw[d j c]at f;rw[(a j (by simp[Lv,f])).2]at g;rcases n i oi b r m l with⟨i',oi',hi',q,hbi'⟩ | hge
   .have:=h.sep i' j oi' oj b q f hbi' g
    subst this;exact Ij hi' c
   have:=(h.holds j oj f).lt g;omega
  .rw[d i r]at m;rw[(a i (by simp[Lv,m])).2]at l;rcases n j oj b c f g with⟨j',oj',hj',hrj,hbj'⟩ | hge
   .have:=h.sep j' i oj' oi b hrj m hbj' l
    subst this;exact Ij hj' r
   have:=(h.holds i oi m).lt l;omega
  rw[d i r]at m;rw[d j c]at f;rw[(a i (by simp[Lv,m])).2]at l;rw[(a j (by simp[Lv,f])).2]at g;exact h.sep i j oi oj b m f l g
 by_cases c:D j
 .rcases n j o b c f hb with⟨i,oi,m,q,l⟩ | hge
  .exact h.out i oi b off q l s
  have:=h.bound b off s;omega
 rw[d j c]at f;rw[(a j (by simp[Lv,f])).2]at hb;exact h.out j o b off f hb s
def MT (env:Env)(d t:Nat)(x:AV):get (ins d x env) t=if d=t then x else get env t:=by
 induction env with
 |nil=>simp[ins,get]
 |cons p r ih=>
  obtain⟨i,b⟩:=p;simp only[ins];split
  .simp only[get]
  split
  .rename_i h;subst h;simp only[get];split<;>rfl
  rename_i h1 a;simp only[get,ih];by_cases h:i=t
  .simp only[h,Lc];rw[Hj (by omega)]
  simp only[h,Ld]
def A3 (Qw:C5)(d t:Nat)(x:Obj):A1 (ins d x Qw) t=if d=t then some x else A1 Qw t:=by
 induction Qw with
 |nil=>simp[ins,A1]
 |cons p r ih=>
  obtain⟨i,b⟩:=p;simp only[ins];split
  .simp only[A1]
  split
  .rename_i h;subst h;simp only[A1];split<;>rfl
  rename_i h1 a;simp only[A1,ih];by_cases h:i=t
  .simp only[h,Lc];rw[Hj (by omega)]
  simp only[h,Ld]
structure Ctx where
 X:Nat->Nat->Prop
 w0:World
 E0:Nat->Prop
 Pi0:Nat->Nat->Prop
 rho0:Nat->Value
 Y:List (List PV)->Bool->Prop
 yv:Value
structure SatE (C:Ctx) (R:C5) (w:World) (rho:Nat->Value):Prop where
 hp:Hp C.X (A1 R) rho w
 ext:Ext C.w0 w
 size:C.w0.heap.size<=w.heap.size
 same:∀b,b<C.w0.heap.size->¬C.E0 b->w.heap[b]? = C.w0.heap[b]?
 keep:Sc C.w0 C.Pi0 w (Prv C.X (A1 R) rho)
 own:∀b,Own (A1 R) rho b->C.E0 b \/ C.w0.heap.size<=b
 yld:∀j r b,A1 R j=some (.yld r b)->C.Y r b/\rho j=C.yv
def Marks (C:Ctx)(l:List Deferred)(w:World):Prop:= l.Nodup/\∀d∈l,∃r,d={ target:=.collected r,args:=#[] }/\(C.E0 r \/ C.w0.heap.size<=r)/\w.heap[r]? = some (.deferred (some []))/\∀off,¬C.X r off
structure Sat (C:Ctx) (st:St) (a:Act) (w:World) (rho:Nat->Value):Prop extends SatE C st.Qw w rho where
 env:∀t,Sq w (Prv C.X (A1 st.Qw) rho) (Lv (A1 st.Qw)) rho (a.tmps.getD t undef) (get st.env t)
 pin:∀j,j<1000->Lv (A1 st.Qw) j->rho j=C.rho0 j
 marks:Marks C a.defers w
def K5 (w:World)(Pi:Nat->Nat->Prop)(v:Value):Sd w Pi v (MR v):=by
 cases v<;>try exact .v _
 rename_i s
 have:=Sd.str (w:=w) (Pi:=Pi) s.data.toList
 simpa[MR]using this
def Zt (w:World)(Pi:Nat->Nat->Prop)(v:Value):Sd w Pi v (pvK v):=by
 cases v with
 |agg cs=>
  simp only[pvK];split
  .rename_i h;refine .agg cs _ (by simp) (λi b=>?_) λi b=>?_
   .have a : i<cs.size:=by simpa using b
    have:=Array.all_eq_true.1 h i a
    simpa[By2,a]using this
   have a : i<cs.size:=by simpa using b
   have e1:cs.getD i undef=cs[i]:=by simp[By2,a]
   have e2:(cs.toList.map MR).getD i default=MR cs[i]:=by simp[By3,a]
   rw[e1,e2];exact K5 w Pi _
  exact .v _
 |_=>exact K5 w Pi _
def AN7 {w:World}{Pi:Nat->Nat->Prop}{live:Nat->Prop}{rho:Nat->Value}{env:Env}{a:Act}(h:∀t,Sq w Pi live rho (a.tmps.getD t undef) (get env t))(x:Operand):Sq w Pi live rho (a.eval x) (aev env x):=by
 cases x with
 |tmp t=>exact h t
 |const v=>exact .p _ _ (Zt w Pi v)
 |global g=>exact .top _
 |func f=>exact .clo f #[] #[] [] [] rfl rfl (λi b=>Ij b (by simp)) (λi b=>Ij b (by simp))
def Sat.aev {C:Ctx}{st:St}{a:Act}{w:World}{rho:Nat->Value}(h:Sat C st a w rho)(x:Operand):Sq w (Prv C.X (A1 st.Qw) rho) (Lv (A1 st.Qw)) rho (a.eval x) (AM.aev st.env x):=AN7 h.env x
def Sat.put {C:Ctx}{st:St}{a:Act}{w:World}{rho:Nat->Value}(h:Sat C st a w rho){v:Value}{x:AV}(b:Sq w (Prv C.X (A1 st.Qw) rho) (Lv (A1 st.Qw)) rho v x){d:Option Nat}
 (c:∀t,d=some t->t<a.tmps.size):Sat C (AM.put st d x) (a.put d v) w rho:=by
 cases d with
 |none=>exact h
 |some d=>
  refine⟨h.toSatE,λt=>?_,h.pin,h.marks⟩;show Sq w (Prv C.X (A1 st.Qw) rho) (Lv (A1 st.Qw)) rho ((a.tmps.setIfInBounds d v).getD t undef) (AM.get (ins d x st.env) t);rw[MT];split
  .rename_i e;subst e
   have:=c d rfl
   simpa[By2,this]using b
  rename_i e
  have:=h.env t
  simpa[By2,Array.getElem?_setIfInBounds,e]using this
def isC:Option Go.Obj->Bool
 |some (.cells ..)|some (.map ..)|some (.mapIter ..)=>true
 |_=>false
def HoldsC.kind {w:World}{Pi:Nat->Nat->Prop}{live:Nat->Prop}{rho:Nat->Value}{h:Value}{o:Obj}(a:HoldsC w Pi live rho h o){b:Nat}(hb:N1 h o=some b):isC w.heap[b]? = true:=by
 cases o with
 |cells cs=>obtain⟨b',c,T,rfl,h1,_⟩:=a;cases hb;rw[h1];rfl
 |vec e k n f vw=>
  rcases a with⟨rfl,_⟩ | ⟨b',cap,c,rfl,h1,_⟩
  .cases hb
  cases hb;rw[h1];rfl
 |map es=>obtain⟨b',Sg,clock,rfl,h1,_⟩:=a;cases hb;rw[h1];rfl
 |arr n f=>obtain⟨b',c,T,rfl,h1,_⟩:=a;cases hb;rw[h1];rfl
 |blk l jr=>obtain⟨_,_,b',rfl,h1⟩:=a;cases hb;rw[h1];unfold Bx0;split<;>rfl
 |ghost cs=>cases hb
 |yld r b=>cases hb
 |dead=>cases hb
 |fam e n jr x=>
  rcases a with⟨rv,_,_,⟨rfl,_⟩ | ⟨b',cap,c,rfl,h1,_⟩⟩
  .cases hb
  cases hb;rw[h1];rfl
 |rows=>exact a.elim
def Sr.kind {w:World}{Pi:Nat->Nat->Prop}{live:Nat->Prop}{rho:Nat->Value}{h:Value}{o:Obj}(a:Sr w Pi live rho h o){b:Nat}(hb:E5 h o b):isC w.heap[b]? = true:=by obtain⟨h',o',h1,c⟩:=a.own hb;exact h1.kind c
def Sr.nd {w:World}{Pi:Nat->Nat->Prop}{live:Nat->Prop}{rho:Nat->Value}{h:Value}{o:Obj}(a:Sr w Pi live rho h o){b:Nat}(hb:E5 h o b)(c:w.heap[b]? = some (.deferred (some []))):False:=by
 have:=a.kind hb;rw[c]at this;cases this
def Sat.step {C:Ctx}{st:St}{a:Act}{w:World}{rho:Nat->Value}(h:Sat C st a w rho){R' : C5}{rho' : Nat->Value}{w' : World}(D:Nat->Prop)
 (f:∀j,¬D j->A1 R' j=A1 st.Qw j) (c:∀j,Lv (A1 st.Qw) j->Lv (A1 R') j/\rho' j=rho j) (u:w.heap.size<=w'.heap.size)
 (x:∀j,¬Lv (A1 st.Qw) j->Lv (A1 R') j->1000<=j) (z:∀j r b,D j->A1 R' j≠some (.yld r b))
 (l:∀b,b<w.heap.size->(∀j o,D j->A1 st.Qw j=some o->¬E5 (rho j) o b)->w'.heap[b]? = w.heap[b]?)
 (m:∀j o b,D j->A1 R' j=some o->E5 (rho' j) o b->(∃i oi,D i/\A1 st.Qw i=some oi/\E5 (rho i) oi b) \/ w.heap.size<=b)
 (n:∀i j oi oj b,D i->D j->A1 R' i=some oi->A1 R' j=some oj->E5 (rho' i) oi b->E5 (rho' j) oj b->i=j)
 (q:∀i oi b off v,D i->A1 st.Qw i=some oi->E5 (rho i) oi b->¬Prv C.X (A1 st.Qw) rho b off->w.cell? ⟨b,off,none⟩=some v ->
  w'.cell? ⟨b,off,none⟩=some v/\∀j o,D j->A1 R' j=some o->E5 (rho' j) o b->¬JY o off)
 (hh:Sc w (Prv C.X (A1 st.Qw) rho) w' (Prv C.X (A1 R') rho')->∀j o,D j->A1 R' j=some o->Sr w' (Prv C.X (A1 R') rho') (Lv (A1 R')) rho' (rho' j) o) (hext:Ext w w':=by exact⟨rfl,rfl⟩) :
 Sat C { st with Qw:=R' } a w' rho' /\ Sc w (Prv C.X (A1 st.Qw) rho) w' (Prv C.X (A1 R') rho'):=by
 obtain⟨a0,hk⟩:=h.hp.update D f c u l m n q hh;refine⟨⟨⟨a0,h.ext.trans hext,BD9 h.size u,λb hb hE=>?_,h.keep.trans hk,?_,?_⟩,λt=>(h.env t).keeps hk c,?_,?_⟩,hk⟩
 .rw[l b (BB0 hb h.size) λj o g hr s=>?_]
  .exact h.same b hb hE
  rcases h.own b ⟨j,o,hr,s⟩with h1|h1
  .exact hE h1
  omega
 .rintro b ⟨j,o,g,hb⟩;by_cases y:D j
  .rcases m j o b y g hb with⟨i,oi,_,hi,hbi⟩ | hge
   .exact h.own b ⟨i,oi,hi,hbi⟩
   exact .inr (BD9 h.size hge)
  rw[f j y]at g;rw[(c j (by simp[Lv,g])).2]at hb;exact h.own b ⟨j,o,g,hb⟩
 .intro j r b g;by_cases y:D j
  .exact Ij g (z j r b y)
  rw[f j y]at g;rw[(c j (by simp[Lv,g])).2];exact h.yld j r b g
 .intro j hlt hl;by_cases g:Lv (A1 st.Qw) j
  .rw[(c j g).2];exact h.pin j hlt g
  have:=x j g hl;omega
 refine⟨h.marks.1,λd hd=>?_⟩;obtain⟨r,h1,h2,h3,h4⟩:=h.marks.2 d hd;refine⟨r,h1,h2,?_,h4⟩;rw[l r (Bz0.1 h3).1 λj o g hr s=>(h.hp.holds j o hr).nd s h3];exact h3
section
variable {C:Ctx}{st:St}{a:Act}{w:World}{rho:Nat->Value}
abbrev PiS (C:Ctx)(st:St)(rho:Nat->Value):Nat->Nat->Prop:=Prv C.X (A1 st.Qw) rho
abbrev RS (C:Ctx)(st:St)(w:World)(rho:Nat->Value):Value->AV->Prop:=Sq w (Prv C.X (A1 st.Qw) rho) (Lv (A1 st.Qw)) rho
def Sat.fresh (h:Sat C st a w rho){j:Nat}(y:1000<=j)(hn:A1 st.Qw j=none)(ob:Obj)(f:Value){w' : World}(q:w.heap.size<=w'.heap.size)
 (l:∀b,b<w.heap.size->w'.heap[b]? = w.heap[b]?) (hb:∀b,E5 f ob b->w.heap.size<=b)
 (u:Sc w (PiS C st rho) w' (Prv C.X (A1 (ins j ob st.Qw)) (λi=>if i=j then f else rho i)) ->
  Sr w' (Prv C.X (A1 (ins j ob st.Qw)) (λi=>if i=j then f else rho i)) (Lv (A1 (ins j ob st.Qw))) (λi=>if i=j then f else rho i) f ob) (hy:∀r b,ob ≠ .yld r b:=by intro _ _ h;cases h) (hext:Ext w w':=by exact⟨rfl,rfl⟩) :
 Sat C { st with Qw:=ins j ob st.Qw } a w' (λi=>if i=j then f else rho i)/\Sc w (PiS C st rho) w' (Prv C.X (A1 (ins j ob st.Qw)) (λi=>if i=j then f else rho i)) /\
  ∀i,Lv (A1 st.Qw) i->Lv (A1 (ins j ob st.Qw)) i/\(if i=j then f else rho i)=rho i:=by
 have d:∀i,Lv (A1 st.Qw) i->Lv (A1 (ins j ob st.Qw)) i/\(if i=j then f else rho i)=rho i:=by
  intro i c;by_cases e:i=j
  .subst e;simp[Lv,hn]at c
  simp only[e,Ld,Lv,A3,Hj (BC5 e)];exact⟨c,trivial⟩
 obtain⟨h1,x⟩:=h.step (R':=ins j ob st.Qw) (rho':=λi=>if i=j then f else rho i) (w':=w') (· = j) (λi c=>by rw[A3,Hj (BC5 c)]) d q
  (λi c g=>by
   by_cases e:i=j
   .omega
   simp only[Lv,A3,Hj (BC5 e)]at g;exact Ij g c)
  (λi r b c s=>by subst c;simp only[A3,Lc,By4]at s;exact hy r b s)
  (λb hb _=>l b hb)
  (λi o b c m n=>by subst c;simp only[A3,Lc,By4]at m n;subst m;exact .inr (hb b n))
  (λi i' oi oi' b c g _ _ _ _=>c.trans g.symm)
  (λi oi b off v c t _ _ _=>by subst c;rw[hn]at t;cases t)
  (λhk i o c m=>by subst c;simp only[A3,Lc,By4]at m;subst m;simp only[Lc];exact u hk) hext
 exact⟨h1,x,d⟩
def Sat.modify (h:Sat C st a w rho){j:Nat}{o ob:Obj}{b:Nat}(m:A1 st.Qw j=some o)(n:E5 (rho j) o b)(hp:∀off,JY o off)(q : ∀b',E5 (rho j) ob b' -> b' = b){w' : World}(z:w'.heap.size=w.heap.size)
 (g:∀b',b' ≠ b->w'.heap[b']? = w.heap[b']?)
 (hh:Sc w (PiS C st rho) w' (Prv C.X (A1 (ins j ob st.Qw)) rho)->Sr w' (Prv C.X (A1 (ins j ob st.Qw)) rho) (Lv (A1 (ins j ob st.Qw))) rho (rho j) ob) (hy:∀r b,ob ≠ .yld r b:=by intro _ _ h;cases h) (hext:Ext w w':=by exact⟨rfl,rfl⟩) :
 Sat C { st with Qw:=ins j ob st.Qw } a w' rho/\Sc w (PiS C st rho) w' (Prv C.X (A1 (ins j ob st.Qw)) rho)/\∀i,Lv (A1 st.Qw) i->Lv (A1 (ins j ob st.Qw)) i/\rho i=rho i:=by
 have d:∀i,Lv (A1 st.Qw) i->Lv (A1 (ins j ob st.Qw)) i/\rho i=rho i:=by
  intro i c;refine⟨?_,rfl⟩;simp only[Lv,A3];split
  .rfl
  exact c
 obtain⟨h1,h2⟩:=h.step (R':=ins j ob st.Qw) (rho':=rho) (w':=w') (· = j) (λi c=>by rw[A3,Hj (BC5 c)]) d (by omega)
  (λi c f=>by
   simp only[Lv,A3]at c f;split at f
   .rename_i e;subst e;simp[m]at c
   exact Ij f c)
  (λi r b c x=>by subst c;simp only[A3,Lc,By4]at x;exact hy r b x)
  (λb' _ t=>g b' (λe=>t j o rfl m (e ▸ n)))
  (λi oi b' c s l=>by
   subst c;simp only[A3,Lc,By4]at s;subst s
   have:=q b' l;subst this
   exact .inl ⟨i,o,rfl,m,n⟩)
  (λi i' oi oi' b c f _ _ _ _=>c.trans f.symm)
  (λi oi b' off v c y l u _=>by subst c;rw[m]at y;cases y;exact Ij (.inr ⟨i,o,m,l,hp off⟩) u)
  (λhk i oi c s=>by subst c;simp only[A3,Lc,By4]at s;subst s;exact hh hk) hext
 exact⟨h1,h2,d⟩
def Sat.viewed (h:Sat C st a w rho){j:Nat}{e:TypeId}{k n:Nat}{f:Nat->List PV}{vw:Bool}(m:A1 st.Qw j=some (.vec e k n f vw)) :Sat C { st with Qw:=ins j (.vec e k n f true) st.Qw } a w rho/\Sc w (PiS C st rho) w (Prv C.X (A1 (ins j (.vec e k n f true) st.Qw)) rho) /\
  (∀i,Lv (A1 st.Qw) i->Lv (A1 (ins j (.vec e k n f true) st.Qw)) i/\rho i=rho i):=by
 have d:∀i,Lv (A1 st.Qw) i->Lv (A1 (ins j (.vec e k n f true) st.Qw)) i/\rho i=rho i:=by
  intro i c;refine⟨?_,rfl⟩;simp only[Lv,A3];split
  .rfl
  exact c
 obtain⟨h1,y⟩:=h.step (R':=ins j (.vec e k n f true) st.Qw) (rho':=rho) (w':=w) (· = j) (λi c=>by rw[A3,Hj (BC5 c)]) d (Bz5 _)
  (λi c g=>by
   simp only[Lv,A3]at c g;split at g
   .rename_i e;subst e;simp[m]at c
   exact Ij g c)
  (λi r b c z=>by subst c;simp[A3]at z)
  (λb' _ _=>rfl)
  (λi oi b' c q l=>by subst c;simp only[A3,Lc,By4]at q;subst q;exact .inl ⟨i,_,rfl,m,l⟩)
  (λi i' oi oi' b c g _ _ _ _=>c.trans g.symm)
  (λi oi b' off v c u l t hc=>by
   subst c;rw[m]at u;cases u;refine⟨hc,λi' oi' g s x hp=>?_⟩;subst g;simp only[A3,Lc,By4]at s;subst s;refine t (.inr ⟨i',_,m,l, ?_⟩);cases vw
   .trivial
   exact hp)
  (λhk i oi c q=>by subst c;simp only[A3,Lc,By4]at q;subst q;exact (h.hp.holds i _ m).keeps (o:=.vec e k n f vw) hk d (λ_ _=>rfl))
 exact⟨h1,y,d⟩
def H3 {i j k n:Nat}(a:i<n)(b:j<k):i*k+j<n*k:=
 BB0 (Nat.add_lt_add_left b _) (by rw[<- BL3];exact BA6 k a)
def Hp.pubd {X:Nat->Nat->Prop}{R:Nat->Option Obj}{w:World}(h:Hp X R rho w){j:Nat}{o:Obj}{b off:Nat}(a:R j=some o)(hb:E5 (rho j) o b)(hp:¬JY o off):¬Prv X R rho b off:=by
 rintro (g|⟨i,oi,c,d,f⟩)
 .exact h.out j o b off a hb g
 have:=h.sep i j oi o b c a d hb
 subst this;rw[a]at c;cases c;exact hp f
def cell_of_heap {w:World}{b:Nat}{c:Array Value}{T:TypeId}{fz:Nat×Nat}(h:w.heap[b]? = some (.cells c T fz)){o:Nat}(a:o<c.size):w.cell? ⟨b,o,none⟩=some (c.getD o undef):=by simp[World.cell?,h,By2,a]
def Sat.sl (h:Sat C st a w rho){j m:Nat}{e:TypeId}{k n:Nat}{f:Nat->List PV}(g:A1 st.Qw j=some (.vec e k n f true)){base:Option Addr}{cap n' : Nat}(o:rho j=.slice base n' cap)(hm:m<=n) :Sd w (PiS C st rho) (.slice base m cap) (.sl false k m f):=by
 have d:=h.hp.holds j _ g;rw[o]at d;rcases d with⟨hn,rfl⟩ | ⟨b,cap',c,d,h1,s,t,x,u,q⟩
 .cases hn
  have:m=0:=by omega
  subst this;exact .slnil k f
 cases d;refine .sl false b 0 cap k m f (λi j=>c.getD (i*k+j) undef) (by omega) (λi r=>u i (by omega)) (λi l r hl=>?_) (λi l r hl=>(q i l (by omega) hl).1) none (λ_=>rfl);have v:=H3 (show i<n by omega) hl;have hle:n*k<=c.size:=by rw[t];exact BA6 k s
 rw[BE1];refine⟨cell_of_heap h1 (by omega),h.hp.pubd g (b:=b) (by simp[E5,N1,o]) (by simp only[JY];omega),(q i l (by omega) hl).2⟩
structure Kp (C:Ctx) (R R' : C5) (w w' : World) (rho rho' : Nat->Value):Prop where
 keeps:Sc w (Prv C.X (A1 R) rho) w' (Prv C.X (A1 R') rho')
 live:∀i,Lv (A1 R) i->Lv (A1 R') i/\rho' i=rho i
def Kp.refl (C:Ctx)(R:C5)(w:World)(rho:Nat->Value):Kp C R R w w rho rho:=⟨Sc.refl _ _,λi a=>⟨a,rfl⟩⟩
def Kp.trans {C:Ctx}{R R' R'' : C5}{w w' w'' : World}{rho rho' rho'' : Nat->Value}(h:Kp C R R' w w' rho rho')(h' : Kp C R' R'' w' w'' rho' rho''):Kp C R R'' w w'' rho rho'':=
 ⟨h.keeps.trans h'.keeps,λi a=>⟨(h'.live i (h.live i a).1).1,((h'.live i (h.live i a).1).2).trans (h.live i a).2⟩⟩
def Kp.p {R R' : C5}{w w' : World}{rho rho' : Nat->Value}(h:Kp C R R' w w' rho rho'){v:Value}{x:PV}(a:Sd w (Prv C.X (A1 R) rho) v x):Sd w' (Prv C.X (A1 R') rho') v x:=a.keeps h.keeps
def Kp.av {R R' : C5}{w w' : World}{rho rho' : Nat->Value}(h:Kp C R R' w w' rho rho'){v:Value}{x:AV}(a:Sq w (Prv C.X (A1 R) rho) (Lv (A1 R)) rho v x):Sq w' (Prv C.X (A1 R') rho') (Lv (A1 R')) rho' v x:=a.keeps h.keeps h.live
def LI {w:World}{Pi:Nat->Nat->Prop}{live:Nat->Prop}{h:Value}{e:TypeId}{k n:Nat}{f:Nat->List PV}{vw:Bool}(a:Sr w Pi live rho h (.vec e k n f vw)):∃base cap,h=.slice base n cap:=by
 rcases a with⟨rfl,rfl⟩ | ⟨b,cap,c,rfl,_⟩
 .exact⟨_,_,rfl⟩
 exact⟨_,_,rfl⟩
def LJ:∀{cs:List AV}{l:List PV},Wy cs=some l->cs=l.map .p
 |[],l,h=>by simp[Wy]at h;subst h;rfl
 |.p x::r,l,h=>by
  simp only[Wy]at h;split at h
  .rename_i l' hl;cases h;rw[LJ hl];rfl
  cases h
 |.reg .. :: _,_,h | .vec .. :: _,_,h | .vecp .. :: _,_,h | .elt .. :: _,_,h | .Se .. :: _,_,h | .clo .. :: _,_,h | .tup .. :: _,_,h | .agr .. :: _,_,h | .yf .. :: _,_,h | .rsl .. :: _,_,h | .top::_,_,h=>by simp[Wy]at h
def Sq.toP {w:World}{Pi:Nat->Nat->Prop}{live:Nat->Prop}{v:Value}{x:PV}(h:Sq w Pi live rho v (.p x)):Sd w Pi v x:=by cases h;assumption
def Sq.clo_fn {w:World}{Pi:Nat->Nat->Prop}{live:Nat->Prop}{f:FuncId}{x y:Array Value}{a b:List AV}{a' b' : List PV}(ha:Wy a=some a')(hb:Wy b=some b')
 (h:Sq w Pi live rho (.func (.func f) x y) (.clo f a b)):Sd w Pi (.func (.func f) x y) (.fn f a' b'):=by
 have:=LJ ha;subst this
 have:=LJ hb;subst this
 cases h with
 |clo _ _ _ _ _ hx hy hl hr=>
  refine .fn f x y a' b' (by simpa using hx) (by simpa using hy) (λi c=>?_) λi c=>?_
  .have:=hl i (by simpa using c)
   simp only[By3,Bz1,By7 c,Bz7,Bz4]at this⊢;exact this.toP
  have:=hr i (by simpa using c)
  simp only[By3,Bz1,By7 c,Bz7,Bz4]at this⊢;exact this.toP
def Pp {w:World}{Pi:Nat->Nat->Prop}{live:Nat->Prop}{rho:Nat->Value}:∀{cs:List AV}{l:List PV},Ao7 cs=some l->l.length=cs.length/\∀i,i<cs.length->∀{v:Value},Sq w Pi live rho v (cs.getD i .top)->Sd w Pi v (l.getD i default)
 |[],l,h=>by simp only[Ao7,By4]at h;subst h;exact⟨rfl,λi c=>Ij c (by simp)⟩
 |a::r,l,h=>by
  unfold Ao7 at h;split at h
  .rename_i e;cases e
  .rename_i x r' e;cases e;split at h
   .rename_i l' hl;cases h;obtain⟨g1,g2⟩:=Pp hl;refine⟨by simp[g1],λi c v b=>?_⟩;cases i with
    |zero=>exact b.toP
    |succ i=>simpa using g2 i (by simpa using c) (by simpa using b)
   cases h
  .rename_i f r' e;cases e;split at h
   .rename_i l' hl;cases h;obtain⟨g1,g2⟩:=Pp hl;refine⟨by simp[g1],λi c v b=>?_⟩;cases i with
    |zero=>
     have b:Sq w Pi live rho v (.clo f [] []):=b;cases b with
     |clo _ x y _ _ hx hy _ _=>have d : x = #[]:=BG4.1 (by simpa using hx);have g : y = #[]:=BG4.1 (by simpa using hy);subst d;subst g;exact .v _
    |succ i=>simpa using g2 i (by simpa using c) (by simpa using b)
   cases h
  cases h
def Ez (h:Sat C st a w rho){v:Value}{x:AV}(u:RS C st w rho v x){y' : PV}{R' : C5}(c:DO st.Qw x=some (y',R')) :Sat C { st with Qw:=R' } a w rho/\Sd w (Prv C.X (A1 R') rho) v y' /\ Kp C st.Qw R' w w rho rho:=by
 cases u with
 |p _ x hx=>simp only[DO,By4,Bz3]at c;obtain⟨rfl,rfl⟩:=c;exact⟨h,hx.nP,Kp.refl _ _ _ _⟩
 |vec j base n' cap hl hr=>
  simp only[DO]at c;split at c
  .rename_i e k n f vw g;simp only[By4,Bz3]at c;obtain⟨rfl,rfl⟩:=c;obtain⟨h1,o,q⟩:=h.viewed g;obtain⟨base',cap',d⟩:=LI (h.hp.holds j _ g);rw[hr]at d;cases d;exact⟨h1,h1.sl (j:=j) (m:=n') (e:=e) (k:=k) (n:=n') (f:=f) (by simp[A3]) hr (Bz5 _),o,q⟩
  cases c
 |vecp j m base n cap hl hr hm=>
  simp only[DO]at c;split at c
  .rename_i e k n' f vw g;simp only[By4,Bz3]at c;obtain⟨rfl,rfl⟩:=c;obtain⟨h1,o,q⟩:=h.viewed g;obtain⟨base',cap',d⟩:=LI (h.hp.holds j _ g);rw[hr]at d;cases d;rw[BI7 hm];exact⟨h1,h1.sl (j:=j) (m:=m) (e:=e) (k:=k) (n:=n) (f:=f) (by simp[A3]) hr hm,o,q⟩
  cases c
 |clo f x y l r hx hy hl hr=>
  have gen:(match Wy l,Wy r with
   |some a,some b=>some (PV.fn f a b,st.Qw)
   |_,_=>none)=some (y',R')->Sat C { st with Qw:=R' } a w rho/\Sd w (Prv C.X (A1 R') rho) (.func (.func f) x y) y' /\ Kp C st.Qw R' w w rho rho:=by
   intro c;split at c
   .rename_i a' b' ha hb;simp only[By4,Bz3]at c;obtain⟨rfl,rfl⟩:=c;exact⟨h,Sq.clo_fn ha hb (.clo f x y l r hx hy hl hr),Kp.refl _ _ _ _⟩
   cases c
  cases l with
  |cons _ _=>exact gen c
  |nil=>
   cases r with
   |cons _ _=>exact gen c
   |nil=>simp only[DO,By4,Bz3]at c;obtain⟨rfl,rfl⟩:=c;have s : x = #[]:=BG4.1 (by simpa using hx);have t : y = #[]:=BG4.1 (by simpa using hy);subst s;subst t;exact⟨h,.v _,Kp.refl _ _ _ _⟩
 |reg=>simp[DO]at c
 |elt=>simp[DO]at c
 |yf=>simp[DO]at c
 |rsl=>simp[DO]at c
 |Se=>simp[DO]at c
 |tup=>simp[DO]at c
 |agr x l hx h1 ha=>
  simp only[DO]at c;split at c
  .rename_i ps hp;simp only[By4,Bz3]at c;obtain⟨rfl,rfl⟩:=c;obtain⟨g1,g2⟩:=Pp hp;exact⟨h,.agg x ps (hx.trans g1.symm) (λi z=>h1 i (by omega)) (λi z=>g2 i (by omega) (ha i (by omega))),Kp.refl _ _ _ _⟩
  cases c
 |top=>simp[DO]at c
end
section
variable {P:Program}
def AY {t:TypeId}{k:TK}(h:tk P t=some k):∃d,P.underlying t=some d/\WC d=k:=by
 unfold tk at h;cases a:P.underlying t with
 |none=>simp[a]at h
 |some d=>exact⟨d,rfl,by simpa[a]using h⟩
def I0 {t e:TypeId}(h:tk P t=some (.slice e)):P.underlying t=some (.slice e):=by obtain⟨d,a,hk⟩:=AY h;cases d<;>simp[WC]at hk<;>subst hk<;>exact a
def JZ {t:TypeId}(h:tk P t=some .str):P.underlying t=some .string:=by obtain⟨d,a,hk⟩:=AY h;cases d<;>simp[WC]at hk<;>exact a
def WN {t:TypeId}{k:IntKind}(h:tk P t=some (.int k)):P.underlying t=some (.int k):=by obtain⟨d,a,hk⟩:=AY h;cases d<;>simp[WC]at hk<;>subst hk<;>exact a
def Bd9 {t:TypeId}(h:tk P t=some .bool):P.underlying t=some .bool:=by obtain⟨d,a,hk⟩:=AY h;cases d<;>simp[WC]at hk<;>exact a
def LK {t k e:TypeId}(h:tk P t=some (.map k e)):P.underlying t=some (.map k e):=by obtain⟨d,a,hk⟩:=AY h;cases d<;>simp[WC]at hk;obtain⟨rfl,rfl⟩:=hk;exact a
def LL {t e:TypeId}{n:Nat}(h:tk P t=some (.arr n e)):P.underlying t=some (.array n e):=by obtain⟨d,a,hk⟩:=AY h;cases d<;>simp[WC]at hk;obtain⟨rfl,rfl⟩:=hk;exact a
def Gq {t:TypeId}{fs:List (Nat×TypeId)}(h:tk P t=some (.struct fs)):∃fa:Array Field,P.underlying t=some (.struct fa)/\fs=fa.toList.map λf=>(f.offset,f.type):=by obtain⟨d,a,hk⟩:=AY h;cases d<;>simp[WC]at hk;exact⟨_,a,hk.symm⟩
def OY {t:TypeId}{n:Nat}(h:tsz P t=some n):∃i,P.info? t=some i/\i.size=n:=by
 unfold tsz at h;cases a:P.info? t with
 |none=>simp[a]at h
 |some d=>exact⟨d,rfl,by simpa[a]using h⟩
def Y9 {t:TypeId}{z:List PV}(h:MS P t=some z):∃i v,P.info? t=some i/\i.zero=some v/\z=v.cells.toList.map MR:=by
 unfold MS at h;cases a:P.info? t with
 |none=>simp[a]at h
 |some d=>
  cases b:d.zero with
  |none=>simp[a,b]at h
  |some v=>exact⟨d,v,rfl,b,by simpa[a,b]using h.symm⟩
variable (w:World)
def Ag {t:TypeId}{d:TypeDesc}(h:P.underlying t=some d):(underlying t).run P w=.ok d w:=by simp[underlying,h]
def Be0 {t:TypeId}{i:TypeInfo}(h:P.info? t=some i):(typeInfo t).run P w=.ok i w:=by simp[typeInfo,h]
def Jx {t:TypeId}{n:Nat}(h:tsz P t=some n):(sizeOf t).run P w=.ok n w:=by obtain⟨i,a,rfl⟩:=OY h;simp[sizeOf,Be0 w a]
def AA0 {t:TypeId}{i:TypeInfo}{v:Value}(h:P.info? t=some i)(a:i.zero=some v):(zeroValue t).run P w=.ok v w:=by simp[zeroValue,Be0 w h,a]
def H6 {t:TypeId}{k:TK}(h:tk P t=some k):(isAgg t).run P w=.ok (Zh k) w:=by obtain⟨d,a,rfl⟩:=AY h;cases d<;>simp[isAgg,Ag w a,WC,Zh]
end
section
variable {w:World}{Pi:Nat->Nat->Prop}{live:Nat->Prop}{rho:Nat->Value}
def RepL (w:World)(Pi:Nat->Nat->Prop)(live:Nat->Prop)(rho:Nat->Value)(f:Nat->Value)(cs:List AV):Prop:= ∀i,i<cs.length->Sq w Pi live rho (f i) (cs.getD i .top)/\(f i).oneCell' = true
def RepL.keeps {w' : World}{Pi' : Nat->Nat->Prop}{live' : Nat->Prop}{rho' : Nat->Value}(hk:Sc w Pi w' Pi')(hl:∀j,live j->live' j/\rho' j=rho j){f:Nat->Value}{cs:List AV}
 (h:RepL w Pi live rho f cs):RepL w' Pi' live' rho' f cs:=λi a=>⟨(h i a).1.keeps hk hl,(h i a).2⟩
def RepL.drop {f:Nat->Value}{cs:List AV}(h:RepL w Pi live rho f cs)(n:Nat):RepL w Pi live rho (λi=>f (n+i)) (cs.drop n):=by
 intro i a;simp only[BB1]at a
 have:=h (n+i) (by omega)
 simpa[By3,BF6]using this
def RepL.take {f:Nat->Value}{cs:List AV}(h:RepL w Pi live rho f cs)(n:Nat):RepL w Pi live rho f (cs.take n):=by
 intro i a;simp only[BE3]at a
 have:=h i (by omega)
 simpa[By3,BH1,show i<n by omega]using this
def RepL.mkAgg {f:Nat->Value}{cs:List AV}(h:RepL w Pi live rho f cs){vs:Array Value}(hs:vs.size=cs.length)(b:∀i,i<cs.length->vs.getD i undef=f i):Sq w Pi live rho (.agg vs) (mkAgg cs):=by
 unfold AM.mkAgg;split
 .rename_i l hl
  have:=LJ hl
  subst this;simp only[BD2]at hs b h;refine .p _ _ (.agg vs l hs (λi a=>?_) λi a=>?_)
  .rw[b i a];exact (h i (by simpa using a)).2
  rw[b i a]
  have:=(h i (by simpa using a)).1
  simp only[By3,Bz1,By7 a,Bz7,Bz4]at this⊢;exact this.toP
 exact .agr vs cs hs (λi a=>by rw[b i a];exact (h i a).2) λi a=>by rw[b i a];exact (h i a).1
def AA1 {v:Value}(h:v.oneCell' = true):v.cells = #[v]:=by cases v<;>first|rfl|simp[Value.oneCell']at h
def Jy {v:Value}{x:AV}(h:Sq w Pi live rho v x)(hs:Dd x=true) :v.cells.size=(cellsOf x).length/\RepL w Pi live rho (λi=>v.cells.getD i undef) (cellsOf x):=by
 have one:∀{v:Value}{x:AV},v.oneCell' = true->Sq w Pi live rho v x->v.cells.size=[x].length/\RepL w Pi live rho (λi=>v.cells.getD i undef) [x]:=by
  intro v x h1 d;rw[AA1 h1];refine⟨rfl,λi c=>?_⟩;simp only[BC3]at c;obtain rfl:i=0:=by omega
  exact⟨d,h1⟩
 cases h with
 |p _ y hy=>
  cases y with
  |agg cs=>
   cases hy with
   |agg vs _ hsz h1 h=>
    refine⟨by simp[Value.cells,cellsOf,hsz],λi c=>?_⟩;simp only[cellsOf,BD2]at c⊢;refine⟨?_,h1 i c⟩
    have:=h i c
    simp only[By3,Bz1,By7 c,Bz7,Bz4]at this⊢;exact .p _ _ this
  |v y=>exact one (hy.cell (by simpa[Dd,Ay8]using hs)) (.p _ _ hy.nP)
  |bb b=>exact one (hy.cell rfl) (.p _ _ hy)
  |str l=>exact one (hy.cell rfl) (.p _ _ hy)
  |sl nn k n f=>exact one (hy.cell rfl) (.p _ _ hy)
  |ptr cs=>exact one (hy.cell rfl) (.p _ _ hy)
  |iface t a=>exact one (hy.cell rfl) (.p _ _ hy)
  |fn f a b=>exact one (hy.cell rfl) (.p _ _ hy)
 |reg j off b hl h=>exact one rfl (.reg j off b hl h)
 |vec j base n cap hl h=>exact one rfl (.vec j base n cap hl h)
 |vecp j m base n cap hl h hm=>exact one rfl (.vecp j m base n cap hl h hm)
 |elt j k i off b n cap hl h=>exact one rfl (.elt j k i off b n cap hl h)
 |Se j r hl h=>exact one rfl (.Se j r hl h)
 |clo f x y a b hx hy ha hb=>exact one rfl (.clo f x y a b hx hy ha hb)
 |tup x a hx ha=>simp[Dd,Ay8]at hs
 |agr x a hx h1 ha=>exact⟨hx,λi c=>⟨ha i c,h1 i c⟩⟩
 |yf j l hl h=>exact one rfl (.yf j l hl h)
 |rsl j n b hl h=>exact one rfl (.rsl j n b hl h)
 |top=>simp[Dd,Ay8]at hs
end
section
variable {P:Program}{C:Ctx}{st:St}{a:Act}{w:World}{rho:Nat->Value}{o:Oper}{out:Out}{d:Nat}
def OpOk (P:Program)(C:Ctx)(o:Oper)(st:St)(a:Act)(w:World)(rho:Nat->Value)(out:Out):Prop:= ∃nx v w' rho',(execOp a.eval o).run P w=.ok nx w' /\ (nx=.value v \/ (nx=.skip/\v=undef))/\Sat C { st with Qw:=out.Qw } a w' rho' /\ Kp C st.Qw out.Qw w w' rho rho' /\ Sq w' (Prv C.X (A1 out.Qw) rho') (Lv (A1 out.Qw)) rho' v out.val
def OpOk.pure (h:Sat C st a w rho){c:List Prop}{v:Value}{x:AV}(b:(execOp a.eval o).run P w=.ok (.value v) w)(hx:RS C st w rho v x):OpOk P C o st a w rho ⟨c,x,st.Qw⟩:=
 ⟨_,v,w,rho,b,.inl rfl,h,Kp.refl _ _ _ _,hx⟩
def Sd.toInt {w:World}{Pi:Nat->Nat->Prop}{v:Value}{k:IntKind}{n:Int}(h:Sd w Pi v (.v (.int k n))):v=.int k n:=by cases h;rfl
def Sd.toBool {w:World}{Pi:Nat->Nat->Prop}{v:Value}{b:Bool}(h:Sd w Pi v (.bb b)):v=.bool b:=by cases h;rfl
def Sd.toV {w:World}{Pi:Nat->Nat->Prop}{v x:Value}(h:Sd w Pi v (.v x)):v=x:=by cases h;rfl
def Sd.toStr {w:World}{Pi:Nat->Nat->Prop}{v:Value}{l:List UInt8}(h:Sd w Pi v (.str l)):v=.string ⟨l.toArray⟩:=by cases h;rfl
def AA2 (h:Sat C st a w rho){x:Operand}(b:o.op=.move x \/ o.op=.assign x)(d:out.Qw=st.Qw)(f:out.val=aev st.env x):OpOk P C o st a w rho out:=by obtain⟨c,v,r⟩:=out;simp only at d f;subst d;subst f;refine OpOk.pure (v:=a.eval x) h ?_ (h.aev x);rcases b with b|b<;>simp[execOp,b]
def Be1 (h:Sat C st a w rho){c x y:Operand}(f:o.op=.pick c x y)(b:aop P st.env st.Qw d o.op=some out):OpOk P C o st a w rho out:=by
 rw[f]at b;simp only[aop]at b;have hc:=h.aev c;split at b
 .rename_i hk;cases b;rw[hk]at hc;refine OpOk.pure (v:=a.eval x) h ?_ (h.aev x);simp[execOp,f,hc.toP.toV,asBool]
 .rename_i hk;cases b;rw[hk]at hc;refine OpOk.pure (v:=a.eval y) h ?_ (h.aev y);simp[execOp,f,hc.toP.toV,asBool]
 .rename_i hk;cases b;rw[hk]at hc;refine OpOk.pure (v:=a.eval x) h ?_ (h.aev x);simp[execOp,f,hc.toP.toBool,asBool]
 .rename_i hk;cases b;rw[hk]at hc;refine OpOk.pure (v:=a.eval y) h ?_ (h.aev y);simp[execOp,f,hc.toP.toBool,asBool]
 cases b
def Bp (d i:Nat):1000<=nid d i:=by unfold nid;omega
def Pq {w:World}{Pi:Nat->Nat->Prop}{live:Nat->Prop}{rho:Nat->Value}{v:Value}{t:TypeId}{ps:List PV}(h:Sr w Pi live rho v (.cells (ps.map .p))):Sr w Pi live rho v (Uq P t ps):=by
 unfold Uq;split
 .split
  .rename_i n e hk l;obtain⟨b,c,T,h1,g,f,j⟩:=h;have f:c.size=ps.length:=by simpa using f
   refine⟨b,c,T,h1,g,by omega,λi m=>?_⟩;have a : i<ps.length:=by omega
   have d:=j i (by simpa using a);have e:(ps.map AV.p).getD i .top=.p (ps.getD i default):=by simp[By3,a]
   rw[e]at d;have e2:(ps.map nP).getD i default=nP (ps.getD i default):=by simp[By3,a]
   show Sd w Pi (c.getD i undef) ((ps.map nP).getD i default)/\_;rw[e2];exact⟨d.1.toP.nP,d.2⟩
  exact h
 exact h
def WO {w:World}{Pi:Nat->Nat->Prop}{live:Nat->Prop}{rho:Nat->Value}{v:Value}{t:TypeId}{x:AV}(h:Sr w Pi live rho v (.cells (cellsOf x))):Sr w Pi live rho v (NF P t x):=by
 unfold NF;split
 .exact Pq h
 exact h
def Td {v:Value}{t:TypeId}{ps:List PV}{b:Nat}:E5 v (Uq P t ps) b↔(match v with | .pointer (some a)=>some a.block|_=>none:Option Nat)=some b:=by
 unfold Uq;split
 .split<;>rfl
 rfl
def Zu {v:Value}{t:TypeId}{x:AV}{b:Nat}:E5 v (NF P t x) b↔(match v with | .pointer (some a)=>some a.block|_=>none:Option Nat)=some b:=by
 unfold NF;split
 .exact Td
 rfl
def Ai1 {t:TypeId}{ps:List PV}(r:List (List PV))(b:Bool):Uq P t ps ≠ .yld r b:=by
 unfold Uq;split
 .split<;>(intro h;cases h)
 intro h;cases h
def AA3 {t:TypeId}{x:AV}(r:List (List PV))(b:Bool):NF P t x ≠ .yld r b:=by
 unfold NF;split
 .exact Ai1 r b
 intro h;cases h
def AN8 (h:Sat C st a w rho){t:TypeId}(l:o.op=.alloc t)(f:aop P st.env st.Qw d o.op=some out):OpOk P C o st a w rho out:=by
 rw[l]at f;simp only[aop]at f;split at f
 .rename_i z hn m;split at f
  .rename_i c;cases f;obtain⟨i,v,g,j,rfl⟩:=Y9 m;obtain⟨h1,n,q⟩:=h.fresh (Bp d 0) hn (Uq P t (v.cells.toList.map MR)) (.pointer (some ⟨w.heap.size,0,none⟩)) (w':=w.alloc (.cells v.cells t)) (by simp)
    (λb hb=>heap_alloc_old w _ b hb) (λb hb=>by simp[Td]at hb;omega) (λhk=>by
     refine Pq ⟨w.heap.size,v.cells,t,rfl,heap_alloc_new w _,by simp,λi g=>?_⟩;simp only[BD2,BC6]at g;have e:(v.cells.getD i undef)=v.cells[i]:=by simp[By2,g]
     rw[e];refine⟨?_,?_⟩
     .simp only[By3,Bz1,BC9,BA8 g,Bz7,Bz4];exact .p _ _ (K5 _ _ _)
     simp only[BI2,Bz2,Function.comp]at c;exact (K5 w (λ_ _=>False) _).cell (c _ (by simp))) (λr b=>Ai1 r b)
   refine⟨_,_,_,_,?_,.inl rfl,h1,⟨n,q⟩,.reg _ 0 w.heap.size (by simp[Lv,A3]) (by simp)⟩;simp[execOp,l,Instr.alloc,AA0 w g j,newVar,newRow]
  cases f
 cases f
def Bo5 (h:Sat C st a w rho){t:TypeId}{x:Operand}(g:o.op=.box t x)(c:aop P st.env st.Qw d o.op=some out):OpOk P C o st a w rho out:=by
 rw[g]at c;simp only[aop]at c;split at c
 .rename_i hn hs;cases c;obtain⟨f,hl⟩:=Jy (h.aev x) hs;obtain⟨h1,l,m⟩:=h.fresh (Bp d 0) hn (NF P t (aev st.env x)) (.pointer (some ⟨w.heap.size,0,none⟩)) (w':=w.alloc (.cells (a.eval x).cells t)) (by simp)
   (λb hb=>heap_alloc_old w _ b hb) (λb hb=>by simp[Zu]at hb;omega) (λhk=>by
    refine WO ⟨w.heap.size,(a.eval x).cells,t,rfl,heap_alloc_new w _,f,hl.keeps hk ?_⟩;intro i j;by_cases e:i=nid d 0
    .subst e;simp[Lv,hn]at j
    simp only[e,Ld,Lv,A3,Hj (BC5 e)];exact⟨j,trivial⟩) (λr b=>AA3 r b)
  refine⟨_,_,_,_,?_,.inl rfl,h1,⟨l,m⟩,.reg _ 0 w.heap.size (by simp[Lv,A3]) (by simp)⟩;simp[execOp,g,Instr.box,newVar,newRow]
 cases c
def Ah {Pi:Nat->Nat->Prop}{live:Nat->Prop}{f:Nat->Value}{cs:List AV}{t:TypeId}{x:AV}{b off:Nat}(hl:RepL w Pi live rho f cs)
 (hc:∀i,i<cs.length->w.cell? ⟨b,off+i,none⟩=some (f i)) (a:ldA P t cs=some x):∃v,(loadVar t ⟨b,off,none⟩).run P w=.ok v w/\Sq w Pi live rho v x:=by
 unfold ldA at a;split at a
 .rename_i k n hk hn;split at a
  .rename_i d;split at a
   .rename_i hle;cases a;have g:=run_loadCells (P:=P) w ⟨b,off,none⟩ n f (λj o=>by rw[BE8];exact hc j (by omega));refine⟨_,?_,(hl.take n).mkAgg (vs:=((List.range n).map f).toArray) (by simp;omega) (λi m=>?_)⟩
    .simp[loadVar,H6 w hk,d,Jx w hn,g]
    simp only[BE3]at m;simp[By2,show i<n by omega]
   cases a
  rename_i d;cases cs with
  |nil=>cases a
  |cons c r=>cases a;have l:=hc 0 (by simp);rw[BG2]at l;refine⟨f 0,?_,(hl 0 (by simp)).1⟩;simp[loadVar,H6 w hk,d,l]
 cases a
def Ai2 (l:List PV):Wy (l.map .p)=some l:=by
 induction l with
 |nil=>rfl
 |cons x r ih=>simp[Wy,ih]
def AA4 {t:TypeId}{cs:List PV}{c:List Prop}{x:AV}(a:ldP P t cs=some (c,x))(hc:C6 c):ldA P t (cs.map .p)=some x:=by
 unfold ldP at a;unfold ldA;split at a
 .rename_i k n hk hn;split at a
  .rename_i b;cases a;simp only[C6]at hc;simp only[BD2,hc,Lc,<- List.map_take,mkAgg,Ai2]
  rename_i b;split at a
  .cases a;rfl
  cases a
 cases a
def Te (h:Sat C st a w rho){v:Value}{x y:AV}{t:TypeId}{c:List Prop}(hv:RS C st w rho v x)(o:load P st.Qw t x=some (c,y))(hc:C6 c) :∃u,(Instr.loadAt t v).run P w=.ok u w/\RS C st w rho u y:=by
 cases hv with
 |reg j off b hl hr=>
  simp only[load]at o;split at o
  .rename_i cs hj;split at o
   .rename_i y' hld;cases o;have hh:=h.hp.holds j _ hj;rw[hr]at hh;obtain⟨b',c,T,r,d,hsz,g⟩:=hh;cases r;obtain⟨u,hu,s⟩:=Ah (P:=P) (t:=t) (b:=b) (off:=off) (RepL.drop (f:=λi=>c.getD i undef) g off) (λi z=>by simp only[BB1]at z;exact cell_of_heap d (by omega)) hld
    exact⟨u,by simp[Instr.loadAt,Instr.sureAddr,hu],s⟩
   cases o
  .rename_i n f hj;have hh:=h.hp.holds j _ hj;rw[hr]at hh;obtain⟨b',c,T,r,d,hsz,g⟩:=hh;cases r;split at o
   .rename_i k m hk hm;split at o
    .rename_i a0;split at o
     .rename_i hmn;cases o;obtain⟨hmn,hoff⟩:=hmn;subst hoff;subst hmn;obtain⟨u,hu,s⟩:=Ah (P:=P) (t:=t) (b:=b) (off:=0) (w:=w) (rho:=rho) (Pi:=PiS C st rho) (live:=Lv (A1 st.Qw)) (f:=λi=>c.getD i undef) (cs:=(DL m f).map .p) (x:=.p (.agg (DL m f)))
       (λi z=>by
        have z:i<m:=by simpa[DL]using z
        have e:((DL m f).map AV.p).getD i .top=.p (f i):=by simp[DL,By3,z]
        rw[e];exact⟨.p _ _ (g i z).1,(g i z).2⟩)
       (λi z=>by
        have z:i<m:=by simpa[DL]using z
        rw[BE1];exact cell_of_heap d (by omega))
       (by
        have hl:((DL m f).map AV.p).length=m:=by simp[DL]
        unfold ldA;simp only[hk,hm,a0,hl,Bz5,Lc];rw[BL9 (by omega)];simp only[mkAgg,Ai2])
      exact⟨u,by simp[Instr.loadAt,Instr.sureAddr,hu],s⟩
     cases o
    rename_i a0;cases o;have hoff:off<n:=hc;refine⟨c.getD off undef,?_,.p _ _ (g off hoff).1⟩;have h0:w.cell? ⟨b,off,none⟩=some (c.getD off undef):=cell_of_heap d (by omega)
    have:(loadVar t ⟨b,off,none⟩).run P w=.ok (c.getD off undef) w:=by simp[loadVar,H6 w hk,a0,h0]
    simp[Instr.loadAt,Instr.sureAddr,this]
   cases o
  .rename_i T u l jr hj;split at o
   .rename_i y' hld;cases o;obtain⟨hlj,hs,b',r,d⟩:=h.hp.holds j _ hj;rw[hr]at r;cases r;obtain⟨base,m,cap,hv⟩:=hs.2 rfl;have d:w.heap[b]? = some (.cells #[if u=0 then .pointer none else .pointer (some ⟨b,0,none⟩),rho jr] T (0,0)):=d;have g:RepL w (PiS C st rho) (Lv (A1 st.Qw)) rho (λi=>(#[if u=0 then Value.pointer none else .pointer (some ⟨b,0,none⟩),rho jr]:Array Value).getD i undef) (Bl6 j u jr):=λi z=>match i,z with
     |0,_=>by
      by_cases hu:u=0
      .simp only[Bl6,hu,Lc];exact⟨.p _ _ (.v _),rfl⟩
      simp only[Bl6,hu,Ld];exact⟨.reg j 0 b hl hr,rfl⟩
     |1,_=>by
      simp only[Bl6];refine⟨?_,?_⟩
      .show Sq _ _ _ _ (rho jr) (.vec jr);rw[hv];exact .vec jr base m cap hlj hv
      show (rho jr).oneCell' = true;rw[hv];rfl
     |_+2,z=>Ij z (by show ¬_<2;omega)
    obtain⟨u',hu,s⟩:=Ah (P:=P) (t:=t) (b:=b) (off:=off) (RepL.drop g off) (λi z=>by simp only[BB1]at z;exact cell_of_heap d (by show off+i<2;have:(Bl6 j u jr).length=2:=rfl;omega)) hld
    exact⟨u',by simp[Instr.loadAt,Instr.sureAddr,hu],s⟩
   cases o
  cases o
 |elt j k i off b n cap hl hr=>
  simp only[load]at o;split at o
  .rename_i e m n' f vw hj;split at o
   .rename_i hkm;subst hkm;split at o
    .rename_i c' y' hld;cases o;have hc':=(Pm _ _).1 hc;have a2:=hc'.2;have hh:=h.hp.holds j _ hj;rw[hr]at hh;rcases hh with⟨hn,_⟩ | ⟨b',cap',cc,r,d,hncap,hsz,hmax,a1,g⟩
     .cases hn
     cases r;have hle:n*k<=cc.size:=by rw[hsz];exact BA6 k hncap
     obtain⟨u,hu,s⟩:=Ah (P:=P) (t:=t) (b:=b) (off:=i*k+off) (w:=w) (rho:=rho) (Pi:=PiS C st rho) (live:=Lv (A1 st.Qw)) (f:=λl=>cc.getD (i*k+(off+l)) undef) (cs:=((f i).drop off).map .p)
      (λl hl=>by
       simp only[BD2,BB1,a1 i a2]at hl;obtain⟨h1,h2⟩:=g i (off+l) a2 (by omega);refine⟨?_,h2⟩
       have:l<((f i).drop off).length:=by simp[a1 i a2];omega
       simp only[By3,Bz1,By7 this,Bz7,Bz4];have h3:(f i).getD (off+l) default=((f i).drop off)[l]:=by rw[List.getElem_drop,By3,By7 (by rw[a1 i a2];omega),Bz4]
       rw[h3]at h1;exact .p _ _ h1)
      (λl hl=>by
       simp only[BD2,BB1,a1 i a2]at hl
       have:=H3 a2 (show off+l<k by omega)
       rw[BK4];exact cell_of_heap d (by omega)) (AA4 hld hc'.1)
     exact⟨u,by simp[Instr.loadAt,Instr.sureAddr,hu],s⟩
    cases o
   cases o
  .rename_i e n' jr i0 x0 hj;split at o
   .rename_i q hk;split at o
    .rename_i a0;obtain⟨a0,rfl,rfl⟩:=a0;cases o;obtain⟨hin,rfl⟩:=hc;obtain⟨rv,_,_,hh⟩:=h.hp.holds j _ hj;rw[hr]at hh;rcases hh with⟨hn,_⟩ | ⟨b',cap',cc,r,d,hncap,hsz,hmax,hrow,hx⟩
     .cases hn
     cases r;refine⟨cc.getD i undef,?_,hx⟩;have h0:w.cell? ⟨b,i,none⟩=some (cc.getD i undef):=cell_of_heap d (by omega)
     have:(loadVar t ⟨b,i,none⟩).run P w=.ok (cc.getD i undef) w:=by simp[loadVar,H6 w hk,a0,h0]
     rw[BH5,BG2];simp[Instr.loadAt,Instr.sureAddr,this]
    cases o
   cases o
  cases o
 |p _ x hx=>
  cases hx with
  |ptr b off cs f hcell g=>
   simp only[load]at o;obtain⟨u,hu,s⟩:=Ah (P:=P) (t:=t) (b:=b) (off:=off) (w:=w) (rho:=rho) (Pi:=PiS C st rho) (live:=Lv (A1 st.Qw)) (f:=f) (cs:=cs.map .p)
    (λl hl=>by
     simp only[BD2]at hl;refine⟨?_,(hcell l hl).2.2⟩
     have:=g l hl
     simp only[By3,Bz1,By7 hl,Bz7,Bz4]at this⊢;exact .p _ _ this)
    (λl hl=>(hcell l (by simpa using hl)).1) (AA4 o hc)
   exact⟨u,by simp[Instr.loadAt,Instr.sureAddr,hu],s⟩
  |_=>simp[load]at o
 |_=>simp[load]at o
def Be2 (h:Sat C st a w rho){t:TypeId}{x:Operand}(f:o.op=.load t x)(b:aop P st.env st.Qw d o.op=some out)(hc:C6 out.cond):OpOk P C o st a w rho out:=by
 rw[f]at b;simp only[aop]at b;split at b
 .rename_i c y hl;cases b;obtain⟨u,g,i⟩:=Te h (h.aev x) hl hc;exact OpOk.pure h (by simp[execOp,f,g]) i
 cases b
end
def I1 {α : Type}(l new:List α)(off:Nat)(h:off+new.length<=l.length):(splice l off new).length=l.length:=by simp only[splice,Bz6,BE3,BB1];omega
def X2 {α : Type}(l new:List α)(off i:Nat)(d : α)(h:off+new.length<=l.length) :(splice l off new).getD i d=if off<=i/\i<off+new.length then new.getD (i-off) d else l.getD i d:=by
 simp only[splice,By3,BP9,BH1,BF6,Bz6,BE3];have hm:min off l.length=off:=by omega
 rw[hm];by_cases h1:i<off
 .have b:i<off+new.length:=by omega
  have a:¬(off<=i):=by omega
  simp[h1,b,a]
 by_cases b:i<off+new.length
 .have a:off<=i:=by omega
  simp[h1,b,a]
 have a:off+new.length+(i-(off+new.length))=i:=by omega
 simp[b,a]
def D0 (c:Array Value)(i:Nat):c.getD i undef=c.toList.getD i undef:=by simp[By2,By3]
def AA5 {l i k a b:Nat}(h:l*k+a=i*k+b)(ha:a<k)(hb:b<k):l=i/\a=b:=by
 have h1:(l*k+a) / k=l:=by rw[BG9,BP5 (by omega),BK9 ha];omega
 have c:(i*k+b) / k=i:=by rw[BG9,BP5 (by omega),BK9 hb];omega
 have:l=i:=by rw[<- h1,h,c]
 subst this;exact⟨rfl,by omega⟩
section
variable {w:World}{Pi:Nat->Nat->Prop}{live:Nat->Prop}{rho:Nat->Value}
def RepL.splice {c:List Value}{cs:List AV}{vs:List Value}{new:List AV}{off:Nat}(hs:c.length=cs.length)(h:RepL w Pi live rho (λi=>c.getD i undef) cs)
 (hn:vs.length=new.length) (h' : RepL w Pi live rho (λi=>vs.getD i undef) new) (a:off+new.length<=cs.length):RepL w Pi live rho (λi=>(splice c off vs).getD i undef) (splice cs off new):=by
 intro i b;rw[I1 _ _ _ a]at b;simp only[X2 c vs off i undef (by omega),X2 cs new off i .top a,hn];split
 .exact h' (i-off) (by omega)
 exact h i b
end
section
variable {P:Program}{C:Ctx}{st:St}{a:Act}{w:World}{rho:Nat->Value}{o:Oper}{out:Out}{d:Nat}
def Dq {v:Value}{x:AV}{w:World}{Pi:Nat->Nat->Prop}{live:Nat->Prop}(hc:v.cells.size=(cellsOf x).length/\RepL w Pi live rho (λi=>v.cells.getD i undef) (cellsOf x)) :∀u∈v.cells.toList,u.oneCell' = true:=by
 intro u b;obtain⟨i,a,rfl⟩:=BE2 b;simp only[BC6]at a
 have:=(hc.2 i (by omega)).2
 simpa[By2,a]using this
def Dr {b off:Nat}{T t:TypeId}{cur:Array Value}{v:Value}{m:Nat}(hm:tsz P t=some m)(hs:v.cells.size=m)(a:w.heap[b]? = some (.cells cur T (0,0)))(c:off+m<=cur.size)
 (h1:∀u∈v.cells.toList,u.oneCell' = true):(storeVar t ⟨b,off,none⟩ v).run P w=.ok () (w.setRow b (splice cur.toList off v.cells.toList).toArray):=by
 have:=run_storeCells_at (P:=P) b off T v.cells.toList 0 cur w a (by simp[hs];omega) h1
 simp only[BG2]at this;simp[storeVar,Jx w hm,hs,this,splice]
def Ps (h:Sat C st a w rho){t:TypeId}{va vx:Value}{x y:AV}(hva:RS C st w rho va x)(hvx:RS C st w rho vx y){c:List Prop}{R' : C5}
 (r:store P st.Qw t x y=some (c,R')) (hc:C6 c):∃w',(Instr.storeAt t va vx).run P w=.ok () w' /\ Sat C { st with Qw:=R' } a w' rho/\Kp C st.Qw R' w w' rho rho:=by
 unfold store at r;split at r
 .rename_i m hm hsto;have d:=Jy hvx hsto;cases hva with
  |reg j off b hl hr=>
   simp only at r;split at r
   .rename_i cs hj;split at r
    .rename_i hsz;cases r;have hh:=h.hp.holds j _ hj;rw[hr]at hh;obtain⟨b',c,T,o,q,s,a3⟩:=hh;cases o;have z:=Dr (P:=P) (t:=t) (off:=off) (v:=vx) hm (d.1.trans hsz.1) q (by omega) (Dq d);obtain⟨h1,h2,h3⟩:=h.modify (ob:=.cells (splice cs off (cellsOf y))) hj (b:=b) (by simp[E5,N1,hr]) (λ_=>trivial) (λb' o=>by simp[E5,N1,hr]at o;exact o.symm)
      (w':=w.setRow b (splice c.toList off vx.cells.toList).toArray) (by simp) (λb' o=>setRow_other w b b' _ o) (λhk=>by
       refine⟨b,_,T,hr,setRow_heap w b c _ T _ q,?_,?_⟩
       .rw[BF9,I1 _ _ _ (by simp;omega),I1 _ _ _ (by omega)];simpa using s
       have a1:∀i,Lv (A1 st.Qw) i->Lv (A1 (ins j (.cells (splice cs off (cellsOf y))) st.Qw)) i/\rho i=rho i:=by
        intro i hi;refine⟨?_,rfl⟩;simp only[Lv,A3];split
        .rfl
        exact hi
       have:=RepL.splice (c:=c.toList) (cs:=cs) (vs:=vx.cells.toList) (new:=cellsOf y) (off:=off) (by simpa using s)
        (RepL.keeps hk a1 (by intro i hi;have:=a3 i hi;simpa only[D0]using this)) (by simpa using d.1)
        (RepL.keeps hk a1 (by intro i hi;have:=d.2 i hi;simpa only[D0]using this)) (by omega)
       intro i hi
       have:=this i hi
       simpa[By2,By3]using this)
     exact⟨_,by simp[Instr.storeAt,Instr.sureAddr,z],h1,h2,h3⟩
    cases r
   .rename_i n f hj;have hh:=h.hp.holds j _ hj;rw[hr]at hh;obtain⟨b',c,T,o,q,s,a3⟩:=hh;cases o;have fin:∀g:Nat->PV,vx.cells.size=m->off+m<=n->(∀i,i<n->¬(off<=i/\i<off+m)->g i=f i)->(∀i,i<m->∃y',(cellsOf y).getD i .top=.p y' /\ g (off+i)=y') ->
     ∃w',(Instr.storeAt t (.pointer (some ⟨b,off,none⟩)) vx).run P w=.ok () w' /\ Sat C { st with Qw:=ins j (.arr n g) st.Qw } a w' rho/\Kp C st.Qw (ins j (.arr n g) st.Qw) w w' rho rho:=by
     intro g hvs hle hg1 hg2;have z:=Dr (P:=P) (t:=t) (off:=off) (v:=vx) hm hvs q (by omega) (Dq d);obtain⟨h1,h2,h3⟩:=h.modify (ob:=.arr n g) hj (b:=b) (by simp[E5,N1,hr]) (λ_=>trivial) (λb' o=>by simp[E5,N1,hr]at o;exact o.symm)
      (w':=w.setRow b (splice c.toList off vx.cells.toList).toArray) (by simp) (λb' o=>setRow_other w b b' _ o) (λhk=>by
       refine⟨b,_,T,hr,setRow_heap w b c _ T _ q,?_,λi hi=>?_⟩
       .rw[BF9,I1 _ _ _ (by simp;omega)];simpa using s
       have e1:((splice c.toList off vx.cells.toList).toArray).getD i undef=(splice c.toList off vx.cells.toList).getD i undef:=by simp[By2,By3]
       rw[e1,X2 _ _ _ _ _ (by simp;omega)];by_cases a2:off<=i/\i<off+vx.cells.toList.length
       .rw[Gy a2];have hi2:i-off<m:=by simp at a2;omega
        obtain⟨y',hy1,hy2⟩:=hg2 (i-off) hi2;rw[show off+(i-off)=i by omega]at hy2;have a4:=d.2 (i-off) (by omega);rw[hy1]at a4;rw[hy2];simp only[D0]at a4;exact⟨a4.1.toP.keeps hk,a4.2⟩
       rw[Hj a2,<- D0,hg1 i hi (by simp at a2⊢;omega)];exact⟨(a3 i hi).1.keeps hk,(a3 i hi).2⟩)
     exact⟨_,by simp[Instr.storeAt,Instr.sureAddr,z],h1,h2,h3⟩
    split at r
    .rename_i ps;split at r
     .rename_i hmn;cases r;obtain⟨a6,hpl⟩:off=0/\ps.length=n:=hc;subst a6;refine fin _ ?_ (by omega) (λi hi hn=>Ij ⟨BG6 _,by omega⟩ hn) (λi hi=>?_)
      .rw[d.1];simp[cellsOf];omega
      refine⟨ps.getD i default,?_,by rw[BE1]⟩;simp[cellsOf,By3,show i<ps.length by omega]
     cases r
    .rename_i y' hna;split at r
     .rename_i hm1;cases r;have a6:off<n:=hc;have hco:cellsOf (.p y')=[.p (nP y')]:=by
       cases y' with
       |agg ps=>exact Ij rfl (hna ps)
       |_=>rfl
      refine fin _ ?_ (by omega) (λi hi hn=>?_) (λi hi=>?_)
      .rw[d.1,hco];simp;omega
      .show (if i=off then nP y' else f i)=f i;rw[Hj (by omega)]
      obtain rfl:i=0:=by omega
      exact⟨nP y',by rw[hco];rfl,by simp⟩
     cases r
    cases r
   .rename_i T u l jr0 hj;split at r
    .rename_i jr;split at r
     .rename_i hh2;cases r;obtain⟨⟨hm1,a6⟩,hne⟩:=hh2;subst a6;obtain⟨hlj,hs,b',o,q⟩:=h.hp.holds j _ hj;rw[hr]at o;cases o;have q:w.heap[b]? = some (.cells #[if u=0 then .pointer none else .pointer (some ⟨b,0,none⟩),rho jr0] T (0,0)):=q;obtain⟨base,n,cap,hvx2,hvr,hljr⟩:∃base n cap,vx=.slice base n cap/\rho jr=.slice base n cap/\Lv (A1 st.Qw) jr:=by
       cases hvx with
       |vec _ base n cap hl hr=>exact⟨base,n,cap,rfl,hr,hl⟩
      have z:=Dr (P:=P) (t:=t) (off:=1) (v:=vx) (m:=m) hm (by rw[hvx2,hm1];rfl) q (by show 1+m<=2;omega) (Dq d);obtain⟨h1,h2,h3⟩:=h.modify (ob:=.blk (0::T::u::l) jr) hj (b:=b) (by simp[E5,N1,hr]) (λ_=>trivial) (λb' o=>by simp[E5,N1,hr]at o;exact o.symm)
       (w':=w.setRow b (splice (#[if u=0 then Value.pointer none else .pointer (some ⟨b,0,none⟩),rho jr0]:Array Value).toList 1 vx.cells.toList).toArray) (by simp) (λb' o=>setRow_other w b b' _ o) (λhk=>by
        refine⟨?_,⟨λvs e=>(by rw[hvr]at e;cases e),λ_=>⟨_,_,_,hvr⟩⟩,b,hr,?_⟩
        .simp only[Lv,A3];split
         .rfl
         exact hljr
        rw[setRow_heap w b _ _ T _ q,hvr,hvx2];rfl)
      exact⟨_,by simp[Instr.storeAt,Instr.sureAddr,z],h1,h2,h3⟩
     cases r
    cases r
   cases r
  |elt j k i off b n cap hl hr=>
   simp only at r;split at r
   .rename_i e k' n' f p hj;split at r
    .rename_i hkk;subst hkk;cases r;obtain⟨hpl,hin,a6⟩:=hc;have hh:=h.hp.holds j _ hj;rw[hr]at hh;rcases hh with⟨hn,_⟩ | ⟨b',cap',c,o,q,a5,s,hmax,a7,a3⟩
     .cases hn
     cases o;have hcp:(cellsOf (.p p)).length=(Ca p).length:=by cases p<;>simp[cellsOf,Ca]
     have hcp' : cellsOf (.p p)=(Ca p).map .p:=by cases p<;>simp[cellsOf,Ca]
     have hle:n*k<=c.size:=by rw[s];exact BA6 k a5
     have hik:i*k+k<=n*k:=by rw[<- BL3];exact BA6 k hin
     have z:=Dr (P:=P) (t:=t) (off:=i*k+off) (v:=vx) hm (d.1.trans (hcp.trans hpl)) q (by omega) (Dq d);have hvl:vx.cells.toList.length=m:=by simpa using d.1.trans (hcp.trans hpl)
     obtain⟨h1,h2,h3⟩:=h.modify (ob:=.vec e k n (λl=>if l=i then splice (f l) off (Ca p)else f l) false) hj (b:=b) (by simp[E5,N1,hr]) (λ_=>trivial) (λb' o=>by simp[E5,N1,hr]at o;exact o.symm)
      (w':=w.setRow b (splice c.toList (i*k+off) vx.cells.toList).toArray) (by simp) (λb' o=>setRow_other w b b' _ o) (λhk=>by
       have a1:∀l,Lv (A1 st.Qw) l->Lv (A1 (ins j (.vec e k n (λl=>if l=i then splice (f l) off (Ca p)else f l) false) st.Qw)) l/\rho l=rho l:=by
        intro l hl;refine⟨?_,rfl⟩;simp only[Lv,A3];split
        .rfl
        exact hl
       refine .inr ⟨b,cap,_,hr,setRow_heap w b c _ e _ q,a5,?_,hmax,λl hl=>?_,λl jj hl hjj=>?_⟩
       .rw[BF9,I1 _ _ _ (by simp;omega)];simpa using s
       .by_cases a0:l=i
        .subst a0;simp only[Lc];rw[I1 _ _ _ (by rw[a7 l hl];omega)];exact a7 l hl
        simp only[a0,Ld];exact a7 l hl
       have hold:=a3 l jj hl hjj;have e1:((splice c.toList (i*k+off) vx.cells.toList).toArray).getD (l*k+jj) undef=(splice c.toList (i*k+off) vx.cells.toList).getD (l*k+jj) undef:=by simp[By2,By3]
       rw[e1,X2 _ _ _ _ _ (by simp at hvl⊢;omega)];by_cases a2:i*k+off<=l*k+jj/\l*k+jj<i*k+off+vx.cells.toList.length
       .rw[Gy a2];have a0:=AA5 (l:=l) (i:=i) (k:=k) (a:=jj) (b:=l*k+jj-i*k) (by omega) hjj (by omega);obtain⟨rfl,hjj'⟩:=a0;simp only[Lc];rw[X2 _ _ _ _ _ (by rw[a7 l hl];omega),Gy (by omega)];have a4:=d.2 (jj-off) (by omega);rw[hcp']at a4;simp only[By3,Bz1,By7 (show jj-off<(Ca p).length by omega),Bz7,Bz4]at a4⊢;rw[show l*k+jj-(l*k+off)=jj-off by omega];refine⟨?_,?_⟩
        .have:=(Sq.toP a4.1).keeps hk
         simpa[By2]using this
        simpa[By2]using a4.2
       rw[Hj a2,<- D0];refine⟨?_,hold.2⟩;by_cases a0:l=i
       .subst a0;simp only[Lc];rw[X2 _ _ _ _ _ (by rw[a7 l hl];omega),Hj (by omega)];exact hold.1.keeps hk
       simp only[a0,Ld];exact hold.1.keeps hk)
     exact⟨_,by simp[Instr.storeAt,Instr.sureAddr,z],h1,h2,h3⟩
    cases r
   .rename_i x1 e n' jr i0 x0 hj;split at r
    .rename_i y' hy;split at r
     .rename_i hm1;obtain⟨rfl,rfl,rfl⟩:=hm1;cases r;obtain⟨hin,rfl⟩:=hc;obtain⟨rv,g1,g2,hh⟩:=h.hp.holds j _ hj;rw[hr]at hh;have hone:=Dq d;rw[hy]at d;have hv1:vx.cells.size=1:=d.1;have hv0:=d.2 0 (by simp);rcases hh with⟨hn,_⟩ | ⟨b',cap',c,o,q,a5,s,hmax,hrow,hx⟩
      .cases hn
      cases o;rw[BH5,BG2];have z:=Dr (P:=P) (t:=t) (off:=i) (v:=vx) hm hv1 q (by omega) hone;have hjr:j≠jr:=by rintro rfl;rw[hr]at g2;cases g2
      obtain⟨h1,h2,h3⟩:=h.modify (ob:=.fam e n jr (some (i,y'))) hj (b:=b) (by simp[E5,N1,hr]) (λ_=>trivial) (λb' o=>by simp[E5,N1,hr]at o;exact o.symm)
       (w':=w.setRow b (splice c.toList (i) vx.cells.toList).toArray) (by simp) (λb' o=>setRow_other w b b' _ o) (λhk=>by
        have a1:∀l,Lv (A1 st.Qw) l->Lv (A1 (ins j (.fam e n jr (some (i,y'))) st.Qw)) l/\rho l=rho l:=by
         intro l hl;refine⟨?_,rfl⟩;simp only[Lv,A3];split
         .rfl
         exact hl
        have hget:∀l,l<n->((splice c.toList (i) vx.cells.toList).toArray).getD l undef=if l=i then vx.cells.getD 0 undef else c.getD l undef:=by
         intro l hl;have e1:((splice c.toList (i) vx.cells.toList).toArray).getD l undef=(splice c.toList (i) vx.cells.toList).getD l undef:=by simp[By2,By3]
         rw[e1,X2 _ _ _ _ _ (by simp[hv1];omega)];by_cases a0:l=i
         .subst a0;rw[Gy (by simp[hv1]),Gy rfl,D0];simp
         rw[Hj (by simp[hv1];omega),Hj a0,<- D0]
        refine⟨rv,(a1 jr g1).1,g2,.inr ⟨b,cap,_,hr,setRow_heap w b c _ e _ q,a5,?_,hmax,λl hl=>?_,?_⟩⟩
        .rw[BF9,I1 _ _ _ (by simp[hv1];omega)];simpa using s
        .rw[hget l hl];by_cases a0:l=i
         .subst a0;rw[Gy rfl];exact⟨hv0.2,λe=>Ij rfl e⟩
         rw[Hj a0];exact⟨(hrow l hl).1,λ_=>(hrow l hl).2 (by simp;exact λe=>a0 e.symm)⟩
        show Sq _ _ _ rho _ y';rw[hget i hin,Gy rfl]
        have:=hv0.1
        simp only[BL2]at this;exact this.keeps hk a1)
      exact⟨_,by simp[Instr.storeAt,Instr.sureAddr,z],h1,h2,h3⟩
     cases r
    cases r
   cases r
  |_=>simp at r
 cases r
def AN9 (h:Sat C st a w rho){t:TypeId}{x y:Operand}(g:o.op=.store t x y)(b:aop P st.env st.Qw d o.op=some out)(hc:C6 out.cond):OpOk P C o st a w rho out:=by
 rw[g]at b;simp only[aop]at b;split at b
 .rename_i c R' hs;cases b;obtain⟨w',f,h1,i⟩:=Ps h (h.aev x) (h.aev y) hs hc;exact⟨.skip,undef,w',rho,by simp[execOp,g,f],.inr ⟨rfl,rfl⟩,h1,i,.p _ _ (.v _)⟩
 cases b
end
section
variable {P:Program}{C:Ctx}{st:St}{a:Act}{w:World}{rho:Nat->Value}{o:Oper}{out:Out}{d:Nat}
def RL (l:List UInt8):(⟨l.toArray⟩:ByteArray).size=l.length:=by show l.toArray.size=_;simp
def Cb {Pi:Nat->Nat->Prop}{live:Nat->Prop}{v:Value}{x:AV}{n:Int}(h:Sq w Pi live rho v x)(a:asInt x=some n):∃k,v=.int k n:=by
 unfold asInt at a;split at a
 .rename_i k m;cases a;exact⟨k,h.toP.toInt⟩
 cases a
def Ir {t:TypeId}{fs:List (Nat×TypeId)}{f off:Nat}{ft:TypeId}(hk:tk P t=some (.struct fs))(a:fs[f]? = some (off,ft)) :∃fa:Array Field,∃fd:Field,P.underlying t=some (.struct fa)/\fa[f]? = some fd/\fd.offset=off/\fd.type=ft:=by obtain⟨fa,b,rfl⟩:=Gq hk;simp only[Bz1,BC9,BB6,Bz3]at a;obtain⟨fd,h1,c,d⟩:=a;exact⟨fa,fd,b,h1,c,d⟩
def WQ (h:Sat C st a w rho){t:TypeId}{x:Operand}{f:Nat}(ho:o.op=.fieldAddr t x f)(s:aop P st.env st.Qw d o.op=some out):OpOk P C o st a w rho out:=by
 rw[ho]at s;simp only[aop]at s;split at s
 .rename_i y hy;cases s;have hx:=h.aev x;unfold AY1 at hy;split at hy
  .rename_i fs hk;split at hy
   .rename_i off ft hf;obtain⟨fa,fd,hu,u,rfl,rfl⟩:=Ir hk hf;split at hy
    .cases hy
    .rename_i m z hm;have a0:(m=0)=False:=by refine propext ⟨λe=>?_,False.elim⟩;subst e;exact z rfl
     have r:∀ad:Addr,(fieldPlace ad fd).run P w=.ok (ad.add fd.offset) w:=by intro ad;simp[fieldPlace,Jx w hm,a0]
     have g:∀ad:Addr,a.eval x=.pointer (some ad)->(execOp a.eval o).run P w=.ok (.value (.pointer (some (ad.add fd.offset)))) w:=by intro ad hv;simp[execOp,ho,Instr.fieldAt,Ag w hu,u,hv,Instr.sureAddr,r]
     split at hy
     .rename_i j oo l;cases hy;rw[l]at hx;generalize q:a.eval x=v at hx;cases hx with
      |reg j off b hl hr=>refine OpOk.pure h (g _ q) ?_;rw[BE8];exact .reg j _ b hl hr
     .rename_i j k i oo l;cases hy;rw[l]at hx;generalize q:a.eval x=v at hx;cases hx with
      |elt j k i off b n cap hl hr=>refine OpOk.pure h (g _ q) ?_;rw[BE8,BK4];exact .elt j k i _ b n cap hl hr
     .rename_i cs l;cases hy;rw[l]at hx;have hx:=hx.toP;generalize q:a.eval x=v at hx;cases hx with
      |ptr b off cs c hc hrep=>
       refine OpOk.pure h (g _ q) ?_;rw[BE8];refine .p _ _ (.ptr b _ _ (λj=>c (fd.offset+j)) (λj hj=>?_) λj hj=>?_)
       .simp only[BB1]at hj
        have:=hc (fd.offset+j) (by omega)
        rwa [<- BK4]at this
       simp only[BB1]at hj
       have:=hrep (fd.offset+j) (by omega)
       simpa[By3,BF6]using this
     cases hy
    cases hy
   cases hy
  cases hy
 cases s
def Tf {Pi:Nat->Nat->Prop}{live:Nat->Prop}{t:TypeId}{vs:Array Value}{cs:List PV}{off:Nat}{x:AV}{c:List Prop}(hs:vs.size=cs.length)(h1:∀i,i<cs.length->(vs.getD i undef).oneCell' = true)
 (h:∀i,i<cs.length->Sd w Pi (vs.getD i undef) (cs.getD i default)) (b:ldP P t (cs.drop off)=some (c,x)) (hc:C6 c):∃v,(part t vs off).run P w=.ok v w/\Sq w Pi live rho v x:=by
 unfold ldP at b;split at b
 .rename_i k n hk hn;split at b
  .rename_i a;cases b;simp only[C6,BB1]at hc;by_cases f:n=0
   .subst f;refine⟨.agg (vs.extract off off),by simp[part,H6 w hk,a,Jx w hn],.p _ _ (.agg _ _ (by simp;omega) (λi d=>by simp at d) λi d=>by simp at d)⟩
   refine⟨.agg (vs.extract off (off+n)),by simp[part,H6 w hk,a,Jx w hn],.p _ _ (.agg _ _ (by simp;omega) (λi d=>?_) λi d=>?_)⟩
   .simp only[BE3,BB1]at d
    have:=h1 (off+i) (by omega)
    simpa[By2,BJ8,show i<min (off+n) vs.size-off by omega,show off+i<vs.size by omega]using this
   simp only[BE3,BB1]at d
   have:=h (off+i) (by omega)
   simpa[By2,BJ8,show i<min (off+n) vs.size-off by omega,show off+i<vs.size by omega,show off+i<cs.length by omega,By3,BH1,show i<n by omega,BF6]using this
  rename_i a;split at b
  .rename_i y r j;cases b;have g:off<cs.length:=by
    have:=congrArg List.length j
    simp only[BB1,BA2]at this;omega
   have hy:cs.getD off default=y:=by
    have:=congrArg (λl=>l.head?) j
    simp only[List.head?_drop,List.head?_cons]at this;simp[By3,this]
   have:=h off g
   rw[hy]at this;refine⟨vs.getD off undef,?_,.p _ _ this⟩;simp[part,H6 w hk,a,By2,show off<vs.size by omega]
  cases b
 cases b
def Zv {Pi:Nat->Nat->Prop}{live:Nat->Prop}{t:TypeId}{vs:Array Value}{cs:List AV}{off:Nat}{x:AV}(hs:vs.size=cs.length)(h1:∀i,i<cs.length->(vs.getD i undef).oneCell' = true)
 (h:∀i,i<cs.length->Sq w Pi live rho (vs.getD i undef) (cs.getD i .top)) (a:ldA P t (cs.drop off)=some x):∃v,(part t vs off).run P w=.ok v w/\Sq w Pi live rho v x:=by
 have hl:RepL w Pi live rho (λi=>vs.getD (off+i) undef) (cs.drop off):=λi c=>by
  simp only[BB1]at c;have e:(cs.drop off).getD i .top=cs.getD (off+i) .top:=by simp[By3,BF6]
  rw[e];exact⟨h (off+i) (by omega),h1 (off+i) (by omega)⟩
 unfold ldA at a;split at a
 .rename_i k n hk hn;split at a
  .rename_i b;split at a
   .rename_i hle;cases a;simp only[BB1]at hle;by_cases f:n=0
    .subst f;refine⟨.agg (vs.extract off off),by simp[part,H6 w hk,b,Jx w hn],?_⟩;exact (hl.take 0).mkAgg (vs:=vs.extract off off) (by simp;omega) (λi c=>by simp at c)
    refine⟨.agg (vs.extract off (off+n)),by simp[part,H6 w hk,b,Jx w hn],(hl.take n).mkAgg (by simp;omega) (λi c=>?_)⟩;simp only[BE3,BB1]at c;simp[By2,BJ8,show i<min (off+n) vs.size-off by omega,show off+i<vs.size by omega]
   cases a
  rename_i b;cases d:cs.drop off with
  |nil=>rw[d]at a;cases a
  |cons y r=>
   rw[d]at a;cases a;have j:off<cs.length:=by
    have:=congrArg List.length d
    simp only[BB1,BA2]at this;omega
   have g:=(hl 0 (by simp only[BB1];omega)).1;rw[d]at g;refine⟨vs.getD off undef,?_,by simpa using g⟩;simp[part,H6 w hk,b,By2,show off<vs.size by omega]
 cases a
def AO0 (h:Sat C st a w rho){t:TypeId}{x:Operand}{f:Nat}(n:o.op=.field t x f)(m:aop P st.env st.Qw d o.op=some out)(hc:C6 out.cond):OpOk P C o st a w rho out:=by
 rw[n]at m;simp only[aop]at m;split at m
 .rename_i c y hy;cases m;have hx:=h.aev x;unfold AY2 at hy;split at hy
  .rename_i fs cs hk g;rw[g]at hx;have hx:=hx.toP;generalize i:a.eval x=v at hx;cases hx with
   |agg vs cs hs h1 hrep=>
    split at hy
    .rename_i off ft q;obtain⟨fa,fd,r,j,rfl,rfl⟩:=Ir hk q;obtain⟨u,l,s⟩:=Tf (rho:=rho) (live:=Lv (A1 st.Qw)) hs h1 hrep hy hc;exact OpOk.pure h (by simp[execOp,n,Instr.field,Ag w r,j,i,asAgg,l]) s
    cases hy
  .rename_i fs cs hk g;rw[g]at hx;generalize i:a.eval x=v at hx;cases hx with
   |agr vs cs hs h1 hrep=>
    split at hy
    .rename_i off ft q;split at hy
     .rename_i b hb;cases hy;obtain⟨fa,fd,r,j,rfl,rfl⟩:=Ir hk q;obtain⟨u,l,s⟩:=Zv (rho:=rho) (live:=Lv (A1 st.Qw)) hs h1 hrep hb;exact OpOk.pure h (by simp[execOp,n,Instr.field,Ag w r,j,i,asAgg,l]) s
     cases hy
    cases hy
  cases hy
 cases m
def Zw (h:Sat C st a w rho){x:Operand}(c:o.op=.nilCheck x)(b:aop P st.env st.Qw d o.op=some out):OpOk P C o st a w rho out:=by
 rw[c]at b;simp only[aop]at b;split at b
 .rename_i hn;cases b;have hx:=h.aev x;refine OpOk.pure (v:=a.eval x) h ?_ hx;simp only[execOp,c];generalize f:a.eval x=v at hx⊢;generalize g:aev st.env x=y at hn hx;cases hx with
  |p _ z hz=>
   cases hz with
   |v z=>simp only[AM9]at hn;split at hn<;>simp_all
   |_=>first|rfl|simp[AM9]at hn
  |_=>first|rfl|simp[AM9]at hn
 cases b
def Ap0 (h:Sat C st a w rho){x:Operand}{i:Nat}(g:o.op=.extract x i)(b:aop P st.env st.Qw d o.op=some out):OpOk P C o st a w rho out:=by
 rw[g]at b;simp only[aop]at b;split at b
 .rename_i l c;split at b
  .rename_i y hy;cases b;have hx:=h.aev x;rw[c]at hx;generalize f:a.eval x=v at hx;cases hx with
   |tup vs l hs hl=>
    obtain⟨j,rfl⟩:=Bz8.1 hy
    have:=hl i j
    refine OpOk.pure (v:=vs.getD i undef) h ?_ (by simpa[By3,j]using this);simp[execOp,g,Instr.extract,f,By2,show i<vs.size by omega]
  cases b
 cases b
def OA (h:Sat C st a w rho){t:TypeId}{x:Operand}(g:o.op=.makeInterface t x)(b:aop P st.env st.Qw d o.op=some out):OpOk P C o st a w rho out:=by
 rw[g]at b;simp only[aop]at b;split at b
 .rename_i y R' k i hk;obtain⟨h1,j,l⟩:=Ez h (h.aev x) i;obtain⟨dd,m,c⟩:=AY hk;split at b
  .cases b
  rename_i f;cases b;refine⟨_,.iface t (a.eval x),w,rho,?_,.inl rfl,h1,l,.p _ _ (.iface t _ _ j)⟩
  have:∀ms,dd ≠ .interface ms:=by rintro ms rfl;exact f ms.size (by simpa[WC]using c.symm)
  cases dd<;>first|(simp[execOp,g,Instr.makeInterface,Ag w m];done)|exact Ij rfl (this _)
 cases b
def Zx (h:Sat C st a w rho){f:FuncId}{x y:Array Operand}(g:o.op=.makeFunc (.func f) x y)(c:aop P st.env st.Qw d o.op=some out):OpOk P C o st a w rho out:=by
 rw[g]at c;simp only[aop,By4]at c;subst c;refine OpOk.pure (v:=.func (.func f) (x.map a.eval) (y.map a.eval)) h (by simp[execOp,g,Instr.makeFunc]) ?_;refine .clo f _ _ _ _ (by simp) (by simp) (λi b=>?_) λi b=>?_
 .simp only[BD2,BC6]at b
  have:=h.aev x[i]
  simpa[By2,By3,b]using this
 simp only[BD2,BC6]at b
 have:=h.aev y[i]
 simpa[By2,By3,b]using this
def Ap1 (h:Sat C st a w rho){t:TypeId}(g:o.op=.makeMap t none)(c:aop P st.env st.Qw d o.op=some out):OpOk P C o st a w rho out:=by
 rw[g]at c;simp only[aop]at c;split at c
 .rename_i hn;cases c;obtain⟨h1,j,l⟩:=h.fresh (Bp d 0) hn (.map []) (.map (some w.heap.size)) (w':=w.alloc (.map #[] 0)) (by simp)
   (λb hb=>heap_alloc_old w _ b hb) (λb hb=>by simp[E5,N1]at hb;omega) (λhk=>⟨w.heap.size,#[],0,rfl,heap_alloc_new w _,rfl,λi f=>by simp at f,rfl,λi f=>by simp at f⟩)
  refine⟨_,_,_,_,?_,.inl rfl,h1,⟨j,l⟩,.Se _ w.heap.size (by simp[Lv,A3]) (by simp)⟩;simp[execOp,g,Instr.makeMap]
 cases c
def Be3 (h:Sat C st a w rho){op:UnOp}{t:TypeId}{x:Operand}(g:o.op=.unOp op t x)(i:aop P st.env st.Qw d o.op=some out):OpOk P C o st a w rho out:=by
 rw[g]at i;simp only[aop]at i;split at i
 .rename_i r f;cases i;have hx:=h.aev x;unfold un at f;split at f
  .rename_i b c;cases f;rw[c]at hx;exact OpOk.pure (v:=.bool !b) h (by simp[execOp,g,Op.unary,hx.toP.toV]) (.p _ _ (.v _))
  .rename_i b c;cases f;rw[c]at hx;exact OpOk.pure (v:=.bool !b) h (by simp[execOp,g,Op.unary,hx.toP.toBool]) (.p _ _ (.bb _))
  .rename_i k n c;cases f;rw[c]at hx;exact OpOk.pure (v:=.int k (k.wrap (0-n))) h (by simp[execOp,g,Op.unary,hx.toP.toInt,Op.intArith]) (.p _ _ (.v _))
  .rename_i k n c;cases f;rw[c]at hx;exact OpOk.pure (v:=.int k (G6 .xor k (if k.signed then -1 else k.max) n)) h (by first|(simp[execOp,g,Op.unary,hx.toP.toInt,Op.intBits];done)|(simp[execOp,g,Op.unary,hx.toP.toInt,Op.intBits];rfl)) (.p _ _ (.v _))
  cases f
 cases i
def Bo6 (h:Sat C st a w rho){c:Call}(hc:c.callee=.builtin .len)(ho:o.op=.call c)(u:aop P st.env st.Qw d o.op=some out):OpOk P C o st a w rho out:=by
 obtain⟨callee,args,types⟩:=c;simp only at hc;subst hc;rw[ho]at u;simp only[aop]at u;split at u
 .rename_i x t q i;split at u
  .rename_i n hn;cases u;obtain⟨args⟩:=args;obtain⟨types⟩:=types;simp only at q i;subst q;subst i;have hx:=h.aev x;refine OpOk.pure (v:=.int .i64 n) h ?_ (.p _ _ (.v _));have key:(Builtin.len_ #[t] o.type #[a.eval x]).run P w=.ok (.int .i64 n) w:=by
    unfold Ay0 at hn;split at hn
    .rename_i l hk g;cases hn;rw[g]at hx;simp[Builtin.len_,Ag w (JZ hk),hx.toP.toStr,goInt,RL]
    .rename_i e nn k m f hk g;cases hn;rw[g]at hx;have hx:=hx.toP;generalize s:a.eval x=v at hx;cases hx<;>simp[Builtin.len_,Ag w (I0 hk),goInt]
    .rename_i hk g;cases hn;rw[g]at hx;rw[hx.toP.toV];simp[Builtin.len_,Ag w (I0 hk),goInt]
    .rename_i hk g;cases hn;rw[g]at hx;rw[hx.toP.toV];simp[Builtin.len_,Ag w (LK hk),goInt]
    .rename_i j hk g;rw[g]at hx;split at hn
     .rename_i e k m f vw z;cases hn;generalize s:a.eval x=v at hx;cases hx with
      |vec j base n' cap hl hr=>obtain⟨b',c',a0⟩:=LI (h.hp.holds j _ z);rw[hr]at a0;cases a0;simp[Builtin.len_,Ag w (I0 hk),goInt]
     .rename_i e m jr x0 z;cases hn;generalize s:a.eval x=v at hx;cases hx with
      |vec j base n' cap hl hr=>
       obtain⟨rv,_,_,hh⟩:=h.hp.holds j _ z;rw[hr]at hh;rcases hh with⟨hs,rfl⟩ | ⟨b,cap',c,hb',_⟩
       .cases hs;simp[Builtin.len_,Ag w (I0 hk),goInt]
       cases hb';simp[Builtin.len_,Ag w (I0 hk),goInt]
     cases hn
    .rename_i j m hk g;cases hn;rw[g]at hx;generalize s:a.eval x=v at hx;cases hx;simp[Builtin.len_,Ag w (I0 hk),goInt]
    .rename_i j m hk g;cases hn;rw[g]at hx;generalize s:a.eval x=v at hx;cases hx;simp[Builtin.len_,Ag w (I0 hk),goInt]
    .rename_i j hk g;rw[g]at hx;split at hn
     .rename_i es z;cases hn;generalize s:a.eval x=v at hx;cases hx with
      |Se j r hl hr=>
       have hh:=h.hp.holds j _ z;rw[hr]at hh;obtain⟨b,Sg,clock,hb,y,hsz,_⟩:=hh;cases hb;have hg:(getObj r).run P w=.ok (.map Sg clock) w:=by simp[getObj,Sem.run,y]
       simp[Builtin.len_,Ag w (LK hk),goInt,hg,hsz]
     cases hn
    .rename_i n' e hk;cases hn;simp[Builtin.len_,Ag w (LL hk),goInt]
    cases hn
   simp[execOp,ho,resolve,invoke,builtin,key]
  cases u
 cases u
def WR (h:Sat C st a w rho){c:Call}(hc:c.callee=.builtin .min \/ c.callee=.builtin .max)(g:o.op=.call c)(f:aop P st.env st.Qw d o.op=some out):OpOk P C o st a w rho out:=by
 obtain⟨callee,args,types⟩:=c;simp only at hc;rw[g]at f;rcases hc with hc|hc<;>subst hc<;>simp only[aop]at f<;>split at f<;>try cases f
 all_goals
  rename_i k x l y b;obtain⟨args⟩:=args;rcases args with _|⟨p,_|⟨q,_|⟨r,s⟩⟩⟩<;>simp only[BA3,BE9,BD6,and_true,and_false,reduceCtorEq]at b
  have hp:=h.aev p;have i:=h.aev q;rw[b.1]at hp;rw[b.2]at i;refine OpOk.pure h ?_ (.p _ _ (.v _));simp[execOp,g,resolve,invoke,builtin,Builtin.min_,Builtin.max_,Builtin.min2,Builtin.max2,hp.toP.toInt,i.toP.toInt]
end
def bget (l:List UInt8)(n:Nat):(⟨l.toArray⟩:ByteArray)[n]? = l[n]?:=by
 by_cases h:n<l.length
 .rw[getElem?_pos _ _ (by rw[RL];exact h),By7 h];rfl
 rw[getElem?_neg _ _ (by rw[RL];exact h),BD0 (by omega)]
def AO1 (l:List UInt8)(i j:Nat):(⟨l.toArray⟩:ByteArray).extract i j=⟨((l.take j).drop i).toArray⟩:=by apply BO2;simp[ByteArray.data_extract,List.drop_take]
def Be4 (x y:List UInt8):(⟨x.toArray⟩:ByteArray)++⟨y.toArray⟩=⟨(x++y).toArray⟩:=by apply BO2;simp
def Bq (c:Nat->Nat->Value)(n k:Nat):List Value:=(List.range (n*k)).map λp=>c (p / k) (p % k)
def J4 (c:Nat->Nat->Value)(n k:Nat):(Bq c n k).length=n*k:=by simp[Bq]
def AA6 (c:Nat->Nat->Value){n k i j:Nat}(b:i<n)(a:j<k):(Bq c n k).getD (i*k+j) undef=c i j:=by
 have h:=H3 b a;have h1:(i*k+j) / k=i:=by rw[BG9,BP5 (by omega),BK9 a];omega
 have d:(i*k+j) % k=j:=by rw[BG9,BK0,BG3 a]
 simp[Bq,By3,h,h1,d]
def Pt {c:Nat->Nat->Value}{n k p:Nat}{u:Value}(h:(Bq c n k)[p]? = some u):p / k<n/\p % k<k/\p=p / k*k+p % k/\u=c (p / k) (p % k):=by
 obtain⟨hp,rfl⟩:=Bz8.1 h;rw[J4]at hp;have hk:0<k:=by
  rcases Nat.eq_zero_or_pos k with rfl|h
  .simp at hp
  exact h
 refine⟨BQ0 (by rwa [BG9]at hp),BP8 _ hk,(Nat.div_add_mod' p k).symm,by simp[Bq]⟩
section
variable {P:Program}{C:Ctx}{st:St}{a:Act}{w:World}{rho:Nat->Value}{o:Oper}{out:Out}{d:Nat}
def Pu (h:Sat C st a w rho){v:Value}{x:AV}(hv:RS C st w rho v x){k n:Nat}{g:Nat->List PV}(o:elems st.Qw k x=some (n,g)){tx:TypeId}{k2:TK}(ht:tk P tx=some k2)
 (hk2:srcK k2=true) :
 ∃c:Nat->Nat->Value,Src P k tx v n (Bq c n k) w/\(∀i,i<n->(g i).length=k)/\∀i j,i<n->j<k->Sd w (PiS C st rho) (c i j) ((g i).getD j default)/\(c i j).oneCell' = true:=by
 have z:(∃e',P.underlying tx=some (.slice e')) \/ P.underlying tx=some .string:=by
  cases k2<;>simp[srcK]at hk2
  .exact .inr (JZ ht)
  exact .inl ⟨_,I0 ht⟩
 have sliceSrc:∀(ad:Addr) (cap:Nat) (c:Nat->Nat->Value),(∀i j,i<n->j<k->w.cell? (ad.add (i*k+j))=some (c i j)/\(c i j).oneCell' = true)->Src P k tx (.slice (some ad) n cap) n (Bq c n k) w:=by
  intro ad cap c hc;have a2:∀p u,(Bq c n k)[p]? = some u->w.cell? (ad.add p)=some u:=by
   intro p u hp;obtain⟨h1,h2,h3,rfl⟩:=Pt hp;rw[h3]
   have:=(hc (p / k) (p % k) h1 h2).1
   rwa [<- h3]at this⊢
  refine⟨z,λ_=>rfl,run_firstCells_some w k n ad n cap _ (J4 _ _ _) a2,run_firstCells_some w.drew k n ad n cap _ (J4 _ _ _) (by simpa using a2),J4 _ _ _,?_⟩;intro u hu;obtain⟨p,hp⟩:=BQ1 hu;obtain⟨h1,h2,h3,rfl⟩:=Pt hp;exact (hc _ _ h1 h2).2
 have nilSrc:∀cap,n=0->∀c,Src P k tx (.slice none 0 cap) n (Bq c n k) w:=by
  intro cap hn c;subst hn;refine⟨z,λ_=>rfl,?_,?_,by simp[Bq],by simp[Bq]⟩
  .simpa[Bq]using run_firstCells_none (P:=P) w k 0 0 cap
  simpa[Bq]using run_firstCells_none (P:=P) w.drew k 0 0 cap
 cases hv with
 |p _ y hy=>
  cases hy with
  |v y=>
   simp only[elems]at o;split at o<;>try cases o
   .rename_i a3;cases a3;exact⟨λ_ _=>undef,nilSrc 0 rfl _,λi d=>Ij d (by omega),λi j d=>Ij d (by omega)⟩
   all_goals (rename_i a3;cases a3)
  |str l=>
   simp only[elems]at o;split at o
   .rename_i hk1;cases o;subst hk1;have a6:P.underlying tx=some .string->Src P 1 tx (.string ⟨l.toArray⟩) l.length (Bq (λi _=>.int .u8 ((l.getD i 0).toNat:Nat)) l.length 1) w:=by
     intro hs
     have:=Src.ofString (P:=P) w hs ⟨l.toArray⟩
     rw[RL]at this;have e:byteCells ⟨l.toArray⟩=Bq (λi _=>.int .u8 ((l.getD i 0).toNat:Nat)) l.length 1:=by
      apply BN6;intro i;simp only[byteCells,Bq,Bz1,BH5];by_cases d:i<l.length
      .simp[d]
      simp[d]
     rwa [e]at this
    refine⟨λi _=>.int .u8 ((l.getD i 0).toNat:Nat),?_,λi d=>rfl,λi j d r=>?_⟩
    .rcases z with⟨e',hs⟩ | hs
     .refine⟨.inl ⟨e',hs⟩,λw'=>?_,?_,?_,J4 _ _ _,?_⟩
      .have hx:=JZ (P:=P) (t:=tx);simp[Builtin.lenOf,RL]
      .have:=firstCells_string (P:=P) ⟨l.toArray⟩ w
       rw[RL]at this;rw[this];congr 2;apply BN6;intro i;simp only[byteCells,Bq,Bz1,BH5,BQ4];by_cases d:i<l.length
       .simp[d]
       simp[d]
      .have:=firstCells_string (P:=P) ⟨l.toArray⟩ w.drew
       rw[RL]at this;rw[this];congr 2;apply BN6;intro i;simp only[byteCells,Bq,Bz1,BH5,BQ4];by_cases d:i<l.length
       .simp[d]
       simp[d]
      intro u hu;obtain⟨p,hp⟩:=BQ1 hu;obtain⟨_,_,_,rfl⟩:=Pt hp;rfl
     exact a6 hs
    obtain rfl:j=0:=by omega
    exact⟨.v _,rfl⟩
   cases o
  |slnil k' f=>
   simp only[elems]at o;split at o
   .rename_i a7;cases o;exact⟨λ_ _=>undef,nilSrc 0 rfl _,λi d=>Ij d (by omega),λi j d=>Ij d (by omega)⟩
   cases o
  |sl nn b off cap k' n' f c hn s hc q sp hsp=>
   simp only[elems]at o;split at o
   .rename_i a7;cases o;subst a7;refine⟨c,sliceSrc _ _ _ (λi j d r=>?_),s,λi j d r=>⟨q i j d r,(hc i j d r).2.2⟩⟩;obtain rfl:=hsp (by omega);rw[BE8,<- BK4];exact⟨(hc i j d r).1,(hc i j d r).2.2⟩
   cases o
  |_=>simp[elems]at o
 |vec j base n' cap hl hr=>
  simp only[elems]at o;split at o
  .rename_i e m n'' f vw r;split at o
   .rename_i hm;cases o;subst hm;have hh:=h.hp.holds j _ r;rw[hr]at hh;rcases hh with⟨hn,rfl⟩ | ⟨b,cap',cc,a4,a0,a1,a5,hmax,s,q⟩
    .cases hn;exact⟨λ_ _=>undef,nilSrc 0 rfl _,λi d=>Ij d (by omega),λi j d=>Ij d (by omega)⟩
    cases a4;have hle:n*m<=cc.size:=by rw[a5];exact BA6 m a1
    refine⟨λi j=>cc.getD (i*m+j) undef,sliceSrc _ _ _ (λi j d r=>?_),s,q⟩;rw[BE8,BE1]
    have:=H3 d r
    exact⟨cell_of_heap a0 (by omega),(q i j d r).2⟩
   cases o
  cases o
 |vecp j mm base n' cap hl hr hmn=>
  simp only[elems]at o;split at o
  .rename_i e m n'' f vw r;split at o
   .rename_i hm;cases o;subst hm;have hh:=h.hp.holds j _ r;rw[hr]at hh;rcases hh with⟨hn,rfl⟩ | ⟨b,cap',cc,a4,a0,a1,a5,hmax,s,q⟩
    .cases hn;obtain rfl:mm=0:=by omega
     exact⟨λ_ _=>undef,nilSrc 0 (by simp) _,λi d=>Ij d (by omega),λi j d=>Ij d (by omega)⟩
    cases a4;rw[BI7 hmn]at *;have hle:n' * m<=cc.size:=by rw[a5];exact BA6 m a1
    refine⟨λi j=>cc.getD (i*m+j) undef,sliceSrc _ _ _ (λi j d r=>?_),λi d=>s i (by omega),λi j d r=>q i j (by omega) r⟩;rw[BE8,BE1]
    have:=H3 (show i<n' by omega) r
    exact⟨cell_of_heap a0 (by omega),(q i j (by omega) r).2⟩
   cases o
  cases o
 |_=>simp[elems]at o
end
end Go.AM
