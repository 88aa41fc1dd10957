/- An evaluator of pure values over the code of the model, proved sound, part 1. -/
import Derived.Calls
import Derived.Orders
import Derived.Below
import Derived.Laws.BytesString
import Derived.Laws.AppendOwn
import Derived.Laws.OwnMore
import Derived.Laws.MakeOwn
import Derived.Laws.IdiomCopy
import Derived.Laws.Slices
import Derived.Lib.ConvBytes
import Derived.KernelRfl
import Derived.Laws.StructEq
import Derived.Laws.Tables
import Derived.Great.BuildSlice
set_option linter.unusedVariables false
set_option linter.unusedSimpArgs false
/- An evaluator of pure values over the code of the model: its definitions. A frame of the evaluator holds pure values, rows of its own (by number) and boxes of its own (by number); what it asks for is a plain proposition. -/
namespace Go.Ev
inductive PV where
 | int (k:IntKind) (n:Int)
 | bool (b:Bool)
 | str (s:ByteArray)
 | list (sz:Nat) (rows:List (List PV))
 deriving Inhabited
inductive RK where
 | deep | flat | shared
 deriving DecidableEq
inductive RO where
 | cells (ps:List PV)
 | fn (f:FuncId) (q:List (List PV))
inductive Cap where
 | box (k:Nat)
 | ro (c:RO)
inductive Cell where
 | pv (p:PV)
 | nil (e:TypeId) (sz:Nat)
 | own (id:Nat)
 | dead
 | kb (b:Bool)
 | ptr (k off:Nat)
 | sptr (cells:List PV)
 | optr (id sz i off:Nat)
 | fn (f:FuncId) (caps:List Cap)
 | sfn (f:FuncId) (q:List (List PV))
inductive TV where
 | one (c:Cell)
 | agg (cs:List Cell)
 | tup (vs:List TV)
 | undef
 | mt
structure Row where
 kind:RK
 elem:TypeId
 sz:Nat
 e:PV
structure Fr where
 tmps:List (Nat×TV)
 boxes:List (Nat×List Cell)
 rows:List (Nat×Row)
 next:Nat
 nt:Nat
 pin:List Nat
def lk {α:Type}:List (Nat×α)→Nat→Option α
 | [],_=>none
 | (k,v)::l,i=>if k=i then some v else lk l i
inductive AV where
 | one (p:PV)
 | agg (ps:List PV)
 | fn (f:FuncId) (caps:List RO)
 | ro (c:RO)
 | nil (e:TypeId) (sz:Nat)
inductive CK where
 | pv
 | sc
 | own (deep:Bool) (elem:TypeId) (sz:Nat)
 deriving DecidableEq
inductive RS where
 | one (c:CK)
 | agg (cs:List CK)
structure TI where
 agg:Bool
 size:Nat
 elem:TypeId
 bytes:Nat
 flds:List (Nat×TypeId)
 zero:List Cell
 ik:Option IntKind
 tag:Nat
 eqk:Bool
structure Tab where
 ti:List (Nat×TI)
 sig:List (Nat×List RS)
 mv:Bool
 nf:List Nat
 fnt:List Nat
 fl:List Nat
 inl:List (Nat×(Func×List (Nat×Bool)))
 win:Nat
 wk:Bool
def Tab.sz (T:Tab) (t:TypeId):Nat:=match lk T.ti t with | some i=>i.size | none=>0
def Tab.el (T:Tab) (t:TypeId):TypeId:=match lk T.ti t with | some i=>i.elem | none=>0
def Tab.esz (T:Tab) (t:TypeId):Nat:=match lk T.ti t with | some i=>T.sz i.elem | none=>0
def atP (l:List PV) (i:Nat):PV:=l.getD i default
def xac (op:BinOp) (x y:PV) (k:PV→Prop):Prop :=
 match x,y with
 | .int a m,.int b n =>
  if a=b then
   match op with
   | .add=>k (.int a (a.wrap (m+n)))
   | .sub=>k (.int a (a.wrap (m-n)))
   | .mul=>k (.int a (a.wrap (m*n)))
   | .quo=>n≠0∧k (.int a (a.wrap (m.tdiv n)))
   | .rem=>n≠0∧k (.int a (m.tmod n))
   | .eql=>k (.bool (m==n))
   | .neq=>k (.bool (m != n))
   | .lss=>k (.bool (m<n))
   | .leq=>k (.bool (m≤n))
   | .gtr=>k (.bool (m>n))
   | .geq=>k (.bool (m≥n))
   | .and=>k (.int a (a.wrap ((BitVec.ofInt a.bits m &&& BitVec.ofInt a.bits n).toNat:Int)))
   | .or=>k (.int a (a.wrap ((BitVec.ofInt a.bits m ||| BitVec.ofInt a.bits n).toNat:Int)))
   | .xor=>k (.int a (a.wrap ((BitVec.ofInt a.bits m ^^^ BitVec.ofInt a.bits n).toNat:Int)))
   | _=>False
  else False
 | .str a,.str b =>
  match op with
  | .add=>a.size+b.size≤9223372036854775807∧k (.str (a++b))
  | .eql=>k (.bool (a.toList==b.toList))
  | .neq=>k (.bool (!(a.toList==b.toList)))
  | .lss=>k (.bool (Op.bytesLess a.toList b.toList))
  | .leq=>k (.bool (Op.bytesLess a.toList b.toList||a.toList==b.toList))
  | .gtr=>k (.bool (!(Op.bytesLess a.toList b.toList||a.toList==b.toList)))
  | .geq=>k (.bool (!Op.bytesLess a.toList b.toList))
  | _=>False
 | _,_=>False
def xen (op:BinOp) (x y:PV) (k:PV→Prop):Prop :=
 match x,y with
 | .bool a,.bool b =>
  match op with
  | .eql=>k (.bool (a==b))
  | .neq=>k (.bool (!(a==b)))
  | _=>False
 | _,_=>False
def xpJ (neg:Bool) (x:PV) (k:PV→Prop):Prop:=match x with | .list _ rows=>k (.bool neg)∧(rows=[]→k (.bool (!neg))) | _=>False
def PV.same:PV→PV→Option Bool
 | .int a m,.int b n=>if a=b then some (m==n) else none
 | .bool a,.bool b=>some (a==b)
 | .str a,.str b=>some (a==b)
 | _,_=>none
def sames:List PV→List PV→Option Bool
 | [],[]=>some true
 | p::ps,q::qs=>match PV.same p q,sames ps qs with
  | some a,some b=>some (a&&b)
  | _,_=>none
 | _,_=>none
def xjS (z:Cell) (p:PV):Prop:=match z,p with
 | .pv (.int _ _),.int _ _=>True
 | .pv (.bool _),.bool _=>True
 | .pv (.str _),.str _=>True
 | _,_=>False
def xeh:List Cell→List PV→Prop
 | [],[]=>True
 | z::zs,p::ps=>xjS z p∧xeh zs ps
 | _,_=>False
def xsc (op:BinOp) (xs ys:List PV) (k:PV→Prop):Prop :=
 match sames xs ys with
 | some b=>match op with
  | .eql=>k (.bool b)
  | .neq=>k (.bool (!b))
  | _=>False
 | none=>False
def unP (op:UnOp) (x:PV) (k:PV→Prop):Prop :=
 match op,x with
 | .not,.bool b=>k (.bool !b)
 | .neg,.int a n=>k (.int a (a.wrap (0-n)))
 | _,_=>False
def xad (x:PV) (k1 k2:Prop):Prop:=match x with | .bool b=>if b=true then k1 else k2 | _=>False
def xaH (x:PV) (k:PV→Prop):Prop :=
 match x with
 | .list _ rows=>k (.int .i64 rows.length)
 | _=>False
def xlV (x:PV) (k:PV→Prop):Prop :=
 match x with
 | .str s=>k (.int .i64 s.size)
 | _=>False
def xaj (sz:Nat) (x i:PV) (k:List PV→Prop):Prop :=
 match x,i with
 | .list s rows,.int _ n=>s=sz∧0≤n∧match rows[n.toNat]? with | some r=>k r | none=>False
 | _,_=>False
def xdm (sz:Nat) (x i:PV) (k:Nat→Prop):Prop :=
 match x,i with
 | .list s rows,.int _ n=>s=sz∧0≤n∧n.toNat<rows.length∧k n.toNat
 | _,_=>False
def xeI (x i:PV) (k:PV→Prop):Prop :=
 match x,i with
 | .str s,.int _ n=>0≤n∧match s[n.toNat]? with | some b=>k (.int .u8 b.toNat) | none=>False
 | _,_=>False
def xg6 (x:PV) (k:Nat→Prop):Prop:=match x with | .int _ n=>0≤n∧k n.toNat | _=>False
def xf8 (sz:Nat) (x:PV) (lo hi:Option Nat) (k:PV→Prop):Prop :=
 match x with
 | .list s rows=>s=sz∧lo.getD 0≤hi.getD rows.length∧hi.getD rows.length≤rows.length∧k (.list sz ((rows.take (hi.getD rows.length)).drop (lo.getD 0)))
 | _=>False
def xwt (x:PV) (lo hi:Option Nat) (k:PV→Prop):Prop :=
 match x with
 | .str s=>lo.getD 0≤hi.getD s.size∧hi.getD s.size≤s.size∧k (.str (s.extract (lo.getD 0) (hi.getD s.size)))
 | _=>False
def xta (sz:Nat) (x:PV) (r:List PV) (k:PV→Prop):Prop :=
 match x with
 | .list s rows=>s=sz∧rows.length<1073741824∧k (.list s (rows++[r]))
 | _=>False
def xbd (sz:Nat) (x y:PV) (k:PV→Prop):Prop :=
 match x,y with
 | .list s rows,.list s' more=>s=sz∧s'=sz∧rows.length+more.length<1073741824∧k (.list s (rows++more))
 | _,_=>False
def over (r:List PV) (off:Nat) (cs:List PV):List PV:=r.take off++cs++r.drop (off+cs.length)
def xmu (x:PV) (i off:Nat) (cs:List PV) (k:PV→Prop):Prop :=
 match x with
 | .list s rows=>match rows[i]? with
  | some r=>off+cs.length≤r.length∧k (.list s (rows.set i (over r off cs)))
  | none=>False
 | _=>False
def xp1 (sz:Nat) (x:PV) (i:Nat) (k:List PV→Prop):Prop :=
 match x with
 | .list s rows=>s=sz∧match rows[i]? with
  | some r=>k r
  | none=>False
 | _=>False
def xgW (sz:Nat) (n:PV) (z:List PV) (k:PV→Prop):Prop :=
 match n with
 | .int _ m=>0≤m∧m.toNat<1073741824∧k (.list sz (List.replicate m.toNat z))
 | _=>False
def xlk (s:PV) (k:PV→Prop):Prop :=
 match s with
 | .str s=>k (.list 1 (s.data.toList.map fun b=>[.int .u8 b.toNat]))
 | _=>False
def xjs:List (List PV)→Option (List UInt8)
 | []=>some []
 | [.int .u8 n]::r=>match xjs r with | some l=>some (UInt8.ofNat n.toNat::l) | none=>none
 | _=>none
def xnk (s:PV) (k:PV→Prop):Prop :=
 match s with
 | .list 1 rows=>match xjs rows with | some l=>k (.str ⟨l.toArray⟩) | none=>False
 | _=>False
def xux (s:PV) (k:PV→Prop):Prop:=match s with | .str s=>k (.str s) | _=>False
def xmc (dst:IntKind) (x:PV) (k:PV→Prop):Prop:=match x with | .int _ n=>k (.int dst (dst.wrap n)) | _=>False
def xug (x y:PV) (k:PV→Prop):Prop:=match x,y with | .int a m,.int _ n=>k (.int a (if n<m then n else m)) | _,_=>False
def xuh (x y:PV) (k:PV→Prop):Prop:=match x,y with | .int a m,.int _ n=>k (.int a (if m<n then n else m)) | _,_=>False
def PV.flat:PV→Bool
 | .list _ _=>false
 | _=>true
def flats (ps:List PV):Prop:=∀p∈ps,p.flat=true
def xaZ (x:PV):Prop:=match x with | .list _ rows=>∀r∈rows,∀p∈r,p.flat=true | _=>False
def put (F:Fr) (d:Option Tmp) (v:TV):Fr:=match d with
 | some d=>if d<F.nt then { F with tmps:=(d,v)::F.tmps } else F
 | none=>F
def setRow (F:Fr) (id:Nat) (r:Row):Fr:={ F with rows:=(id,r)::F.rows }
def newRow (F:Fr) (r:Row):Fr:={ F with rows:=(F.next,r)::F.rows,next:=F.next+1 }
def newBox (F:Fr) (cs:List Cell):Fr:={ F with boxes:=(F.next,cs)::F.boxes,next:=F.next+1 }
def setBox (F:Fr) (k:Nat) (cs:List Cell):Fr:={ F with boxes:=(k,cs)::F.boxes }
def xcS (F:Fr) (id:Nat):Fr:={ F with rows:=F.rows.filter fun x=>x.1 != id }
def share (F:Fr) (id:Nat):Fr:=match lk F.rows id with | some r=>if r.kind=.shared then F else setRow F id { r with kind:=.shared } | none=>F
def xpd (e:TypeId) (sz:Nat):Value→Option TV
 | .int k n=>some (.one (.pv (.int k n)))
 | .bool b=>some (.one (.kb b))
 | .string s=>some (.one (.pv (.str s)))
 | .slice none 0 0=>some (.one (.nil e sz))
 | _=>none
def opnd (T:Tab) (F:Fr) (t:TypeId):Operand→Option TV
 | .tmp n=>lk F.tmps n
 | .const v=>xpd (T.el t) (T.esz t) v
 | .func f=>some (.one (.fn f []))
 | .global _=>none
def xa5 (F:Fr):Cell→Option PV
 | .pv p=>some p
 | .kb b=>some (.bool b)
 | .nil _ sz=>some (.list sz [])
 | .own id=>match lk F.rows id with | some r=>some r.e | none=>none
 | _=>none
def xaI (F:Fr):List Cell→Option (List PV)
 | []=>some []
 | c::cs=>match xa5 F c,xaI F cs with
  | some p,some ps=>some (p::ps)
  | _,_=>none
def xs1:List Cap→Option (List (List PV))
 | []=>some []
 | .ro c::r=>match c with
  | .cells ps=>match xs1 r with | some q=>some (ps::q) | none=>none
  | .fn _ _=>none
 | .box _::_=>none
def xnN (F:Fr) (cs:List Cell):Option RO:=match cs with
 | [.fn f caps]=>match xs1 caps with | some q=>some (.fn f q) | none=>none
 | cs=>match xaI F cs with | some ps=>some (.cells ps) | none=>none
def xcO (F:Fr):List Cap→Option (List RO)
 | []=>some []
 | .ro c::r=>match xcO F r with | some q=>some (c::q) | none=>none
 | .box k::r=>match lk F.boxes k with
  | some cs=>match xnN F cs,xcO F r with
   | some ps,some q=>some (ps::q)
   | _,_=>none
  | none=>none
def xrw (F:Fr):TV→Option AV
 | .one c=>match c with
  | .fn f caps=>match xcO F caps with | some q=>some (.fn f q) | none=>none
  | .sptr cells=>some (.ro (.cells cells))
  | .sfn f q=>some (.ro (.fn f q))
  | .nil e sz=>some (.nil e sz)
  | c=>match xa5 F c with | some p=>some (.one p) | none=>none
 | .agg cs=>match xaI F cs with | some ps=>some (.agg ps) | none=>none
 | _=>none
def denil (nf:Bool) (a:AV):AV:=match a with
 | .nil e sz=>if nf=true then .nil e sz else .one (.list sz [])
 | a=>a
def xdX (nf:Bool) (T:Tab) (F:Fr):List Operand→List TypeId→Option (List AV)
 | [],_=>some []
 | x::xs,ts=>match opnd T F (ts.headD 0) x with
  | some v=>match xrw F v,xdX nf T F xs ts.tail with
   | some a,some r=>some (denil nf a::r)
   | _,_=>none
  | none=>none
def RS.cks:RS→List CK
 | .one c=>[c]
 | .agg cs=>cs
def inC (base:Nat) (out:List PV) (i:Nat):CK→Cell
 | .own _ _ _=>.own (base+i)
 | _=>.pv (atP out i)
def xuH (base:Nat) (out:List PV):Nat→List CK→List Cell
 | _,[]=>[]
 | i,c::cs=>inC base out i c::xuH base out (i+1) cs
def xuj (base:Nat) (out:List PV) (i:Nat):RS→TV
 | .one c=>.one (inC base out i c)
 | .agg cs=>.agg (xuH base out i cs)
def xqm (base:Nat) (out:List PV):Nat→List RS→List TV
 | _,[]=>[]
 | i,r::rs=>xuj base out i r::xqm base out (i+r.cks.length) rs
def xdl (base:Nat) (out:List PV):Nat→List CK→List (Nat×Row)
 | _,[]=>[]
 | i,.own deep e sz::cs=>(base+i,⟨if deep then .deep else .flat,e,sz,atP out i⟩)::xdl base out (i+1) cs
 | i,_::cs=>xdl base out (i+1) cs
def xaA (sg:List RS):List CK:=sg.flatMap RS.cks
def xp4 (base:Nat) (sg:List RS) (out:List PV):TV:=match sg with
 | [r]=>xuj base out 0 r
 | rs=>.tup (xqm base out 0 rs)
def xq7 (F:Fr) (d:Option Tmp) (sg:List RS) (out:List PV):Fr :=
 put { F with rows:=xdl F.next out 0 (xaA sg)++F.rows,next:=F.next+(xaA sg).length } d (xp4 F.next sg out)
def xbR:Cell→Option PV
 | .pv p=>some p
 | .kb b=>some (.bool b)
 | _=>none
def xes:List Cell→Option (List PV)
 | []=>some []
 | c::cs=>match xbR c,xes cs with
  | some p,some ps=>some (p::ps)
  | _,_=>none
def xdH (F:Fr) (used:List Nat) (c:Cell):CK→Option (PV×List Nat)
 | .pv=>match c with
  | .own id=>match lk F.rows id with
   | some r=>if r.kind=.shared then some (r.e,used) else if used.contains id=false then some (r.e,id::used) else none
   | none=>none
  | c=>match xa5 F c with | some p=>some (p,used) | none=>none
 | .sc=>match xbR c with | some p=>some (p,used) | none=>none
 | .own deep e sz=>match c with
  | .nil e' s=>if e'=e∧s=sz∧sz≠0 then some (.list sz [],used) else none
  | .own id=>match lk F.rows id with
   | some r=>if r.elem=e∧r.sz=sz∧(r.kind=.deep∨r.kind=.flat∧deep=false)∧used.contains id=false then some (r.e,id::used) else none
   | none=>none
  | _=>none
def xaV (F:Fr) (used:List Nat):List Cell→List CK→Option (List PV×List Nat)
 | [],[]=>some ([],used)
 | c::cs,k::ks=>match xdH F used c k with
  | some (p,u)=>match xaV F u cs ks with
   | some (ps,u)=>some (p::ps,u)
   | none=>none
  | none=>none
 | _,_=>none
def xtf (F:Fr) (used:List Nat):TV→RS→Option (List PV×List Nat)
 | .one c,.one k=>match xdH F used c k with | some (p,u)=>some ([p],u) | none=>none
 | .agg cs,.agg ks=>xaV F used cs ks
 | _,_=>none
def xmG (T:Tab) (F:Fr):ResultVar→Option TV
 | .tmp t=>lk F.tmps t
 | .cell t ty=>match lk F.tmps t,lk T.ti ty with
  | some (.one (.ptr b off)),some i=>match lk F.boxes b with
   | some cs=>if i.agg=true then (if off+i.size≤cs.length then some (.agg ((cs.drop off).take i.size)) else none)
    else match cs[off]? with | some c=>some (.one c) | none=>none
   | none=>none
  | _,_=>none
def xeg (T:Tab) (F:Fr) (used:List Nat):List ResultVar→List RS→Option (List PV×List Nat)
 | [],[]=>some ([],used)
 | t::ts,r::rs=>match xmG T F t with
  | some v=>match xtf F used v r with
   | some (ps,u)=>match xeg T F u ts rs with
    | some (qs,u)=>some (ps++qs,u)
    | none=>none
   | none=>none
  | none=>none
 | _,_=>none
def xdu (F:Fr) (z c:Cell):Bool:=match z with
 | .nil _ _=>match c with
  | .nil _ _=>true
  | .own id=>match lk F.rows id with | some r=>decide (r.kind=.deep) | none=>false
  | _=>false
 | _=>match c with | .pv _=>true | .kb _=>true | _=>false
def xaP (F:Fr):List Cell→List Cell→List Nat→Bool
 | [],[],_=>true
 | z::zs,c::cs,used=>xdu F z c&&(match c with | .own id=>!used.contains id&&xaP F zs cs (id::used) | _=>xaP F zs cs used)
 | _,_,_=>false
def xae (zs:List Cell) (cs:List Cell):Prop :=
 ∀x∈zs.zip cs,match x with | (.pv _,.pv p)=>p.flat=true | _=>True
def xbs (F:Fr):List Cell→Fr
 | []=>F
 | .own id::cs=>xbs (xcS F id) cs
 | _::cs=>xbs F cs
def shareCells (F:Fr):List Cell→Fr
 | []=>F
 | .own id::cs=>shareCells (share F id) cs
 | _::cs=>shareCells F cs
def xs8 (F:Fr) (zs cs:List Cell) (k:List PV→Bool→Fr→Prop):Prop :=
 match xaI F cs with
 | some ps=>if xaP F zs cs []=true then xae zs cs∧k ps true (xbs F cs) else k ps false (shareCells F cs)
 | none=>False
def xdy:TV→Option (List Cell)
 | .one c=>some [c]
 | .agg cs=>some cs
 | _=>none
def xbU (r:List PV) (off:Nat):Nat→List PV
 | 0=>[]
 | n+1=>atP r off::xbU r (off+1) n
def Tab.plain (T:Tab) (t:TypeId):Bool:=match lk T.ti t with | some i=>i.zero.all (fun c=>match c with | .pv _=>true | _=>false) | none=>false
def RK.with (k:RK) (deep:Bool):RK:=match k with | .deep=>if deep then .deep else .flat | x=>x
structure Orac where
 call:FuncId→List AV→List PV→Prop
 inl:FuncId→Fr→(TV→Fr→Prop)→Prop
instance:CoeFun Orac (fun _=>FuncId→List AV→List PV→Prop):=⟨Orac.call⟩
def xrB (sg:List RS):Bool:=(xaA sg).any fun c=>match c with | .pv=>true | .own deep _ _=>!deep | .sc=>false
def shareTV (F:Fr):TV→Option Fr
 | .one c=>match c with
  | .own id=>some (share F id)
  | .fn _ []=>some F
  | .fn _ _=>none
  | _=>some F
 | .agg cs=>some (shareCells F cs)
 | _=>some F
def shareArgs (T:Tab) (F:Fr):List Operand→List TypeId→Option Fr
 | [],_=>some F
 | x::xs,ts=>match opnd T F (ts.headD 0) x with
  | some v=>match shareTV F v with
   | some F=>shareArgs T F xs ts.tail
   | none=>none
  | none=>none
def xdv (F:Fr):Cell→Bool
 | .own id=>match lk F.rows id with | some r=>decide (r.kind=.shared) | none=>false
 | .fn _ caps=>caps.all fun c=>match c with | .ro _=>true | .box _=>false
 | _=>true
def xut (F:Fr):TV→Bool
 | .one c=>xdv F c
 | .agg cs=>cs.all (xdv F)
 | _=>false
def xfe (T:Tab) (F:Fr):List Operand→List TypeId→Bool
 | [],_=>true
 | x::xs,ts=>match opnd T F (ts.headD 0) x with
  | some v=>xut F v&&xfe T F xs ts.tail
  | none=>false
def xr8 (C:Orac) (T:Tab) (f:FuncId) (xs:List Operand) (ts:List TypeId) (cp:Cell) (caps:List RO) (F:Fr) (d:Option Tmp) (k:Fr→Prop):Prop :=
 match lk T.sig f with
 | some sg=>if xrB sg=false∨xfe T F xs ts=true∧xdv F cp=true then
  match xdX (T.nf.contains f) T F xs ts with
  | some av=>∃out,C f (av++caps.map .ro) out∧k (xq7 F d sg out)
  | none=>False
  else if xdv F cp=true then
   match shareArgs T F xs ts with
   | some F=>if xfe T F xs ts=true then
    match xdX (T.nf.contains f) T F xs ts with
    | some av=>∃out,C f (av++caps.map .ro) out∧k (xq7 F d sg out)
    | none=>False
    else False
   | none=>False
  else False
 | none=>False
def xhT (sg:List RS):Bool:=match sg with | [.agg []]=>true | _=>false
def xqk (T:Tab) (f:FuncId):Bool:=match lk T.sig f with | some sg=>xhT sg | none=>false
def xbx (F:Fr) (out:List PV):Nat→List Cell→Fr
 | _,[]=>F
 | j,.own id::cs=>match lk F.rows id with
  | some r=>xbx (setRow F id { r with e:=atP out j }) out (j+1) cs
  | none=>xbx F out (j+1) cs
 | j,_::cs=>xbx F out (j+1) cs
def xwq:TV→List PV→AV
 | .one _,ps=>.one (atP ps 0)
 | _,ps=>.agg ps
def xtj (C:Orac) (T:Tab) (f:FuncId) (caps:List Cap) (xs:List Operand) (ts:List TypeId) (F:Fr) (d:Option Tmp) (k:Fr→Prop):Prop :=
 match caps,xs,ts with
 | [],[x,y],[t,u]=>match opnd T F t x,opnd T F u y,lk T.ti t with
  | some v,some (.one (.pv m)),some i=>match xdy v with
   | some cs=>match xaI F cs with
    | some ps=>if xaP F i.zero cs []=true then xae i.zero cs∧∃out,C f [xwq v ps,.one m] out∧k (put (xbx F out 0 cs) d (.one (.pv (atP out cs.length)))) else False
    | none=>False
   | none=>False
  | _,_,_=>False
 | _,_,_=>False
def xii (pin:List Nat):Cap→Bool
 | .box k=>pin.contains k
 | .ro _=>true
def xdw (pin:List Nat):Cell→Bool
 | .pv _ | .nil _ _ | .dead | .kb _ | .sptr _ | .sfn _ _=>true
 | .ptr k _=>pin.contains k
 | .fn _ caps=>caps.all (xii pin)
 | .own _ | .optr _ _ _ _=>false
def xiS (pin:List Nat):TV→Bool
 | .one c=>xdw pin c
 | .agg cs=>cs.all (xdw pin)
 | .tup _=>false
 | .undef=>true
 | .mt=>true
def xl3 (pin:List Nat) (c:Cell):Cell:=if xdw pin c=true then c else .dead
def xje (pin:List Nat):TV→TV
 | .one c=>.one (xl3 pin c)
 | .agg cs=>.agg (cs.map (xl3 pin))
 | .tup _=>.undef
 | v=>v
def xoU (pin:List Nat) (l:List (Nat×TV)):List (Nat×TV):=l.map fun x=>(x.1,xje pin x.2)
def xtw {α:Type}:List Nat→List (Nat×α)→List Nat
 | l,[]=>l
 | l,x::r=>if l.contains x.1=true then xtw l r else xtw (x.1::l) r
def xoq (F:Fr):List Nat:=xtw F.pin F.boxes
def xr7:Cap→TV
 | .box k=>.one (.ptr k 0)
 | .ro (.cells ps)=>.one (.sptr ps)
 | .ro (.fn f q)=>.one (.sfn f q)
def xo5:Nat→List TV→List (Nat×TV)
 | _,[]=>[]
 | i,v::r=>(i,v)::xo5 (i+1) r
def opnds (T:Tab) (F:Fr):List Operand→List TypeId→Option (List TV)
 | [],_=>some []
 | x::xs,ts=>match opnd T F (ts.headD 0) x,opnds T F xs ts.tail with
  | some v,some r=>some (v::r)
  | _,_=>none
def xrS (F:Fr) (nt:Nat) (vs:List TV):Fr:=⟨xo5 0 vs,F.boxes,F.rows,F.next,nt,xoq F⟩
def xrc (F F':Fr):Fr:=⟨xoU (xoq F) F.tmps,F'.boxes,F'.rows,F'.next,F.nt,F.pin⟩
def xuG (C:Orac) (T:Tab) (f:FuncId) (nt:Nat) (caps:List Cap) (xs:List Operand) (ts:List TypeId) (F:Fr) (d:Option Tmp) (k:Fr→Prop):Prop :=
 match opnds T F xs ts with
 | some vs=>if vs.length+caps.length≤nt then C.inl f (xrS F nt (vs++caps.map xr7)) fun tv F'=>k (put (xrc F F') d tv) else False
 | none=>False
def xhD (T:Tab) (F:Fr):List ResultVar→Option (List TV)
 | []=>some []
 | t::ts=>match xmG T F t,xhD T F ts with
  | some v,some r=>some (v::r)
  | _,_=>none
def xkv:List TV→TV
 | []=>.undef
 | [t]=>t
 | ts=>.tup ts
def xll (zero:List Cell) (flds:List (Nat×Nat)):List (Nat×List Cell)→Option (List Cell)
 | []=>some zero
 | (i,cs)::r=>match flds[i]? with
  | some (off,sz)=>if cs.length=sz∧off+sz≤zero.length then xll (zero.take off++cs++zero.drop (off+sz)) flds r else none
  | none=>none
def xdR (T:Tab) (F:Fr) (ty:Nat→TypeId):List (Nat×Operand)→Option (List (Nat×List Cell))
 | []=>some []
 | (i,x)::r=>match opnd T F (ty i) x with
  | some v=>match xdy v,xdR T F ty r with
   | some cs,some q=>some ((i,cs)::q)
   | _,_=>none
  | none=>none
def xgn (F:Fr) (zs:List Cell):Nat→List (Nat×List Cell)→(List (List PV)→Bool→Fr→Prop)→Prop
 | _,[],k=>k [] true F
 | j,(i,cs)::r,k=>i=j∧cs.length=zs.length∧xs8 F zs cs fun ps d F=>xgn F zs (j+1) r fun rows e F=>k (ps::rows) (d&&e) F
def xuf (T:Tab) (F:Fr) (x:Option Operand) (k:Option Nat→Prop):Prop :=
 match x with
 | none=>k none
 | some x=>match opnd T F 0 x with | some (.one (.pv p))=>xg6 p fun n=>k (some n) | _=>False
def xeK (T:Tab) (F:Fr):List Operand→Option (List Cap)
 | []=>some []
 | x::xs=>match opnd T F 0 x,xeK T F xs with
  | some (.one (.ptr k 0)),some q=>some (.box k::q)
  | some (.one (.sptr cells)),some q=>some (.ro (.cells cells)::q)
  | some (.one (.sfn f p)),some q=>some (.ro (.fn f p)::q)
  | _,_=>none
def xqF (T:Tab) (d:Option Tmp) (i:TI) (cy:Cell) (k:Fr→Prop) (x:PV) (kind:RK) (F:Fr):Prop :=
 match cy with
 | .own idy=>match lk F.rows idy with
  | some y=>if y.kind=.deep then
   xbd (T.sz i.elem) x y.e fun r=>k (put (newRow (xcS F idy) ⟨kind,i.elem,T.sz i.elem,r⟩) d (.one (.own F.next)))
   else if T.plain i.elem=true then xaZ y.e∧xbd (T.sz i.elem) x y.e fun r=>k (put (newRow F ⟨kind,i.elem,T.sz i.elem,r⟩) d (.one (.own F.next)))
   else xbd (T.sz i.elem) x y.e fun r=>k (put (newRow (share F idy) ⟨kind.with false,i.elem,T.sz i.elem,r⟩) d (.one (.own F.next)))
  | none=>False
 | cy=>match xa5 F cy with
  | some y=>if T.plain i.elem=true then xaZ y∧xbd (T.sz i.elem) x y fun r=>k (put (newRow F ⟨kind,i.elem,T.sz i.elem,r⟩) d (.one (.own F.next)))
   else xbd (T.sz i.elem) x y fun r=>k (put (newRow F ⟨kind.with false,i.elem,T.sz i.elem,r⟩) d (.one (.own F.next)))
  | none=>False
def xuO (T:Tab) (F:Fr) (d:Option Tmp) (i:TI) (cx cy:Cell) (k:Fr→Prop):Prop :=
 match cx with
 | .nil _ _=>xqF T d i cy k (.list (T.sz i.elem) []) .deep F
 | .own id=>match lk F.rows id with
  | some r=>if r.kind≠.shared∧r.sz=T.sz i.elem∧r.elem=i.elem then xqF T d i cy k r.e r.kind (xcS F id) else False
  | none=>False
 | _=>False
def opS (C:Orac) (T:Tab) (o:Oper) (F:Fr) (k:Fr→Prop):Prop :=
 match o.op with
 | .move x=>match opnd T F o.type x with | some v=>k (put F o.dst v) | none=>False
 | .assign x=>match opnd T F o.type x with | some v=>k (put F o.dst v) | none=>False
 | .nilCheck x=>match opnd T F 0 x with
  | some (.one (.ptr b off))=>k (put F o.dst (.one (.ptr b off)))
  | _=>False
 | .pick c a b'=>match opnd T F 0 c with
  | some (.one (.kb b))=>match opnd T F o.type (if b then a else b') with | some v=>k (put F o.dst v) | none=>False
  | some (.one (.pv p))=>xad p (match opnd T F o.type a with | some v=>k (put F o.dst v) | none=>False) (match opnd T F o.type b' with | some v=>k (put F o.dst v) | none=>False)
  | _=>False
 | .alloc t=>match lk T.ti t with
  | some i=>k (put (newBox F i.zero) o.dst (.one (.ptr F.next 0)))
  | none=>False
 | .box _ x=>match opnd T F 0 x with
  | some v=>match xdy v with | some cs=>k (put (newBox F cs) o.dst (.one (.ptr F.next 0))) | none=>False
  | none=>False
 | .build t parts=>match lk T.ti t with
  | some i=>if i.agg=true then
   match xdR T F (fun j=>(i.flds.getD j (0,0)).2) parts.toList with
   | some ps=>match xll i.zero (i.flds.map fun f=>(f.1,T.sz f.2)) ps with
    | some cs=>k (put F o.dst (.agg cs))
    | none=>False
   | none=>False
   else False
  | none=>False
 | .buildSlice t n parts=>match lk T.ti t with
  | some i=>match lk T.ti i.elem with
   | some e=>match xdR T F (fun _=>i.elem) parts.toList with
    | some ps=>ps.length=n∧n*e.size≤16777216∧e.zero.length=e.size∧xgn F e.zero 0 ps fun rows deep F =>
     k (put (newRow F ⟨if (deep&&!(parts.isEmpty&&T.fl.contains i.elem))=true then .deep else .flat,i.elem,e.size,.list e.size rows⟩) o.dst (.one (.own F.next)))
    | none=>False
   | none=>False
  | none=>False
 | .load t x=>match lk T.ti t,opnd T F 0 x with
  | some i,some (.one (.ptr b off))=>match lk F.boxes b with
   | some cs=>if i.agg=true then (if off+i.size≤cs.length then k (put F o.dst (.agg ((cs.drop off).take i.size))) else False)
    else match cs[off]? with | some c=>k (put F o.dst (.one c)) | none=>False
   | none=>False
  | some i,some (.one (.sptr cs)) =>
   if i.agg=true then (if i.size≤cs.length then k (put F o.dst (.agg ((cs.take i.size).map .pv))) else False)
   else match cs[0]? with | some c=>k (put F o.dst (.one (.pv c))) | none=>False
  | _,some (.one (.sfn f q))=>if T.fnt.contains t=true then k (put F o.dst (.one (.fn f (q.map fun ps=>.ro (.cells ps))))) else False
  | some i,some (.one (.optr id sz j off))=>match lk F.rows id with
   | some r=>if r.sz=sz∧off+i.size≤sz then xp1 sz r.e j fun cells =>
    let v:TV:=if i.agg=true then .agg ((xbU cells off i.size).map .pv) else .one (.pv (atP cells off))
    if r.kind=.deep then
     (if T.plain t=true then flats (xbU cells off i.size)∧k (put F o.dst v)
      else k (put (setRow F id { r with kind:=.flat }) o.dst v))
    else k (put F o.dst v)
    else False
   | none=>False
  | _,_=>False
 | .store t x y=>match lk T.ti t,opnd T F 0 x,opnd T F t y with
  | some i,some (.one (.ptr b off)),some v=>match lk F.boxes b,xdy v with
   | some cs,some ns=>if ns.length=i.size∧off+ns.length≤cs.length then k (put (setBox F b (cs.take off++ns++cs.drop (off+ns.length))) o.dst .undef) else False
   | _,_=>False
  | some i,some (.one (.optr id sz j off)),some v=>match xdy v with
   | some ns=>if ns.length=i.size∧i.zero.length=i.size∧(ns.all fun c=>match c with | .own q=>q != id | _=>true) then
    xs8 F i.zero ns fun ps deep F=>match lk F.rows id with
     | some r=>if r.kind≠.shared∧r.sz=sz then xmu r.e j off ps fun e=>k (put (setRow F id { r with kind:=r.kind.with deep,e:=e }) o.dst .undef) else False
     | none=>False
    else False
   | none=>False
  | _,_,_=>False
 | .binOp op t x y _=>match opnd T F 0 x,opnd T F 0 y,lk T.ti t with
  | some (.one a),some (.one b),some i=>match xbR a,xbR b with
   | some p,some q=>if i.tag=3 then xen op p q fun r=>k (put F o.dst (.one (.pv r))) else xac op p q fun r=>k (put F o.dst (.one (.pv r)))
   | _,_=>match b with
    | .nil _ _=>if i.elem=0 then False else match xa5 F a with
     | some p=>match op with
      | .eql=>xpJ false p fun r=>k (put F o.dst (.one (.pv r)))
      | .neq=>xpJ true p fun r=>k (put F o.dst (.one (.pv r)))
      | _=>False
     | none=>False
    | _=>False
  | some (.agg a),some (.agg b),some i=>if i.eqk=true then (match xes a,xes b with
   | some p,some q=>xeh i.zero p∧xeh i.zero q∧xsc op p q fun r=>k (put F o.dst (.one (.pv r)))
   | _,_=>False) else False
  | _,_,_=>False
 | .unOp op _ x=>match opnd T F 0 x with
  | some (.one (.kb b))=>match op with | .not=>k (put F o.dst (.one (.kb (!b)))) | _=>False
  | some (.one (.pv p))=>unP op p fun r=>k (put F o.dst (.one (.pv r)))
  | _=>False
 | .convert s d x=>match lk T.ti d,lk T.ti s,opnd T F 0 x with
  | some i,some j,some (.one (.pv p))=>match i.ik with
   | some kd=>xmc kd p fun r=>k (put F o.dst (.one (.pv r)))
   | none=>if i.tag=1∧j.tag=1 then xux p fun r=>k (put F o.dst (.one (.pv r)))
    else if i.tag=2∧j.tag=1 then xlk p fun r=>k (put F o.dst (.one (.pv r)))
    else if i.tag=1∧j.tag=2 then xnk p fun r=>k (put F o.dst (.one (.pv r)))
    else False
  | some i,some j,some (.one (.own id))=>match lk F.rows id with
   | some r=>if i.tag=1∧j.tag=2 then xnk r.e fun s=>k (put F o.dst (.one (.pv s))) else False
   | none=>False
  | _,_,_=>False
 | .makeFunc (.func f) first caps=>if first.size=0 then match xeK T F caps.toList with
  | some q=>k (put F o.dst (.one (.fn f q)))
  | none=>False
  else False
 | .makeSlice t n m=>match lk T.ti t,opnd T F 0 n,opnd T F 0 m with
  | some i,some (.one (.pv p)),some (.one (.pv q))=>match lk T.ti i.elem with
   | some e=>match xaI F e.zero with
    | some z=>p=q∧e.zero.length=e.size∧xgW e.size p z fun r=>k (put (newRow F ⟨.deep,i.elem,e.size,r⟩) o.dst (.one (.own F.next)))
    | none=>False
   | none=>False
  | _,_,_=>False
 | .slice t x lo hi mx=>match mx,opnd T F 0 x with
  | none,some (.one c)=>xuf T F lo fun l=>xuf T F hi fun h=>match c with
   | .pv p=>match lk T.ti t with
    | some i=>if i.tag=1 then xwt p l h fun r=>k (put F o.dst (.one (.pv r)))
     else if T.esz t=0 then False
     else xf8 (T.esz t) p l h fun r=>k (put F o.dst (.one (.pv r)))
    | none=>False
   | .own id=>match lk F.rows id with
    | some r=>if T.esz t=0 then False
     else if T.mv=true∧lo.isNone=true then
      (if r.kind≠.shared∧r.sz=T.esz t∧r.elem=T.el t then xf8 (T.esz t) r.e none h fun p=>k (put (newRow (xcS F id) ⟨r.kind,r.elem,r.sz,p⟩) o.dst (.one (.own F.next))) else False)
     else xf8 (T.esz t) r.e l h fun p=>k (put (share F id) o.dst (.one (.pv p)))
    | none=>False
   | .nil e sz=>if T.esz t=0 then False else l.getD 0=0∧h.getD 0=0∧k (put F o.dst (.one (.nil e sz)))
   | _=>False
  | _,_=>False
 | .fieldAddr s x i=>match opnd T F 0 x,lk T.ti s with
  | some (.one (.ptr b off)),some ti=>match ti.flds[i]? with | some f=>if T.sz f.2=0 then False else k (put F o.dst (.one (.ptr b (off+f.1)))) | none=>False
  | some (.one (.sptr cs)),some ti=>match ti.flds[i]? with | some f=>if T.sz f.2=0 then False else k (put F o.dst (.one (.sptr (cs.drop f.1)))) | none=>False
  | some (.one (.optr id sz j off)),some ti=>match ti.flds[i]? with | some f=>if T.sz f.2=0 then False else k (put F o.dst (.one (.optr id sz j (off+f.1)))) | none=>False
  | _,_=>False
 | .field s x i=>match opnd T F 0 x,lk T.ti s with
  | some (.agg cs),some ti=>match ti.flds[i]? with
   | some f=>match lk T.ti f.2 with
    | some fi=>if fi.agg=true then (if f.1+fi.size≤cs.length then k (put F o.dst (.agg ((cs.drop f.1).take fi.size))) else False)
     else match cs[f.1]? with | some c=>k (put F o.dst (.one c)) | none=>False
    | none=>False
   | none=>False
  | _,_=>False
 | .indexAddr t x i=>match opnd T F 0 x,opnd T F 0 i with
  | some (.one c),some (.one (.pv n))=>match c with
   | .pv p=>xaj (T.esz t) p n fun r=>k (put F o.dst (.one (.sptr (xbU r 0 (T.esz t)))))
   | .own id=>match lk F.rows id with
    | some r=>if r.sz=T.esz t then
     (if r.kind=.shared then xaj (T.esz t) r.e n fun q=>k (put F o.dst (.one (.sptr (xbU q 0 (T.esz t)))))
      else xdm r.sz r.e n fun j=>k (put F o.dst (.one (.optr id r.sz j 0))))
     else False
    | none=>False
   | _=>False
  | _,_=>False
 | .index t x i=>match lk T.ti t,opnd T F 0 x,opnd T F 0 i with
  | some ti,some (.one (.pv p)),some (.one (.pv n))=>if ti.tag=1 then xeI p n fun r=>k (put F o.dst (.one (.pv r))) else False
  | _,_,_=>False
 | .extract x i=>match opnd T F 0 x with
  | some (.tup vs)=>match vs[i]? with | some v=>k (put F o.dst v) | none=>False
  | _=>False
 | .call c=>match c.callee with
  | .value x=>match opnd T F 0 x with
   | some (.one (.fn f caps))=>match lk T.inl f with
    | some e=>xuG C T f e.1.ntmps caps c.args.toList c.argTypes.toList F o.dst k
    | none=>if xqk T f=true then xtj C T f caps c.args.toList c.argTypes.toList F o.dst k else match xcO F caps with
    | some q=>xr8 C T f c.args.toList c.argTypes.toList (.fn f caps) q F o.dst k
    | none=>False
   | _=>False
  | .builtin .len=>match c.args.toList,c.argTypes.toList with
   | [x],[t]=>match opnd T F t x,lk T.ti t with
    | some (.one a),some i=>match xa5 F a with
     | some p=>if i.tag=1 then xlV p fun r=>k (put F o.dst (.one (.pv r)))
      else if i.elem=0 then False
      else xaH p fun r=>k (put F o.dst (.one (.pv r)))
     | none=>False
    | _,_=>False
   | _,_=>False
  | .builtin .cap=>match c.args.toList,c.argTypes.toList with
   | [x],[t]=>match opnd T F t x,lk T.ti t with
    | some (.one (.nil _ _)),some i=>if i.elem=0 then False else k (put F o.dst (.one (.pv (.int .i64 0))))
    | _,_=>False
   | _,_=>False
  | .builtin .min=>match c.args.toList with
   | [x,y]=>match opnd T F 0 x,opnd T F 0 y with
    | some (.one (.pv p)),some (.one (.pv q))=>xug p q fun r=>k (put F o.dst (.one (.pv r)))
    | _,_=>False
   | _=>False
  | .builtin .max=>match c.args.toList with
   | [x,y]=>match opnd T F 0 x,opnd T F 0 y with
    | some (.one (.pv p)),some (.one (.pv q))=>xuh p q fun r=>k (put F o.dst (.one (.pv r)))
    | _,_=>False
   | _=>False
  | .builtin .append=>match c.args.toList,c.argTypes.toList with
   | [x,y],[t,u]=>if t=u then match lk T.ti t,opnd T F t x,opnd T F u y with
    | some i,some (.one cx),some (.one cy)=>if T.sz i.elem=0 then False else xuO T F o.dst i cx cy k
    | some i,some .mt,some (.one (.pv p))=>if T.sz i.elem=0 then False else xbd (T.sz i.elem) p (.list (T.sz i.elem) []) fun r=>k (put F o.dst (.one (.pv r)))
    | _,_,_=>False
    else match lk T.ti t,lk T.ti u,opnd T F t x,opnd T F 0 y with
    | some i,some j,some (.one (.nil _ _)),some (.one (.pv p))=>match lk T.ti i.elem with
     | some e=>match xaI F e.zero with
      | some z=>j.ik=some .i64∧e.zero.length=e.size∧xgW e.size p z fun r=>k (put (newRow F ⟨.deep,i.elem,e.size,r⟩) o.dst (.one (.own F.next)))
      | none=>False
     | none=>False
    | _,_,_,_=>False
   | _,_=>False
  | _=>False
 | _=>False
def knows (F:Fr) (d:Nat) (b:Bool):Fr:={ F with tmps:=(d,.one (.kb b))::F.tmps }
def xji (ops:List Oper) (F:Fr) (j:Nat) (want:Bool) (k1 k2:Fr→Prop):Prop :=
 match ops[j]? with
 | some o=>match o.dst with
  | some d=>match lk F.tmps d with
   | some (.one (.kb b))=>if b=want then k1 F else k2 F
   | some (.one (.pv p))=>if want=true then xad p (k1 (knows F d true)) (k2 (knows F d false)) else xad p (k2 (knows F d true)) (k1 (knows F d false))
   | some .undef=>k2 F
   | _=>False
  | none=>False
 | none=>False
inductive Out where
 | norm | ret | exit (id:Nat)
structure Cv where
 m:List (Nat×Option Nat)
 fz:List Nat
def Cv.add (c:Cv) (i:Nat) (j:Option Nat):Option Cv :=
 match lk c.m i with
 | some j'=>if j'=j then some c else none
 | none=>some { c with m:=(i,j)::c.m }
def xmx:RO→RO→Bool
 | .cells a,.cells b=>a.length==b.length
 | .fn f a,.fn g b=>f==g&&a.map (·.length)==b.map (·.length)
 | _,_=>false
def xcN (c:Cv):List Cap→List Cap→Option (List Cap×Cv)
 | [],[]=>some ([],c)
 | .box i::r,.box j::s=>match c.add i (some j) with
  | some c=>match xcN c r s with
   | some (q,c)=>some (.box i::q,c)
   | none=>none
  | none=>none
 | .ro a::r,.ro b::s=>if xmx a b=true then (match xcN c r s with
  | some (q,c)=>some (.ro b::q,c)
  | none=>none) else none
 | _,_=>none
def xqA (F:Fr) (c:Cv):Cell→Cell→Option (Cell×Cv)
 | .pv _,.pv p=>some (.pv p,c)
 | .pv _,.kb b=>some (.pv (.bool b),c)
 | .pv _,.nil _ sz=>some (.pv (.list sz []),c)
 | .pv _,.own j=>match lk F.rows j with | some r=>some (.pv r.e,{ c with fz:=j::c.fz }) | none=>none
 | .own i,.own j=>match c.add i (some j) with | some c=>some (.own i,c) | none=>none
 | .own i,.nil _ _=>match c.add i none with | some c=>some (.own i,c) | none=>none
 | .ptr i o,.ptr j o'=>if o=o' then (match c.add i (some j) with | some c=>some (.ptr i o,c) | none=>none) else none
 | .sptr a,.sptr b=>if a.length=b.length then some (.sptr b,c) else none
 | .fn f a,.fn g b=>if f=g then (match xcN c a b with | some (q,c)=>some (.fn f q,c) | none=>none) else none
 | .dead,_=>some (.dead,c)
 | _,_=>none
def xgQ (F:Fr) (c:Cv):List Cell→List Cell→Option (List Cell×Cv)
 | [],[]=>some ([],c)
 | x::xs,y::ys=>match xqA F c x y with
  | some (z,c)=>match xgQ F c xs ys with
   | some (zs,c)=>some (z::zs,c)
   | none=>none
  | none=>none
 | _,_=>none
def xr5 (F:Fr) (c:Cv):TV→TV→Option (TV×Cv)
 | .one x,.one y=>match xqA F c x y with | some (z,c)=>some (.one z,c) | none=>none
 | .agg x,.agg y=>match xgQ F c x y with | some (z,c)=>some (.agg z,c) | none=>none
 | .undef,.undef=>some (.undef,c)
 | .undef,.tup _=>some (.undef,c)
 | .undef,.mt=>some (.undef,c)
 | _,_=>none
def xld (F:Fr) (c:Cv):List (Nat×TV)→Option (List (Nat×TV)×Cv)
 | []=>some ([],c)
 | (t,x)::r=>match lk F.tmps t with
  | some v=>match xr5 F c x v with
   | some (y,c)=>match xld F c r with
    | some (q,c)=>some ((t,y)::q,c)
    | none=>none
   | none=>none
  | none=>none
def xif (F:Fr) (c:Cv):List (Nat×List Cell)→Option (List (Nat×List Cell)×Cv)
 | []=>some ([],c)
 | (i,x)::r=>match lk c.m i with
  | some (some j)=>match lk F.boxes j with
   | some y=>match xgQ F c x y with
    | some (z,c)=>match xif F c r with
     | some (q,c)=>some ((i,z)::q,c)
     | none=>none
    | none=>none
   | none=>none
  | _=>xif F c r
def xgP (F:Fr) (c:Cv):List (Nat×Row)→Option (List (Nat×Row))
 | []=>some []
 | (i,r)::q=>match lk c.m i with
  | some (some j)=>match lk F.rows j with
   | some s=>if s.elem=r.elem∧s.sz=r.sz∧(s.kind=r.kind∨s.kind=.deep∧r.kind=.flat)∧r.kind≠.shared then
    (match xgP F c q with | some z=>some ((i,{ r with e:=s.e })::z) | none=>none) else none
   | none=>none
  | some none=>if r.sz=0 then none else match xgP F c q with | some z=>some ((i,{ r with e:=.list r.sz [] })::z) | none=>none
  | none=>xgP F c q
def xgG:List Nat→Bool
 | []=>true
 | a::l=>!l.contains a&&xgG l
def conv (H F:Fr):Option Fr :=
 match xld F ⟨F.pin.map fun k=>(k,some k),[]⟩ H.tmps with
 | some (ts,c)=>match xif F c H.boxes with
  | some (bs,c)=>match xgP F c H.rows with
   | some rs =>
    let js:=c.m.filterMap (·.2)
    if xgG js=true∧(js.all fun j=>!c.fz.contains j)=true∧(c.m.all fun x=>decide (x.1<H.next))=true∧H.nt=F.nt then some ⟨ts,bs,rs,H.next,H.nt,F.pin⟩ else none
   | none=>none
  | none=>none
 | none=>none
def xnA (weak:Bool) (F:Fr):Cell→Cell×Fr
 | .nil e sz=>if (weak||decide (sz=0))=true then (.pv (.list sz []),F) else (.own F.next,newRow F ⟨.deep,e,sz,.list sz []⟩)
 | .own id=>match lk F.rows id with
  | some r=>if (weak||decide (r.kind=.shared))=true then (.pv r.e,share F id) else (.own id,F)
  | none=>(.dead,F)
 | .optr ..=>(.dead,F)
 | .kb b=>(.pv (.bool b),F)
 | c=>(c,F)
def xkR (weak:Bool) (F:Fr):List Cell→List Cell×Fr
 | []=>([],F)
 | c::cs=>let x:=xnA weak F c;let y:=xkR weak x.2 cs;(x.1::y.1,y.2)
def xpM (ws:List Nat) (F:Fr):Cell→Bool
 | .own id=>match lk F.rows id with | some r=>ws.contains r.elem | none=>false
 | .nil e _=>ws.contains e
 | _=>false
def xl4 (ws:List Nat) (weak:Bool) (F:Fr):TV→TV×Fr
 | .one c=>let x:=xnA (weak||xpM ws F c) F c;(.one x.1,x.2)
 | .agg cs=>let x:=xkR weak F cs;(.agg x.1,x.2)
 | .tup _=>(.undef,F)
 | .undef=>(.undef,F)
 | .mt=>(.undef,F)
def xcK (ws:List Nat) (F:Fr):List (Nat×Bool)→List (Nat×TV)×Fr
 | []=>([],F)
 | (t,wk)::r=>match lk F.tmps t with
  | some v=>let x:=xl4 ws wk F v;let y:=xcK ws x.2 r;((t,x.1)::y.1,y.2)
  | none=>xcK ws F r
def xhZ (ws:List Nat) (F:Fr):List Cell→List Cell×Fr
 | []=>([],F)
 | c::cs=>let x:=xnA (xpM ws F c) F c;let y:=xhZ ws x.2 cs;(x.1::y.1,y.2)
def xfc (ws:List Nat) (F:Fr):List (Nat×List Cell)→List (Nat×List Cell)×Fr
 | []=>([],F)
 | (k,cs)::r=>let x:=xhZ ws F cs;let y:=xfc ws x.2 r;((k,x.1)::y.1,y.2)
def dd {α:Type}:List Nat→List (Nat×α)→List (Nat×α)
 | _,[]=>[]
 | seen,x::r=>if seen.contains x.1=true then dd seen r else x::dd (x.1::seen) r
def clean (F:Fr):Fr:={ F with boxes:=dd [] F.boxes,rows:=dd [] F.rows }
def xjX (ws:List Nat) (keep:List (Nat×Bool)) (F:Fr):Option Fr :=
 let x:=xcK ws F keep
 let y:=xfc ws x.2 x.2.boxes
 let H:Fr:={ y.2 with tmps:=x.1,boxes:=y.1 }
 conv H H
def xcR (fl:List Nat) (r:Row):Row:=if r.kind=.deep∧fl.contains r.elem=true then { r with kind:=.flat } else r
def flatAll (fl:List Nat) (F:Fr):Fr:={ F with rows:=F.rows.map fun x=>(x.1,xcR fl x.2) }
def xmS (wk:Bool) (fl:List Nat) (keep:List (Nat×Bool)) (F:Fr):Option Fr:=match wk with
 | true=>xjX fl keep (clean F)
 | false=>match xjX [] keep (clean F) with
  | some H=>some (flatAll fl H)
  | none=>none
def xoG (B:Fr→(Out→Fr→Prop)→Prop) (k:Out→Fr→Prop):Nat→Fr→Prop
 | 0,_=>False
 | n+1,F=>B F fun o F'=>match o with
  | .norm=>match conv F F' with
   | some F1=>xoG B k n F1
   | none=>False
  | .ret=>k .ret F'
  | .exit i=>k (.exit i) F'
def xku (B:Fr→(Out→Fr→Prop)→Prop) (k:Out→Fr→Prop) (K:Fr→Prop) (F:Fr):Prop :=
 B F fun o F'=>match o with
  | .norm=>match conv F F' with
   | some F1=>K F1
   | none=>False
  | .ret=>k .ret F'
  | .exit i=>k (.exit i) F'
def xbr:Code→List Code
 | .seq a b=>xbr a++xbr b
 | .cond _ a b=>xbr a++xbr b
 | .block _ a=>xbr a
 | .loop b=>b::xbr b
 | _=>[]
def xfa (fn:Func) (i:Nat):Code:=match fn.body with | some c=>(xbr c).getD i .skip | none=>.skip
def xuF (B:Fr→(Out→Fr→Prop)→Prop) (k:Out→Fr→Prop) (F:Fr):Prop:=∃n,xoG B k n F
theorem xs6 (B:Fr→(Out→Fr→Prop)→Prop) (k:Out→Fr→Prop) (n:Nat) (F:Fr):xoG B k (n+1) F=xku B k (xoG B k n) F:=rfl
def xth (T:Tab) (F:Fr) (y:Operand):Bool:=match opnd T F 0 y with | some (.one (.nil _ _))=>true | _=>false
def xfL:Cell→Bool
 | .pv _ | .kb _ | .nil _ _=>true
 | _=>false
def xbb (T:Tab) (F:Fr) (o:Oper):Bool:=match o.op with
 | .buildSlice t _ parts=>match lk T.ti t with
  | some i=>(match xdR T F (fun _=>i.elem) parts.toList with | some ps=>ps.all fun x=>x.2.all xfL | none=>false)
  | none=>false
 | .binOp _ _ _ y _=>!xth T F y
 | .move _ | .assign _ | .nilCheck _ | .pick .. | .unOp .. | .convert .. | .fieldAddr .. | .field .. | .index .. | .indexAddr .. | .extract .. | .makeFunc .. | .build ..=>true
 | .alloc _ | .box .. | .makeSlice ..=>true
 | .load t x=>match opnd T F 0 x with
  | some (.one (.optr id _ _ _))=>match lk F.rows id with | some r=>decide (r.kind≠.deep)||T.plain t | none=>false
  | _=>true
 | .slice _ x _ _ _=>match opnd T F 0 x with
  | some (.one (.own _))=>false
  | _=>true
 | .call c=>match c.callee with
  | .value x=>match opnd T F 0 x with
   | some (.one (.fn f caps))=>match lk T.inl f with | some _=>false | none=>match lk T.sig f with | some sg=>!xhT sg&&decide (xrB sg=false∨xfe T F c.args.toList c.argTypes.toList=true∧xdv F (.fn f caps)=true) | none=>false
   | _=>false
  | .builtin .append=>match c.args.toList,c.argTypes.toList with
   | [x,_],[t,u]=>decide (t=u)&&(match opnd T F t x with | some .mt=>true | _=>false)
   | _,_=>false
  | .builtin .len=>true
  | .builtin .cap=>true
  | .builtin .min=>true
  | .builtin .max=>true
  | _=>false
 | _=>false
def xht (T:Tab) (F:Fr) (o:Oper):Bool:=xbb T F o||match o.op with
 | .store _ x _=>match opnd T F 0 x with
  | some (.one (.ptr _ _))=>true
  | some (.one (.optr _ _ _ _))=>true
  | _=>false
 | .slice _ x _ _ _=>match opnd T F 0 x with
  | some (.one (.own _))=>true
  | _=>false
 | .call c=>match c.callee with
  | .value _=>true
  | .builtin .append=>true
  | _=>false
 | .buildSlice _ _ _=>true
 | .load _ _=>true
 | .binOp ..=>true
 | _=>false
def xq9 (C:Orac) (T:Tab) (all:List Oper):List Oper→Fr→(Fr→Prop)→Prop
 | [],F,k=>k F
 | o::r,F,k=>match o.guard with
  | none=>if xht T F o=true then opS C T o F fun F=>xq9 C T all r F k else False
  | some (j,want)=>xji all F j want (fun F=>if xht T F o=true then opS C T o F fun F=>xq9 C T all r F k else False) (fun F=>xq9 C T all r (put F o.dst .undef) k)
def idle : Oper := ⟨none, .move (.const (.bool false)), 0, "", #[], none⟩
def waits (m:List Nat) (o:Oper):Bool:=o.after.any fun e=>Region.binds .any e&&m.contains e.on
def mtB (T:Tab) (all:List Oper) (o:Oper):Bool:=match o.op,o.dst with
 | .buildSlice t n parts,some d=>Nat.beq n 0&&parts.isEmpty&&(match lk T.ti t with | some i=>(match lk T.ti i.elem with | some _=>true | none=>false) | none=>false)&&all.any fun p=>match p.op with
  | .call c=>match c.callee with
   | .builtin .append=>(match c.args.toList with | .tmp e::_=>Nat.beq d e | _=>false)
   | _=>false
  | _=>false
 | _,_=>false
def xnt (C:Orac) (T:Tab) (all:List Oper):Nat→List Nat→List Oper→Fr→(List Nat→Fr→Prop)→Prop
 | _,m,[],F,k=>k m F
 | i,m,o::r,F,k=>if waits m o=true then xnt C T all (i+1) (i::m) r F k else match o.guard with
  | none=>if (!T.mv&&mtB T all o)=true then xnt C T all (i+1) m r (put F o.dst .mt) k else
   if xbb T F o=true then opS C T o F fun F=>xnt C T all (i+1) m r F k else xnt C T all (i+1) (i::m) r F k
  | some (j,want)=>xji all F j want (fun F1=>if xbb T F1 o=true then opS C T o F1 fun F=>xnt C T all (i+1) m r F k else xnt C T all (i+1) (i::m) r F k) (fun F=>xnt C T all (i+1) m r (put F o.dst .undef) k)
def xra (C:Orac) (T:Tab) (all:List Oper):List Nat→Fr→(Fr→Prop)→Prop
 | [],F,k=>k F
 | i::r,F,k=>match all[i]? with
  | some o=>match o.guard with
   | none=>if xht T F o=true then opS C T o F fun F=>xra C T all r F k else False
   | some (j,want)=>xji all F j want (fun F=>if xht T F o=true then opS C T o F fun F=>xra C T all r F k else False) (fun F=>xra C T all r (put F o.dst .undef) k)
  | none=>False
def early (m:List Nat):Nat→List Oper→List Oper
 | _,[]=>[]
 | i,o::r=>(if m.contains i=true then idle else o)::early m (i+1) r
def xjt:List Edge→Nat
 | []=>0
 | e::r=>if Region.binds .any e=true then (1 <<< e.on) ||| xjt r else xjt r
def dm (ops:Array Oper) (i:Nat):Nat:=match ops[i]? with | some o=>xjt o.after.toList | none=>0
def clos (ops:Array Oper):Nat→Nat→Nat
 | 0,S=>S
 | j+1,S=>if S.testBit j=true then clos ops j (S ||| dm ops j) else clos ops j S
def xlW (ops:Array Oper) (m fl:List Nat):Bool:=m.all fun i=>let S:=clos ops i (dm ops i);(List.range ops.size).all fun j=>S.testBit j||(m.contains j&&decide (i≤j))||fl.contains j
def xql (o:Oper):Bool:=(match o.op with | .extract ..=>true | _=>false)&&(match o.guard with | none=>true | some _=>false)
def xuk (T:Tab) (s:TypeId) (i:Nat):Bool:=match lk T.ti s with
 | some ti=>(match ti.flds[i]? with | some f=>decide (T.sz f.2≠0) | none=>false)
 | none=>false
def xgE (T:Tab) (o:Oper):Bool:=match o.op with
 | .extract .. | .move _ | .assign _ | .nilCheck _ | .load .. | .buildSlice ..=>true
 | .fieldAddr s _ i=>xuk T s i
 | _=>false
def rdB (T:Tab) (F:Fr) (o:Oper):Bool:=(match o.guard with | none=>true | some _=>false)&&match o.op with
 | .fieldAddr s _ i=>xuk T s i
 | .move _=>true
 | .nilCheck (.tmp n)=>(match lk F.tmps n with | some (.one (.ptr _ _))=>true | _=>false)
 | .load t (.tmp n)=>(match lk F.tmps n,lk T.ti t with
  | some (.one (.ptr b off)),some i=>(match lk F.boxes b with | some cs=>if i.agg=true then decide (off+i.size≤cs.length) else decide (off<cs.length) | none=>false)
  | _,_=>false)
 | _=>false
def xda (o:Oper):Bool:=match o.op with | .load ..=>true | _=>false
def xkX (T:Tab) (F:Fr) (ops:Array Oper) (m fl:List Nat) (odd f:Nat):Bool:=!m.contains f&&match ops[f]? with
 | some o=>(o.after.all fun e=>!Region.binds .any e||!m.contains e.on) &&
  ((xql o&&(m++fl).all fun j=>j==f||match ops[j]? with
   | some oj=>(oj.after.any fun e=>Region.binds .any e&&e.on==f)||o.apart ops oj
   | none=>true) ||
   (rdB T F o&&(m++fl).all fun j=>j==f||(!m.contains j&&decide (j<f)&&j != odd)||(clos ops j (dm ops j)).testBit f||match ops[j]? with
    | some oj=>o.apart ops oj&&(xgE T oj||!xda o)
    | none=>true))
 | none=>false
def floats0 (T:Tab) (F:Fr) (ops:Array Oper) (m:List Nat):List Nat:=match xlW ops m [] with
 | true=>[]
 | false=>(List.range ops.size).filter fun j=>!m.contains j&&match ops[j]? with | some o=>xql o||(rdB T F o&&m.any fun i=>!(clos ops i (dm ops i)).testBit j) | none=>false
def floats (T:Tab) (F:Fr) (ops:Array Oper) (m:List Nat):List Nat:=let c:=floats0 T F ops m;c.filter (xkX T F ops m c ops.size)
def xmQ (T:Tab) (F:Fr) (ops:Array Oper) (m:List Nat):Bool:=let fl:=floats T F ops m;xlW ops m (ops.size::fl)&&fl.all (xkX T F ops m (ops.size::fl) ops.size)&&(fl.isEmpty||Region.noSelect ops)
def xqc (ops:Array Oper) (m:List Nat) (i:Nat) (o:Oper):Bool :=
 (o.after.all fun e=>!Region.binds .any e||decide (e.on<i))&&(m.contains i ||
 (List.range ops.size).all fun j=>m.contains j||match ops[j]? with
  | some p=>match p.dst with
   | some d=>(decide (j=i)||o.dst != some d)&&(!(o.looksAt ops).contains d||(decide (j<i)&&o.after.any fun e=>Region.binds .any e&&e.on==j))
   | none=>true
  | none=>true)
def xow (ops:Array Oper) (m:List Nat):Bool:=(List.range ops.size).all fun i=>match ops[i]? with | some o=>xqc ops m i o | none=>true
def xmJ (T:Tab) (F:Fr) (ops:Array Oper) (m:List Nat):Nat:=let fl:=floats T F ops m
 match (List.range ops.size).find? fun j=>!m.contains j&&!fl.contains j&&m.any fun i=>!(clos ops i (dm ops i)).testBit j with | some j=>j | none=>ops.size
def xtm (T:Tab) (F:Fr) (ops:Array Oper) (m:List Nat) (e:Nat):Bool:=let fl:=floats T F ops m
 xlW ops m (e::fl)&&fl.all (fun f=>xkX T F ops m (e::fl) e f&&match ops[f]? with | some o=>o.after.all fun x=>!Region.binds .any x||x.on != e | none=>false)&&Region.noSelect ops&&m.all fun x=>decide (x<ops.size)
def xub (U:List Nat) (o:Oper):Bool:=o.after.all fun e=>!Region.binds .any e||!U.contains e.on
def xs9 (ops:Array Oper) (U:List Nat) (p:Nat→Oper→Prop):List Nat→Prop
 | []=>True
 | i::r=>match ops[i]? with
  | some o=>if xub U o=true then p i o∧xs9 ops U p r else xs9 ops U p r
  | none=>False
def opG (C:Orac) (T:Tab) (all:List Oper) (o:Oper) (F:Fr) (k:Fr→Prop):Prop:=match o.guard with
 | none=>if xht T F o=true then opS C T o F k else False
 | some (j,want)=>xji all F j want (fun F=>if xht T F o=true then opS C T o F k else False) (fun F=>k (put F o.dst .undef))
def xs3 (C:Orac) (T:Tab) (ops:Array Oper):Nat→List Nat→Fr→(Fr→Prop)→Prop
 | 0,U,F,k=>if U.isEmpty=true then k F else False
 | n+1,U,F,k=>if U.isEmpty=true then k F else xs9 ops U (fun i o=>opG C T ops.toList o F fun F=>xs3 C T ops n (U.filter (· != i)) F k) U
def forget (d:Option Tmp) (F:Fr):Fr:={ F with tmps:=F.tmps.filter fun x=>d != some x.1 }
def xuA (C:Orac) (T:Tab) (ops:Array Oper) (F:Fr) (k:Fr→Prop):Prop :=
 xnt C T ops.toList 0 [] ops.toList F fun m F=>if xow ops m=true then (if xmQ T F ops m=true then xra C T ops.toList m.reverse F k else
  let e:=xmJ T F ops m
  match ops[e]? with
  | some oe=>if xtm T F ops m e=true then xs3 C T ops m.length m.reverse F k ∧
   xs9 ops (e::m) (fun i o=>opG C T ops.toList o (forget oe.dst F) fun F=>xs3 C T ops m.length ((e::m.reverse).filter (· != i)) F k) m.reverse else False
  | none=>False) else False
def xoO (n:Nat) (keep:List (Nat×Bool)) (t:Nat):Bool:=match n with
 | 0=>keep.any fun y=>Nat.beq y.1 t
 | _+1=>true
def xkn (t:Nat):List Nat→Bool
 | []=>false
 | y::r=>Nat.beq y t||xkn t r
def xnj (keep:List (Nat×Bool)):Nat→List Nat→List (Nat×TV)→(List (Nat×TV)→Prop)→Prop
 | _,_,[],K=>K []
 | n,sn,x::l,K=>match xoO n keep x.1&&!xkn x.1 sn with
  | true=>xnj keep (n-1) (x.1::sn) l fun r=>K (x::r)
  | false=>xnj keep (n-1) sn l K
def xiw (n:Nat) (keep:List (Nat×Bool)) (F:Fr) (K:Fr→Prop):Prop:=match n with
 | 0=>K F
 | n+1=>xnj keep (n+1) [] F.tmps fun ts=>K ⟨ts,F.boxes,F.rows,F.next,F.nt,F.pin⟩
def sx (C:Orac) (T:Tab) (keep:List (Nat×Bool)):Code→Fr→(Out→Fr→Prop)→Prop
 | .skip,F,k=>k .norm F
 | .region _ ops draw,F,k=>if draw=true then xuA C T ops F (k .norm) else xq9 C T ops.toList ops.toList F (k .norm)
 | .seq a b,F,k=>sx C T keep a F fun o F=>match o with
  | .norm=>xiw T.win keep F fun F=>sx C T keep b F k
  | .ret=>k .ret F
  | .exit i=>k (.exit i) F
 | .cond c a b,F,k=>match c with
  | .tmp d=>match lk F.tmps d with
   | some (.one (.kb t))=>if t=true then sx C T keep a F k else sx C T keep b F k
   | some (.one (.pv p))=>xad p (sx C T keep a (knows F d true) k) (sx C T keep b (knows F d false) k)
   | _=>False
  | _=>False
 | .block i a,F,k=>sx C T keep a F fun o F=>match o with
  | .norm=>k .norm F
  | .ret=>k .ret F
  | .exit j=>if j=i then k .norm F else k (.exit j) F
 | .exit i,F,k=>k (.exit i) F
 | .loop b,F,k=>match xmS T.wk T.fl keep F with
  | some H=>xuF (sx C T keep b) k H
  | none=>False
 | .ret,F,k=>k .ret F
 | _,_,_=>False
def xec:Nat→List AV→List (Nat×TV)
 | _,[]=>[]
 | i,.one p::r=>(i,.one (.pv p))::xec (i+1) r
 | i,.agg ps::r=>(i,.agg (ps.map .pv))::xec (i+1) r
 | i,.fn f caps::r=>(i,.one (.fn f (caps.map .ro)))::xec (i+1) r
 | i,.ro (.cells cells)::r=>(i,.one (.sptr cells))::xec (i+1) r
 | i,.ro (.fn f q)::r=>(i,.one (.sfn f q))::xec (i+1) r
 | i,.nil e sz::r=>(i,.one (.nil e sz))::xec (i+1) r
def scs (cks:List CK) (out:List PV):Prop:=∀x∈cks.zip out,x.1=.sc→x.2.flat=true
def runs (C:Orac) (T:Tab) (keep:List (Nat×Bool)) (fn:Func) (sg:List RS) (av:List AV) (k:List PV→Prop):Prop :=
 match fn.body with
 | some c=>sx C T keep c ⟨xec 0 av,[],[],0,fn.ntmps,[]⟩ fun o F=>match o with
  | .norm=>match xeg T F [] fn.results.toList sg with | some (out,_)=>scs (xaA sg) out∧k out | none=>False
  | .ret=>match xeg T F [] fn.results.toList sg with | some (out,_)=>scs (xaA sg) out∧k out | none=>False
  | .exit _=>False
 | none=>False
end Go.Ev
/- What the worlds of the calls are known to hold, besides what they are handed: nothing. -/
namespace Go.Ev
open Go.RowKit
def Env (_:World):Prop:=True
theorem xm2 {w w':World} (_:Env w) (_:Below w.heap.size w w'):Env w':=trivial
end Go.Ev
/- What a pure value reads as in memory, and what a frame of the evaluator says of the machine's. -/
namespace Go.Ev
open Go.RowKit
theorem xeL (b o n:Nat):(⟨b,o,none⟩:Addr).add n=⟨b,o+n,none⟩:=by
 unfold Addr.add
 split
 ·rename_i h;subst h;rfl
 ·rfl
inductive xak (w:World):List PV→List Value→List Nat→Prop
 | nil:xak w [] [] []
 | int {k:IntKind} {n:Int} {ps:List PV} {vs:List Value} {N:List Nat}:xak w ps vs N→xak w (.int k n::ps) (.int k n::vs) N
 | bool {b:Bool} {ps:List PV} {vs:List Value} {N:List Nat}:xak w ps vs N→xak w (.bool b::ps) (.bool b::vs) N
 | str {s:ByteArray} {ps:List PV} {vs:List Value} {N:List Nat}:xak w ps vs N→xak w (.str s::ps) (.string s::vs) N
 | lnil {sz:Nat} {a:Option Addr} {cap:Nat} {ps:List PV} {vs:List Value} {N:List Nat}:xak w ps vs N→xak w (.list sz []::ps) (.slice a 0 cap::vs) N
 | list {sz:Nat} {rows:List (List PV)} {b off cap:Nat} {xs:List Value} {N1:List Nat} {ps:List PV} {vs:List Value} {N2:List Nat}
  (hs:0<sz) (h0:rows≠[]) (hl:∀q∈rows,q.length=sz) (hc:rows.length≤cap)
  (cells:∀j u,xs[j]? = some u→w.cell? ⟨b,off+j,none⟩=some u) :
  xak w rows.flatten xs N1→xak w ps vs N2 →
  xak w (.list sz rows::ps) (.slice (some ⟨b,off,none⟩) rows.length cap::vs) (b::(N1++N2))
namespace xak
variable {w w' : World} {ps : List PV} {vs : List Value} {N : List Nat}
theorem len (h:xak w ps vs N):ps.length=vs.length:=by
 induction h with
 | nil=>rfl
 | int _ ih | bool _ ih | str _ ih | lnil _ ih=>simp [ih]
 | list _ _ _ _ _ _ _ _ ih=>simp [ih]
theorem one (h:xak w ps vs N):∀v∈vs,v.oneCell'=true:=by
 induction h with
 | nil=>simp
 | int _ ih | bool _ ih | str _ ih | lnil _ ih=>simpa [Value.oneCell'] using ih
 | list _ _ _ _ _ _ _ _ ih=>simpa [Value.oneCell'] using ih
theorem append {p1 p2:List PV} {v1 v2:List Value} {N1 N2:List Nat} (h1:xak w p1 v1 N1) (h2:xak w p2 v2 N2):xak w (p1++p2) (v1++v2) (N1++N2):=by
 induction h1 with
 | nil=>exact h2
 | int _ ih=>exact .int ih
 | bool _ ih=>exact .bool ih
 | str _ ih=>exact .str ih
 | lnil _ ih=>exact .lnil ih
 | list a b c d e f _ _ ih=>have:=xak.list a b c d e f ih;simpa using this
theorem split (p1 p2:List PV):∀{vs:List Value} {N:List Nat},xak w (p1++p2) vs N→∃v1 v2 N1 N2,vs=v1++v2∧N=N1++N2∧xak w p1 v1 N1∧xak w p2 v2 N2:=by
 induction p1 with
 | nil=>intro vs N h;exact ⟨[],vs,[],N,rfl,rfl,.nil,h⟩
 | cons p p1 ih =>
  intro vs N h
  rw [List.cons_append] at h
  cases h with
  | int h=>obtain ⟨v1,v2,N1,N2,rfl,rfl,h1,h2⟩:=ih h;exact ⟨_::v1,v2,N1,N2,rfl,rfl,.int h1,h2⟩
  | bool h=>obtain ⟨v1,v2,N1,N2,rfl,rfl,h1,h2⟩:=ih h;exact ⟨_::v1,v2,N1,N2,rfl,rfl,.bool h1,h2⟩
  | str h=>obtain ⟨v1,v2,N1,N2,rfl,rfl,h1,h2⟩:=ih h;exact ⟨_::v1,v2,N1,N2,rfl,rfl,.str h1,h2⟩
  | lnil h=>obtain ⟨v1,v2,N1,N2,rfl,rfl,h1,h2⟩:=ih h;exact ⟨_::v1,v2,N1,N2,rfl,rfl,.lnil h1,h2⟩
  | list a b c d e f h=>obtain ⟨v1,v2,N1,N2,rfl,rfl,h1,h2⟩:=ih h;exact ⟨_::v1,v2,_::(_++N1),N2,rfl,by simp,.list a b c d e f h1,h2⟩
theorem head {p:PV} (h:xak w (p::ps) vs N):∃v r N1 N2,vs=v::r∧N=N1++N2∧xak w [p] [v] N1∧xak w ps r N2:=by
 obtain ⟨v1,v2,N1,N2,rfl,rfl,h1,h2⟩:=split [p] ps (by simpa using h)
 have hl:=h1.len
 match v1,hl with
 | [v],_=>exact ⟨v,v2,N1,N2,rfl,rfl,h1,h2⟩
theorem cons {p:PV} {v:Value} {N1 N2:List Nat} (h1:xak w [p] [v] N1) (h2:xak w ps vs N2):xak w (p::ps) (v::vs) (N1++N2):=by
 simpa using h1.append h2
theorem stable (h:xak w ps vs N) (hb:∀x∈N,w'.heap[x]? = w.heap[x]?):xak w' ps vs N:=by
 induction h with
 | nil=>exact .nil
 | int _ ih=>exact .int (ih hb)
 | bool _ ih=>exact .bool (ih hb)
 | str _ ih=>exact .str (ih hb)
 | lnil _ ih=>exact .lnil (ih hb)
 | list a b c d e f _ ih1 ih2 =>
  refine .list a b c d (fun j u hu=>?_) (ih1 fun x hx=>hb x (by simp [hx])) (ih2 fun x hx=>hb x (by simp [hx]))
  have:=e j u hu
  rw [World.cell?_of_block (w:=w)]
  ·exact this
  ·exact hb _ (by simp)
theorem bound (h:xak w ps vs N):∀x∈N,x<w.heap.size:=by
 induction h with
 | nil=>simp
 | int _ ih | bool _ ih | str _ ih | lnil _ ih=>exact ih
 | @list sz rows b off cap xs N1 ps vs N2 hs h0 hl _ cells hv _ ih1 ih2 =>
  intro x hx
  simp only [List.mem_cons,List.mem_append] at hx
  rcases hx with rfl | hx | hx
  ·have hl1:=hv.len
   cases rows with
   | nil=>exact absurd rfl h0
   | cons r rows =>
    have hr:=hl r (by simp)
    cases xs with
    | nil=>rw [List.flatten_cons,List.length_append,List.length_nil] at hl1;omega
    | cons u xs =>
     have:=cells 0 u rfl
     exact World.block_lt_of_cell? w _ this
  ·exact ih1 x hx
  ·exact ih2 x hx
end xak
theorem xeU {rows:List (List PV)} {sz:Nat} (hl:∀q∈rows,q.length=sz):∀{i:Nat} {r:List PV},rows[i]? = some r→rows.flatten=(rows.take i).flatten++(r++(rows.drop (i+1)).flatten)∧(rows.take i).flatten.length=i*sz:=by
 intro i r h
 have hi:i<rows.length:=by
  rcases Nat.lt_or_ge i rows.length with h' | h'
  ·exact h'
  ·simp [List.getElem?_eq_none h'] at h
 have hr:rows[i]=r:=by simpa [List.getElem?_eq_getElem hi] using h
 constructor
 ·have e:rows=rows.take i++(r::rows.drop (i+1)):=by rw [←hr,←List.drop_eq_getElem_cons hi,List.take_append_drop]
  have:rows.flatten=(rows.take i++(r::rows.drop (i+1))).flatten:=by rw [←e]
  rw [this,List.flatten_append,List.flatten_cons]
 ·have hlen:∀(l:List (List PV)),(∀q∈l,q.length=sz)→l.flatten.length=l.length*sz:=by
   intro l
   induction l with
   | nil=>simp
   | cons a l ih=>intro hl;simp [ih (fun q hq=>hl q (by simp [hq])),hl a (by simp),Nat.succ_mul,Nat.add_comm]
  rw [hlen _ fun q hq=>hl q (List.mem_of_mem_take hq),List.length_take,Nat.min_eq_left (Nat.le_of_lt hi)]
theorem xcx {rows:List (List PV)} {sz:Nat} (hl:∀q∈rows,q.length=sz):rows.flatten.length=rows.length*sz:=by
 induction rows with
 | nil=>simp
 | cons a l ih=>simp [ih (fun q hq=>hl q (by simp [hq])),hl a (by simp),Nat.succ_mul,Nat.add_comm]
structure Gh where
 S:Nat→Prop
 own:Nat→Option Nat
 row:Nat→Option Value
 bx:Nat→Option Nat
def AtS (S:Nat→Prop) (w:World) (b off:Nat) (cells:List PV):Prop :=
 ∃xs N,(∀j u,xs[j]? = some u→w.cell? ⟨b,off+j,none⟩=some u)∧xak w cells xs N∧(∀x∈N,S x)∧S b
def xbp (S:Nat→Prop) (w:World) (ps:List PV) (vs:List Value):Prop:=∃N,xak w ps vs N∧∀x∈N,S x
def xrt (S:Nat→Prop) (w:World):List (List PV)→List Value→Prop
 | [],vs=>vs=[]
 | c::cs,vs=>∃v r,vs=v::r∧(∃b off,v=.pointer (some ⟨b,off,none⟩)∧AtS S w b off c)∧xrt S w cs r
def xsY (S:Nat→Prop) (w:World) (b off:Nat) (f:FuncId) (q:List (List PV)):Prop :=
 ∃vs:List Value,w.cell? ⟨b,off,none⟩=some (.func (.func f) #[] vs.toArray)∧xrt S w q vs∧S b
def AtR (S:Nat→Prop) (w:World) (b off:Nat):RO→Prop
 | .cells ps=>AtS S w b off ps
 | .fn f q=>xsY S w b off f q
def xis (G:Gh) (w:World):Cap→Value→Prop
 | .box k,v=>∃b,G.bx k=some b∧v=.pointer (some ⟨b,0,none⟩)
 | .ro c,v=>∃b off,v=.pointer (some ⟨b,off,none⟩)∧AtR G.S w b off c
def xbD (G:Gh) (w:World):List Cap→List Value→Prop
 | [],vs=>vs=[]
 | c::cs,vs=>∃v r,vs=v::r∧xis G w c v∧xbD G w cs r
def xdb (G:Gh) (w:World):Cell→Value→Prop
 | .pv p,v=>xbp G.S w [p] [v]
 | .nil _ _,v=>v=.slice none 0 0
 | .own id,v=>G.row id=some v
 | .dead,v=>v.oneCell'=true
 | .kb b,v=>v=.bool b
 | .ptr k off,v=>∃b,G.bx k=some b∧v=.pointer (some ⟨b,off,none⟩)
 | .sptr cells,v=>∃b off,v=.pointer (some ⟨b,off,none⟩)∧AtS G.S w b off cells
 | .optr id sz i off,v=>∃b n cap,G.row id=some (.slice (some ⟨b,0,none⟩) n cap)∧v=.pointer (some ⟨b,i*sz+off,none⟩)
 | .fn f caps,v=>∃vs:List Value,v=.func (.func f) #[] vs.toArray∧xbD G w caps vs
 | .sfn f q,v=>∃b off,v=.pointer (some ⟨b,off,none⟩)∧xsY G.S w b off f q
def xaN (G:Gh) (w:World):List Cell→List Value→Prop
 | [],vs=>vs=[]
 | c::cs,vs=>∃v r,vs=v::r∧xdb G w c v∧xaN G w cs r
def xcy (G:Gh) (w:World):TV→Value→Prop
 | .one c,v=>xdb G w c v
 | .agg cs,v=>∃vs:List Value,v=.agg vs.toArray∧xaN G w cs vs
 | .tup ts,v=>∃vs:List Value,v=.tuple vs.toArray∧RepTs G w ts vs
 | .undef,v=>∀b,v≠.bool b
 | .mt,v=>∃ad,v=.slice (some ad) 0 0
where RepTs (G:Gh) (w:World):List TV→List Value→Prop
 | [],vs=>vs=[]
 | t::ts,vs=>∃v r,vs=v::r∧xcy G w t v∧RepTs G w ts r
def xbk (G:Gh) (w:World) (id:Nat) (r:Row) (v:Value):Prop :=
 match r.kind with
 | .shared=>xbp G.S w [r.e] [v]
 | kd=>0<r.sz∧∃rows xs N,r.e=.list r.sz rows∧(∀q∈rows,q.length=r.sz)∧xak w rows.flatten xs N ∧
  w.ownsRow 0 r.elem r.sz v rows.length xs∧(∀b,v.ownBlock=some b→G.own b=some id) ∧
  (if kd=.deep then N.Nodup∧(∀x∈N,G.own x=some id∧v.ownBlock≠some x) else ∀x∈N,G.S x)
def Wr1 (w:World) (x:Nat):Prop:=∃c t,w.heap[x]? = some (.cells c t (0,0))
theorem Wr1.stay {w w':World} {x:Nat} (h:Wr1 w x) (e:w'.heap[x]? = w.heap[x]?):Wr1 w' x:=by obtain ⟨c,t,h⟩:=h;exact ⟨c,t,e.trans h⟩
structure Base where
 w:World
 S:Nat→Prop
 env:Env w
 outer:TV→Value→Prop
structure Rel (w0:Base) (G:Gh) (F:Fr) (a:Act) (w:World):Prop where
 below:Below w0.w.heap.size w0.w w
 defers:a.defers=[]
 size:a.tmps.size=F.nt
 tmps:∀t tv,lk F.tmps t=some tv→∃v,a.tmps[t]? = some v∧xcy G w tv v
 boxes:∀k cells b,lk F.boxes k=some cells→G.bx k=some b→G.own b=some k∧∃(vs:List Value) (e:TypeId),w.heap[b]? = some (.cells vs.toArray e (0,0))∧xaN G w cells vs
 rows:∀id r v,lk F.rows id=some r→G.row id=some v→xbk G w id r v
 stb:∀x,G.S x→G.own x=none∧x<w.heap.size
 own:∀x id,G.own x=some id→w0.w.heap.size≤x∧x<w.heap.size
 rowv:∀id v,G.row id=some v→∃ad n c,v=.slice ad n c
 sub:∀x,G.S x→w0.S x∨w0.w.heap.size≤x
 wr:∀x id,G.own x=some id→Wr1 w x
 out:∀tv v,w0.outer tv v→xcy G w tv v∧xiS F.pin tv=true
end Go.Ev
/- How what a frame says is carried over the steps of the machine. -/
namespace Go.Ev
open Go.RowKit
structure xfg (G G':Gh):Prop where
 S:∀x,G.S x→G'.S x
 row:∀id v,G.row id=some v→G'.row id=some v
 bx:∀k b,G.bx k=some b→G'.bx k=some b
theorem xfg.refl (G:Gh):xfg G G:=⟨fun _ h=>h,fun _ _ h=>h,fun _ _ h=>h⟩
theorem xfg.trans {A B C:Gh} (h:xfg A B) (k:xfg B C):xfg A C:=⟨fun x hx=>k.S x (h.S x hx),fun i v hv=>k.row i v (h.row i v hv),fun i v hv=>k.bx i v (h.bx i v hv)⟩
section
variable {G G' : Gh} {w w' : World}
theorem xbp.carry {ps:List PV} {vs:List Value} {S S':Nat→Prop} (hS:∀x,S x→S' x) (hw:∀x,S x→w'.heap[x]? = w.heap[x]?) (h:xbp S w ps vs):xbp S' w' ps vs:=by
 obtain ⟨N,h1,h2⟩:=h
 exact ⟨N,h1.stable fun x hx=>hw x (h2 x hx),fun x hx=>hS x (h2 x hx)⟩
theorem AtS.carry {b off:Nat} {ps:List PV} {S S':Nat→Prop} (hS:∀x,S x→S' x) (hw:∀x,S x→w'.heap[x]? = w.heap[x]?) (h:AtS S w b off ps):AtS S' w' b off ps:=by
 obtain ⟨xs,N,hc,h1,h2,hb⟩:=h
 refine ⟨xs,N,fun j u hu=>?_,h1.stable fun x hx=>hw x (h2 x hx),fun x hx=>hS x (h2 x hx),hS b hb⟩
 rw [World.cell?_of_block (w:=w)]
 ·exact hc j u hu
 ·exact hw b hb
theorem xrt.carry {S S':Nat→Prop} (hS:∀x,S x→S' x) (hw:∀x,S x→w'.heap[x]? = w.heap[x]?):∀{q:List (List PV)} {vs:List Value},xrt S w q vs→xrt S' w' q vs
 | [],_,h=>h
 | _::_,_,⟨v,r,e,⟨b,off,h1,h2⟩,h3⟩=>⟨v,r,e,⟨b,off,h1,h2.carry hS hw⟩,xrt.carry hS hw h3⟩
theorem xsY.carry {b off:Nat} {f:FuncId} {q:List (List PV)} {S S':Nat→Prop} (hS:∀x,S x→S' x) (hw:∀x,S x→w'.heap[x]? = w.heap[x]?) (h:xsY S w b off f q):xsY S' w' b off f q:=by
 obtain ⟨vs,h1,h2,h3⟩:=h
 refine ⟨vs,?_,h2.carry hS hw,hS b h3⟩
 rw [World.cell?_of_block (w:=w)]
 ·exact h1
 ·exact hw b h3
theorem AtR.carry {b off:Nat} {c:RO} {S S':Nat→Prop} (hS:∀x,S x→S' x) (hw:∀x,S x→w'.heap[x]? = w.heap[x]?) (h:AtR S w b off c):AtR S' w' b off c:=by
 cases c with
 | cells ps=>exact AtS.carry hS hw h
 | fn f q=>exact xsY.carry hS hw h
variable (hG : xfg G G') (hw : ∀ x, G.S x → w'.heap[x]? = w.heap[x]?)
include hG hw
theorem xis.carry {c:Cap} {v:Value} (h:xis G w c v):xis G' w' c v:=by
 cases c with
 | box k=>obtain ⟨b,h1,h2⟩:=h;exact ⟨b,hG.bx _ _ h1,h2⟩
 | ro c=>obtain ⟨b,off,h1,h2⟩:=h;exact ⟨b,off,h1,h2.carry hG.S hw⟩
theorem xbD.carry:∀{cs:List Cap} {vs:List Value},xbD G w cs vs→xbD G' w' cs vs
 | [],_,h=>h
 | _::_,_,⟨v,r,e,h1,h2⟩=>⟨v,r,e,xis.carry hG hw h1,xbD.carry h2⟩
theorem xdb.carry {c:Cell} {v:Value} (h:xdb G w c v):xdb G' w' c v:=by
 cases c with
 | pv p=>exact xbp.carry hG.S hw h
 | nil e sz=>exact h
 | own id=>exact hG.row _ _ h
 | dead=>exact h
 | kb b=>exact h
 | ptr k off=>obtain ⟨b,h1,h2⟩:=h;exact ⟨b,hG.bx _ _ h1,h2⟩
 | sptr cells=>obtain ⟨b,off,h1,h2⟩:=h;exact ⟨b,off,h1,h2.carry hG.S hw⟩
 | optr id sz i off=>obtain ⟨b,n,cap,h1,h2⟩:=h;exact ⟨b,n,cap,hG.row _ _ h1,h2⟩
 | fn f caps=>obtain ⟨vs,h1,h2⟩:=h;exact ⟨vs,h1,xbD.carry hG hw h2⟩
 | sfn f q=>obtain ⟨b,off,h1,h2⟩:=h;exact ⟨b,off,h1,h2.carry hG.S hw⟩
theorem xaN.carry:∀{cs:List Cell} {vs:List Value},xaN G w cs vs→xaN G' w' cs vs
 | [],_,h=>h
 | _::_,_,⟨v,r,e,h1,h2⟩=>⟨v,r,e,xdb.carry hG hw h1,xaN.carry h2⟩
end
mutual
theorem xcy.carry {G G':Gh} {w w':World} (hG:xfg G G') (hw:∀x,G.S x→w'.heap[x]? = w.heap[x]?):∀{t:TV} {v:Value},xcy G w t v→xcy G' w' t v
 | .one _,_,h=>xdb.carry hG hw h
 | .agg _,_,⟨vs,e,h⟩=>⟨vs,e,xaN.carry hG hw h⟩
 | .tup _,_,⟨vs,e,h⟩=>⟨vs,e,RepTs.carry hG hw h⟩
 | .undef,_,h=>h
 | .mt,_,h=>h
theorem RepTs.carry {G G':Gh} {w w':World} (hG:xfg G G') (hw:∀x,G.S x→w'.heap[x]? = w.heap[x]?):∀{ts:List TV} {vs:List Value},xcy.RepTs G w ts vs→xcy.RepTs G' w' ts vs
 | [],_,h=>h
 | _::_,_,⟨v,r,e,h1,h2⟩=>⟨v,r,e,xcy.carry hG hw h1,RepTs.carry hG hw h2⟩
end
theorem xns {w w':World} {base:Nat} {e:TypeId} {sz:Nat} {v:Value} {n:Nat} {xs:List Value} (h:w.ownsRow base e sz v n xs) (hb:∀b,v.ownBlock=some b→w'.heap[b]? = w.heap[b]?):w'.ownsRow base e sz v n xs:=by
 obtain ⟨h1,h2⟩:=h
 refine ⟨h1,?_⟩
 rcases h2 with h2 | ⟨g,cap,cur,rfl,hg,hh,r⟩
 ·exact .inl h2
 ·exact .inr ⟨g,cap,cur,rfl,hg,(hb g rfl).trans hh,r⟩
theorem _root_.Go.World.ownsRow.wr {w:World} {base:Nat} {e:TypeId} {sz:Nat} {v:Value} {n:Nat} {xs:List Value} (h:w.ownsRow base e sz v n xs) {b:Nat} (hb:v.ownBlock=some b):Wr1 w b:=by
 rcases h.2 with ⟨rfl,_⟩ | ⟨g,cap,cur,rfl,_,hh,_⟩
 ·cases hb
 ·have:g=b:=by injection hb
  subst this
  exact ⟨_,_,hh⟩
theorem xrN {w:World} {base:Nat} {e:TypeId} {sz:Nat} {v:Value} {n:Nat} {xs:List Value} (h:w.ownsRow base e sz v n xs):v.oneCell'=true:=by
 rcases h.2 with ⟨rfl,_⟩ | ⟨g,cap,cur,rfl,_⟩<;>rfl
theorem xbk.carry {G G':Gh} {w w':World} {id:Nat} {r:Row} {v:Value} (hS:∀x,G.S x→G'.S x) (hw:∀x,G.S x→w'.heap[x]? = w.heap[x]?)
 (ho:∀x,G.own x=some id→w'.heap[x]? = w.heap[x]? ∧ G'.own x=some id) (h:xbk G w id r v):xbk G' w' id r v:=by
 unfold xbk at h ⊢
 split at h
 ·exact h.carry hS hw
 ·obtain ⟨hs,rows,xs,N,he,hl,hv,hown,hb,hk⟩:=h
  refine ⟨hs,rows,xs,N,he,hl,hv.stable fun x hx=>?_,xns hown fun b hb'=>(ho b (hb b hb')).1,fun b hb'=>(ho b (hb b hb')).2,?_⟩
  ·split at hk
   ·exact (ho x (hk.2 x hx).1).1
   ·exact hw x (hk x hx)
  ·split at hk
   ·rename_i hd;rw [if_pos hd];exact ⟨hk.1,fun x hx=>⟨(ho x (hk.2 x hx).1).2,(hk.2 x hx).2⟩⟩
   ·rename_i hd;rw [if_neg hd];exact fun x hx=>hS x (hk x hx)
def xf7 (G:Gh) (w:World) (k:Nat) (cells:List Cell) (b:Nat):Prop :=
 G.own b=some k∧∃(vs:List Value) (e:TypeId),w.heap[b]? = some (.cells vs.toArray e (0,0))∧xaN G w cells vs
theorem xf7.carry {G G':Gh} {w w':World} {k:Nat} {cells:List Cell} {b:Nat} (hG:xfg G G') (hw:∀x,G.S x→w'.heap[x]? = w.heap[x]?)
 (ho:G.own b=some k→w'.heap[b]? = w.heap[b]? ∧ G'.own b=some k) (h:xf7 G w k cells b):xf7 G' w' k cells b:=by
 obtain ⟨h1,vs,e,h2,h3⟩:=h
 exact ⟨(ho h1).2,vs,e,(ho h1).1.trans h2,xaN.carry hG hw h3⟩
theorem xas {α:Type} (l:List (Nat×α)) (k:Nat) (v:α) (i:Nat):lk ((k,v)::l) i=if k=i then some v else lk l i:=rfl
theorem Rel.move {w0:Base} {G G':Gh} {F F':Fr} {a:Act} {w w':World} (h:Rel w0 G F a w) (hb:Below w0.w.heap.size w0.w w') (hG:xfg G G') (hw:∀x,G.S x→w'.heap[x]? = w.heap[x]?)
 (ht:F'.tmps=F.tmps) (hn:F'.nt=F.nt)
 (hbx:∀k cells b,lk F'.boxes k=some cells→G'.bx k=some b→xf7 G' w' k cells b)
 (hrow:∀id r v,lk F'.rows id=some r→G'.row id=some v→xbk G' w' id r v)
 (hs:∀x,G'.S x→G'.own x=none∧x<w'.heap.size) (ho:∀x id,G'.own x=some id→w0.w.heap.size≤x∧x<w'.heap.size) (hv:∀id v,G'.row id=some v→∃ad n c,v=.slice ad n c) (hsub:∀x,G'.S x→w0.S x∨w0.w.heap.size≤x) (hwr:∀x id,G'.own x=some id→Wr1 w' x) (hp:F'.pin=F.pin:=by rfl):Rel w0 G' F' a w' where
 below:=hb
 defers:=h.defers
 size:=by rw [hn];exact h.size
 tmps:=fun t tv e=>by
  rw [ht] at e
  obtain ⟨v,h1,h2⟩:=h.tmps t tv e
  exact ⟨v,h1,xcy.carry hG hw h2⟩
 boxes:=hbx
 rows:=hrow
 stb:=hs
 own:=ho
 rowv:=hv
 sub:=hsub
 wr:=hwr
 out:=fun tv v ho=>by rw [hp];exact ⟨xcy.carry hG hw (h.out tv v ho).1,(h.out tv v ho).2⟩
theorem Rel.put {w0:Base} {G:Gh} {F:Fr} {a:Act} {w:World} (h:Rel w0 G F a w) (d:Option Tmp) (tv:TV) (v:Value) (hv:xcy G w tv v):Rel w0 G (put F d tv) (a.put d v) w:=by
 cases d with
 | none=>exact h
 | some d =>
  by_cases hd:d<F.nt
  ·refine ⟨h.below,h.defers,by simp [Ev.put,hd,Act.put,h.size],fun t tv' e=>?_,?_,?_,h.stb,h.own,h.rowv,h.sub,h.wr,by simpa only [Ev.put,hd,if_true] using h.out⟩
   ·simp only [Ev.put,hd,if_true,xas] at e
    have hsz:d<a.tmps.size:=by rw [h.size];exact hd
    split at e
    ·rename_i hdt
     subst hdt
     injection e with e
     subst e
     exact ⟨v,by simp [Act.put,hsz],hv⟩
    ·rename_i hdt
     obtain ⟨u,h1,h2⟩:=h.tmps t tv' e
     exact ⟨u,by simpa [Act.put,Array.getElem?_setIfInBounds_ne hdt] using h1,h2⟩
   ·intro k cells b e1 e2
    simp only [Ev.put,hd,if_true] at e1
    exact h.boxes k cells b e1 e2
   ·intro id r u e1 e2
    simp only [Ev.put,hd,if_true] at e1
    exact h.rows id r u e1 e2
  ·have hle:a.tmps.size≤d:=by rw [h.size];exact Nat.le_of_not_lt hd
   have:a.put (some d) v=a:=by
    simp only [Act.put]
    rw [Array.setIfInBounds_eq_of_size_le hle]
   rw [this]
   simp only [Ev.put,hd,if_false]
   exact h
theorem Rel.eval {w0:Base} {G:Gh} {F:Fr} {a:Act} {w:World} (h:Rel w0 G F a w) (T:Tab) (t:TypeId) (x:Operand) (tv:TV) (e:opnd T F t x=some tv):xcy G w tv (a.eval x):=by
 cases x with
 | tmp n =>
  obtain ⟨v,h1,h2⟩:=h.tmps n tv e
  have:a.eval (.tmp n)=v:=by simp [Act.eval,Array.getD_eq_getD_getElem?,h1]
  rw [this];exact h2
 | const c =>
  simp only [opnd] at e
  unfold xpd at e
  split at e<;>try (injection e with e;subst e)
  ·exact ⟨[],.int .nil,by simp⟩
  ·rfl
  ·exact ⟨[],.str .nil,by simp⟩
  ·rfl
  ·cases e
 | global g=>simp [opnd] at e
 | func f =>
  injection e with e
  subst e
  exact ⟨[],rfl,rfl⟩
end Go.Ev
/- What the evaluator's tables say of the program's types, and the model's small steps under it. -/
namespace Go.Ev
open Go.RowKit
def xcd:List Cell→List Value→Prop
 | [],vs=>vs=[]
 | .pv (.int k n)::cs,vs=>∃r,vs=.int k n::r∧xcd cs r
 | .pv (.bool b)::cs,vs=>∃r,vs=.bool b::r∧xcd cs r
 | .pv (.str s)::cs,vs=>∃r,vs=.string s::r∧xcd cs r
 | .nil _ _::cs,vs=>∃r,vs=.slice none 0 0::r∧xcd cs r
 | _::_,_=>False
def xgv (z:Option Cell) (d:TypeDesc):Prop:=match z with
 | some (.pv (.int _ _))=>∃k,d=.int k
 | some (.pv (.bool _))=>d=.bool
 | some (.pv (.str _))=>d=.string
 | _=>False
structure xeN (P:Program) (T:Tab) (t:TypeId) (i:TI):Prop where
 info:∃inf,P.info? t=some inf∧inf.size=i.size∧inf.bytes≤131072∧∃z,inf.zero=some z∧xcd i.zero z.cells.toList
 size:0<i.size
 zlen:i.zero.length=i.size
 agg:i.agg=true→∃fs,P.underlying t=some (.struct fs)∧fs.toList.map (fun f=>(f.offset,f.type))=i.flds
 one:i.agg=false→∃d,P.underlying t=some d∧(match d with | .struct _=>false | .array _ _=>false | _=>true)=true
 nofl:i.agg=false→i.flds=[]
 fsz:∀f∈i.flds,T.sz f.2≠0
 slice:i.elem≠0→P.underlying t=some (.slice i.elem)
 ik:∀k,i.ik=some k→P.underlying t=some (.int k)
 tag1:i.tag=1→P.underlying t=some .string
 tag2:i.tag=2→P.underlying i.elem=some (.int .u8)∧i.elem≠0
 tag3:i.tag=3→P.underlying t=some .bool
 eqk:i.eqk=true→P.eqGuardType P.depth t=false∧P.stoodInHeld t=false∧∃fs,P.underlying t=some (.struct fs)∧fs.size=i.size ∧
  ∀ (j : Nat) (f : Field), fs[j]? = some f → f.name ≠ "_" ∧ f.offset = j ∧ ∃ d, P.underlying f.type = some d ∧
   xgv i.zero[j]? d
structure xaz (P:Program) (T:Tab):Prop where
 ty:∀t i,lk T.ti t=some i→xeN P T t i
 zero:lk T.ti 0=none
 mixed:P.follows .mixedOrders=true
 inl : ∀ f e, lk T.inl f = some e → P.funcs[f]? = some e.1 ∧ (e.1.name == "runtime.NumGoroutine") = false
 fnt:∀t,T.fnt.contains t=true→∃d,P.underlying t=some d∧(match d with | .struct _=>false | .array _ _=>false | _=>true)=true
theorem xaz.esz {P:Program} {T:Tab} (h:xaz P T) {t:TypeId} (h0:0<T.esz t):∃i j,lk T.ti t=some i∧lk T.ti i.elem=some j∧j.size=T.esz t∧P.underlying t=some (.slice i.elem):=by
 unfold Tab.esz at h0 ⊢
 split at h0
 ·rename_i i hi
  unfold Tab.sz at h0 ⊢
  split at h0
  ·rename_i j hj
   refine ⟨i,j,hi,hj,?_,(h.ty t i hi).slice ?_⟩
   ·simp [hi,hj]
   ·intro he
    rw [he,h.zero] at hj
    cases hj
  ·omega
 ·omega
variable {P : Program} {T : Tab}
theorem xa3 {t:TypeId} {i:TI} (h:xeN P T t i) (w:World):(sizeOf t).run P w=.ok i.size w:=by
 obtain ⟨inf,h1,h2,_⟩:=h.info
 simp [sizeOf,typeInfo,h1,h2]
theorem xe8 {t:TypeId} {i:TI} (h:xeN P T t i) (ha:i.agg=true) (w:World):(isAgg t).run P w=.ok true w:=by
 obtain ⟨fs,h1,_⟩:=h.agg ha
 simp [isAgg,run_underlying h1]
theorem xeu {t:TypeId} {i:TI} (h:xeN P T t i) (ha:i.agg=false) (w:World):(isAgg t).run P w=.ok false w:=by
 obtain ⟨d,h1,h2⟩:=h.one ha
 cases d<;>simp at h2<;>simp [isAgg,run_underlying h1]
theorem xe7 {t:TypeId} {i:TI} (h:xeN P T t i) (w:World):∃z,(zeroValue t).run P w=.ok z w∧xcd i.zero z.cells.toList:=by
 obtain ⟨inf,h1,_,_,z,h3,h4⟩:=h.info
 exact ⟨z,by simp [zeroValue,typeInfo,h1,h3],h4⟩
theorem xcd.rep {G:Gh} {w:World}:∀{cs:List Cell} {vs:List Value},xcd cs vs→xaN G w cs vs
 | [],_,h=>h
 | .pv (.int k n)::_,_,⟨r,e,h⟩=>⟨_,r,e,⟨[],.int .nil,by simp⟩,xcd.rep h⟩
 | .pv (.bool b)::_,_,⟨r,e,h⟩=>⟨_,r,e,⟨[],.bool .nil,by simp⟩,xcd.rep h⟩
 | .pv (.str s)::_,_,⟨r,e,h⟩=>⟨_,r,e,⟨[],.str .nil,by simp⟩,xcd.rep h⟩
 | .nil _ _::_,_,⟨r,e,h⟩=>⟨_,r,e,rfl,xcd.rep h⟩
 | .pv (.list _ _)::_,_,h=>h.elim
 | .own _::_,_,h=>h.elim
 | .dead::_,_,h=>h.elim
 | .kb _::_,_,h=>h.elim
 | .ptr _ _::_,_,h=>h.elim
 | .sptr _::_,_,h=>h.elim
 | .optr _ _ _ _::_,_,h=>h.elim
 | .fn _ _::_,_,h=>h.elim
 | .sfn _ _::_,_,h=>h.elim
theorem xaN.len {G:Gh} {w:World}:∀{cs:List Cell} {vs:List Value},xaN G w cs vs→cs.length=vs.length
 | [],_,h=>by subst h;rfl
 | _::_,_,⟨_,_,e,_,h⟩=>by subst e;simp [xaN.len h]
theorem xaN.append {G:Gh} {w:World}:∀{cs ds:List Cell} {vs us:List Value},xaN G w cs vs→xaN G w ds us→xaN G w (cs++ds) (vs++us)
 | [],_,_,_,h,k=>by subst h;exact k
 | _::_,_,_,_,⟨v,r,e,h1,h2⟩,k=>by subst e;exact ⟨v,_,rfl,h1,xaN.append h2 k⟩
theorem xaN.take {G:Gh} {w:World}:∀{cs:List Cell} {vs:List Value} (n:Nat),xaN G w cs vs→xaN G w (cs.take n) (vs.take n)
 | [],_,n,h=>by subst h;simp [xaN]
 | _::_,_,0,_=>by simp [xaN]
 | _::_,_,n+1,⟨v,r,e,h1,h2⟩=>by subst e;exact ⟨v,_,rfl,h1,xaN.take n h2⟩
theorem xaN.drop {G:Gh} {w:World}:∀{cs:List Cell} {vs:List Value} (n:Nat),xaN G w cs vs→xaN G w (cs.drop n) (vs.drop n)
 | [],_,n,h=>by subst h;simp [xaN]
 | _::_,_,0,h=>h
 | _::_,_,n+1,⟨v,r,e,h1,h2⟩=>by subst e;exact xaN.drop n h2
theorem xaN.at_ {G:Gh} {w:World}:∀{cs:List Cell} {vs:List Value} {n:Nat} {c:Cell},xaN G w cs vs→cs[n]? = some c→∃v,vs[n]? = some v∧xdb G w c v
 | [],_,n,_,_,e=>by simp at e
 | _::_,_,0,_,⟨v,r,e,h1,h2⟩,e'=>by subst e;simp at e';subst e';exact ⟨v,rfl,h1⟩
 | _::_,_,n+1,_,⟨v,r,e,h1,h2⟩,e'=>by
  subst e
  obtain ⟨u,h3,h4⟩:=xaN.at_ h2 (by simpa using e')
  exact ⟨u,by simpa using h3,h4⟩
theorem xaN.of_vals {G:Gh} {w:World} {ps:List PV}:∀{vs:List Value} {N:List Nat},xak w ps vs N→(∀x∈N,G.S x)→xaN G w (ps.map .pv) vs:=by
 induction ps with
 | nil=>intro vs N h _;cases h;rfl
 | cons p ps ih =>
  intro vs N h hS
  obtain ⟨v,r,N1,N2,rfl,rfl,h1,h2⟩:=h.head
  exact ⟨v,r,rfl,⟨N1,h1,fun x hx=>hS x (by simp [hx])⟩,ih h2 fun x hx=>hS x (by simp [hx])⟩
theorem xbv {o:Oper} {a:Act} {w w':World} {v:Value} {K:Act→World→Prop} {Q:Exit→Act→World→Prop} (h:(execOp a.eval o).run P w=.ok (.value v) w') (hk:K (a.put o.dst v) w'):o.wp P a w K Q:=by
 unfold Oper.wp
 rw [h]
 exact hk
theorem xf9 {o:Oper} {a:Act} {w w':World} {K:Act→World→Prop} {Q:Exit→Act→World→Prop} (h:(execOp a.eval o).run P w=.ok .skip w') (hk:K (a.put o.dst undef) w'):o.wp P a w K Q:=by
 unfold Oper.wp
 rw [h]
 exact hk
theorem xb8 {t:TypeId} {i:TI} (h:xeN P T t i) (ha:i.agg=true) (w:World) (b off:Nat) (vs:List Value) (hl:vs.length=i.size) (hc:∀j u,vs[j]? = some u→w.cell? ⟨b,off+j,none⟩=some u) :
 (loadVar t ⟨b,off,none⟩).run P w=.ok (.agg vs.toArray) w:=by
 have:=run_loadCells_list (P:=P) w ⟨b,off,none⟩ vs (fun j v hv=>by rw [xeL];exact hc j v hv)
 rw [hl] at this
 simp [loadVar,xe8 h ha,xa3 h,this]
theorem xiA {t:TypeId} (hT:xaz P T) (h:T.fnt.contains t=true) (w:World) (b off:Nat) (u:Value) (hc:w.cell? ⟨b,off,none⟩=some u) :
 (loadVar t ⟨b,off,none⟩).run P w=.ok u w:=by
 obtain ⟨d,h1,h2⟩:=hT.fnt t h
 have:(isAgg t).run P w=.ok false w:=by cases d<;>simp at h2<;>simp [isAgg,run_underlying h1]
 simp [loadVar,this,hc]
theorem xb7 {t:TypeId} {i:TI} (h:xeN P T t i) (ha:i.agg=false) (w:World) (b off:Nat) (u:Value) (hc:w.cell? ⟨b,off,none⟩=some u) :
 (loadVar t ⟨b,off,none⟩).run P w=.ok u w:=by
 simp [loadVar,xeu h ha,hc]
end Go.Ev
/- Operations that only add: what one yields in whatever order it comes up. -/
namespace Go.Ev
open Go.RowKit
structure Adds where
 rows:List (Nat×Row)
 boxes:List (Nat×List Cell)
 n:Nat
def Adds.none:Adds:=⟨[],[],0⟩
def Fr.plus (F:Fr) (A:Adds):Fr:={ F with rows:=A.rows++F.rows,boxes:=A.boxes++F.boxes,next:=F.next+A.n }
def looks (o:Oper) (t:Tmp):Prop:=Operand.tmp t∈o.op.operands.toList
structure Le (X:Tmp→Prop) (F F2:Fr):Prop where
 tmps:∀t v,X t→lk F.tmps t=some v→lk F2.tmps t=some v
 boxes:∀k v,lk F.boxes k=some v→lk F2.boxes k=some v
 rows:∀k v,lk F.rows k=some v→lk F2.rows k=some v
theorem Le.refl (X:Tmp→Prop) (F:Fr):Le X F F:=⟨fun _ _ _ h=>h,fun _ _ h=>h,fun _ _ h=>h⟩
def Free (G:Gh) (lo hi:Nat):Prop:=∀id,lo≤id→id<hi→G.row id=none∧G.bx id=none∧∀x,G.own x≠some id
structure Apart (G G':Gh) (lo hi:Nat):Prop where
 row:∀id,id<lo∨hi≤id→G'.row id=G.row id
 bx:∀id,id<lo∨hi≤id→G'.bx id=G.bx id
 own:∀id x,id<lo∨hi≤id→(G'.own x=some id↔G.own x=some id)
theorem Apart.refl (G:Gh) (lo hi:Nat):Apart G G lo hi:=⟨fun _ _=>rfl,fun _ _=>rfl,fun _ _ _=>Iff.rfl⟩
def Yields (P:Program) (o:Oper) (F:Fr) (A:Adds) (tv:TV):Prop :=
 ∀(w0:Base) (G:Gh) (F2:Fr) (a:Act) (w:World) (K:Act→World→Prop) (Q:Exit→Act→World→Prop),Le (looks o) F F2→Rel w0 G F2 a w→Free G F.next (F.next+A.n) →
  (∀G' v w',Rel w0 G' (F2.plus A) a w'→xcy G' w' tv v→Apart G G' F.next (F.next+A.n)→K (a.put o.dst v) w')→o.wp P a w K Q
theorem Fr.plus_none (F:Fr):F.plus .none=F:=by cases F;rfl
section
variable {P : Program} {T : Tab} {o : Oper} {F : Fr}
theorem xay {tv:TV} (h:∀(w0:Base) (G:Gh) (F2:Fr) (a:Act) (w:World),Le (looks o) F F2→Rel w0 G F2 a w→∃v,(execOp a.eval o).run P w=.ok (.value v) w∧xcy G w tv v):Yields P o F .none tv:=by
 intro w0 G F2 a w K Q hL hR _ hK
 obtain ⟨v,h1,h2⟩:=h w0 G F2 a w hL hR
 exact xbv h1 (hK G v w (by rw [Fr.plus_none];exact hR) h2 (Apart.refl _ _ _))
theorem xaF {F2:Fr} {t:TypeId} {x:Operand} {v:TV} {X:Tmp→Prop} (hL:Le X F F2) (hx:∀t,x=.tmp t→X t) (h:opnd T F t x=some v):opnd T F2 t x=some v:=by
 cases x with
 | tmp n=>exact hL.tmps n v (hx n rfl) h
 | _=>exact h
theorem xf3 {F2:Fr} {X:Tmp→Prop} (hL:Le X F F2) {c:Cell} {p:PV} (h:xa5 F c=some p):xa5 F2 c=some p:=by
 cases c<;>simp only [xa5] at h ⊢<;>try exact h
 rename_i id
 split at h
 ·rename_i r hr;rw [hL.rows _ _ hr];exact h
 ·cases h
theorem xgy {F2:Fr} {X:Tmp→Prop} (hL:Le X F F2):∀{cs:List Cell} {ps:List PV},xaI F cs=some ps→xaI F2 cs=some ps
 | [],_,h=>h
 | c::cs,ps,h=>by
  simp only [xaI] at h ⊢
  split at h
  ·rename_i p q h1 h2;rw [xf3 hL h1,xgy hL h2];exact h
  ·cases h
variable {w0 : Base} {G : Gh} {a : Act} {w : World}
theorem xde (hR:Rel w0 G F a w) {c:Cell} {p:PV} {v:Value} (h:xa5 F c=some p) (hv:xdb G w c v):xbp (fun x=>x<w.heap.size) w [p] [v]:=by
 cases c<;>simp only [xa5] at h
 case pv q=>injection h with h;subst h;obtain ⟨N,h1,h2⟩:=hv;exact ⟨N,h1,h1.bound⟩
 case nil e sz=>injection h with h;subst h;have:v=.slice none 0 0:=hv;subst this;exact ⟨[],.lnil .nil,by simp⟩
 case kb b=>injection h with h;subst h;have:v=.bool b:=hv;subst this;exact ⟨[],.bool .nil,by simp⟩
 case own id =>
  split at h
  ·rename_i r hr
   injection h with h
   subst h
   have:=hR.rows id r v hr hv
   unfold xbk at this
   split at this
   ·obtain ⟨N,h1,h2⟩:=this;exact ⟨N,h1,h1.bound⟩
   ·obtain ⟨hs,rows,xs,N,he,hl,hvv,hown,_,_⟩:=this
    rw [he]
    rcases hown.2 with ⟨rfl,h0⟩ | ⟨g,cap,cur,rfl,_,hh,hn,hm,hc,htk⟩
    ·have:rows=[]:=List.eq_nil_of_length_eq_zero h0
     subst this
     exact ⟨[],.lnil .nil,by simp⟩
    ·by_cases h0:rows=[]
     ·subst h0;exact ⟨[],.lnil .nil,by simp⟩
     ·have hrep:xak w [PV.list r.sz rows] [.slice (some ⟨g,0,none⟩) rows.length cap] (g::(N++[])):=by
       refine .list hs h0 hl hn (fun j u hu=>?_) hvv .nil
       have hlt:j<rows.length*r.sz:=by
        have:=hown.1
        rcases Nat.lt_or_ge j xs.length with h' | h'
        ·omega
        ·simp [List.getElem?_eq_none h'] at hu
       rw [Nat.zero_add,hown.cellAt j hlt]
       exact hu
      exact ⟨_,hrep,hrep.bound⟩
  ·cases h
 all_goals cases h
theorem xfA (hR:Rel w0 G F a w):∀{cs:List Cell} {ps:List PV} {vs:List Value},xaI F cs=some ps→xaN G w cs vs→xbp (fun x=>x<w.heap.size) w ps vs
 | [],ps,vs,h,hv=>by simp only [xaI] at h;injection h with h;subst h;have:vs=[]:=hv;subst this;exact ⟨[],.nil,by simp⟩
 | c::cs,ps,vs,h,⟨v,r,e,h1,h2⟩=>by
  simp only [xaI] at h
  split at h
  ·rename_i p q e1 e2
   injection h with h
   subst h
   subst e
   obtain ⟨N1,k1,k2⟩:=xde hR e1 h1
   obtain ⟨N2,m1,m2⟩:=xfA hR e2 h2
   exact ⟨_,k1.cons m1,fun x hx=>by rcases List.mem_append.1 hx with hx | hx;exact k2 x hx;exact m2 x hx⟩
  ·cases h
theorem xaR {c:Cell} {p:PV} {v:Value} (h:xbR c=some p) (hv:xdb G w c v):xbp G.S w [p] [v]:=by
 cases c<;>simp only [xbR] at h
 case pv q=>injection h with h;subst h;exact hv
 case kb b=>injection h with h;subst h;have:v=.bool b:=hv;subst this;exact ⟨[],.bool .nil,by simp⟩
 all_goals cases h
theorem xbp.int_inv {S:Nat→Prop} {k:IntKind} {n:Int} {v:Value} (h:xbp S w [.int k n] [v]):v=.int k n:=by
 obtain ⟨N,h,_⟩:=h;cases h;rfl
theorem xbp.bool_inv {S:Nat→Prop} {b:Bool} {v:Value} (h:xbp S w [.bool b] [v]):v=.bool b:=by
 obtain ⟨N,h,_⟩:=h;cases h;rfl
theorem xbp.str_inv {S:Nat→Prop} {s:ByteArray} {v:Value} (h:xbp S w [.str s] [v]):v=.string s:=by
 obtain ⟨N,h,_⟩:=h;cases h;rfl
theorem xbp.list_len {S:Nat→Prop} {sz:Nat} {rows:List (List PV)} {v:Value} (h:xbp S w [.list sz rows] [v]):∃ad cap,v=.slice ad rows.length cap:=by
 obtain ⟨N,h,_⟩:=h
 cases h
 ·exact ⟨_,_,rfl⟩
 ·exact ⟨_,_,rfl⟩
theorem xbp.int {S:Nat→Prop} {k:IntKind} {n:Int}:xbp S w [.int k n] [.int k n]:=⟨[],.int .nil,by simp⟩
theorem xbp.bool {S:Nat→Prop} {b:Bool}:xbp S w [.bool b] [.bool b]:=⟨[],.bool .nil,by simp⟩
theorem xbp.str {S:Nat→Prop} {s:ByteArray}:xbp S w [.str s] [.string s]:=⟨[],.str .nil,by simp⟩
end
end Go.Ev
/- Each operation that only adds, against the model. -/
namespace Go.Ev
open Go.RowKit
section
variable {P : Program} {T : Tab} {o : Oper} {F : Fr} {w0 : Base} {G : Gh} {a : Act} {w : World}
theorem xse {x:Operand} {tv:TV} (hop:o.op=.move x∨o.op=.assign x) (e:opnd T F o.type x=some tv):Yields P o F .none tv:=by
 refine xay fun w0 G F2 a w hL hR=>⟨a.eval x,?_,hR.eval T o.type x tv (xaF hL (fun t ht=>?_) e)⟩
 ·rcases hop with h | h<;>simp [execOp,h]
 ·rcases hop with h | h<;>simp [looks,h,Op.operands,ht]
theorem xmj {c x y:Operand} {tv:TV} {cc:Cell} {b:Bool} (hop:o.op=.pick c x y) (ec:opnd T F 0 c=some (.one cc)) (hc:xbR cc=some (.bool b)) (e:opnd T F o.type (if b then x else y)=some tv):Yields P o F .none tv:=by
 refine xay fun w0 G F2 a w hL hR=>⟨a.eval (if b then x else y),?_,hR.eval T o.type _ tv (xaF hL (fun t ht=>?_) e)⟩
 ·have h1:xdb G w cc (a.eval c):=hR.eval T 0 c _ (xaF hL (fun t ht=>by simp [looks,hop,Op.operands,ht]) ec)
  have h2:=(xaR hc h1).bool_inv
  cases b<;>simp [execOp,hop,h2,asBool]
 ·cases b<;>simp [looks,hop,Op.operands] at ht ⊢<;>simp [ht]
theorem xca (op:BinOp) (t:TypeId) (x y:Operand) (k k':IntKind) (m n:Int) (w:World):(eqGuard op t x y (.int k m) (.int k' n)).run P w=.ok () w:=by
 unfold eqGuard;split<;>simp
theorem xh9 (op:BinOp) (t:TypeId) (x y:Operand) (a b:ByteArray) (w:World):(eqGuard op t x y (.string a) (.string b)).run P w=.ok () w:=by
 unfold eqGuard;split<;>simp
theorem xk6 (op:BinOp) (t:TypeId) (x y:Operand) (a b:Bool) (w:World):(eqGuard op t x y (.bool a) (.bool b)).run P w=.ok () w:=by
 unfold eqGuard;split<;>simp
theorem xm9 {op:BinOp} {p q:PV} {k:PV→Prop} (h:xac op p q k):∃r,k r∧∀(S:Nat→Prop) (w:World) (v u:Value) (t:TypeId) (x y:Operand),xbp S w [p] [v]→xbp S w [q] [u] →
 ∃z,((do eqGuard op t x y v u;binOp op t v u):Sem Value).run P w=.ok z w∧∀S' w',xbp S' w' [r] [z]:=by
 unfold xac at h
 split at h
 ·split at h
  ·rename_i hk
   subst hk
   split at h<;>first
    | exact ⟨_,h,fun S w v u t x y hv hu=>by have e1:=hv.int_inv;have e2:=hu.int_inv;subst e1;subst e2;exact ⟨_,by simp [xca,binOp,Op.intArith,Op.intBits],fun _ _=>xbp.int⟩⟩
    | exact ⟨_,h.2,fun S w v u t x y hv hu=>by have e1:=hv.int_inv;have e2:=hu.int_inv;subst e1;subst e2;exact ⟨_,by simp [xca,binOp,Op.intDiv,h.1],fun _ _=>xbp.int⟩⟩
    | exact ⟨_,h,fun S w v u t x y hv hu=>by have e1:=hv.int_inv;have e2:=hu.int_inv;subst e1;subst e2;exact ⟨_,by simp [xca,binOp,Op.intCmp],fun _ _=>xbp.bool⟩⟩
    | exact h.elim
  ·exact h.elim
 ·rename_i s1 s2
  split at h<;>first
   | exact h.elim
   | exact ⟨_,h,fun S w v u t x y hv hu=>by have e1:=hv.str_inv;have e2:=hu.str_inv;subst e1;subst e2;exact ⟨_,by simp [xh9,binOp,Op.stringOp],fun _ _=>xbp.bool⟩⟩
   | skip
  refine ⟨_,h.2,fun S w v u t x y hv hu=>?_⟩
  have e1:=hv.str_inv
  have e2:=hu.str_inv
  subst e1;subst e2
  refine ⟨_,?_,fun _ _=>xbp.str⟩
  have h1:=h.1
  have hmx:IntKind.i64.max=9223372036854775807:=by decide
  have hm:¬((9223372036854775807:Int)<(s1.size:Int)+(s2.size:Int)):=by omega
  simp [xh9,binOp,Op.stringOp,hmx,hm]
 ·exact h.elim
theorem xnE {t:TypeId} (ht:P.underlying t=some .bool) (a b:Bool) (w:World):(Op.equal t (.bool a) (.bool b)).run P w=.ok (a==b) w:=by
 have e:Op.equal t (.bool a) (.bool b)=Op.equalIn (9999+1) t (.bool a) (.bool b):=rfl
 rw [e,Op.equalIn]
 simp only [Sem.run_bind,run_underlying ht,Result.andThen_ok,Sem.run_pure]
theorem xiL (t:TypeId) (a b:Bool):binOp .eql t (.bool a) (.bool b)=(do pure (.bool (←Op.equal t (.bool a) (.bool b))):Sem Value):=rfl
theorem xiK (t:TypeId) (a b:Bool):binOp .neq t (.bool a) (.bool b)=(do pure (.bool (!(←Op.equal t (.bool a) (.bool b)))):Sem Value):=rfl
theorem xpk {op:BinOp} {p q:PV} {k:PV→Prop} {t:TypeId} (ht:P.underlying t=some .bool) (h:xen op p q k):∃r,k r∧∀(S:Nat→Prop) (w:World) (v u:Value) (x y:Operand),xbp S w [p] [v]→xbp S w [q] [u] →
 ∃z,((do eqGuard op t x y v u;binOp op t v u):Sem Value).run P w=.ok z w∧∀S' w',xbp S' w' [r] [z]:=by
 unfold xen at h
 split at h
 ·split at h<;>first
   | exact ⟨_,h,fun S w v u x y hv hu=>by have e1:=hv.bool_inv;have e2:=hu.bool_inv;subst e1;subst e2;exact ⟨_,by simp only [Sem.run_bind,xk6,Result.andThen_ok,xiL,xiK,xnE ht,Sem.run_pure],fun _ _=>xbp.bool⟩⟩
   | exact h.elim
 ·exact h.elim
theorem xrk {op:BinOp} {t t':TypeId} {x y:Operand} {cx cy:Cell} {p q r:PV} (hop:o.op=.binOp op t x y t') (ex:opnd T F 0 x=some (.one cx)) (ey:opnd T F 0 y=some (.one cy)) (hp:xbR cx=some p) (hq:xbR cy=some q)
 (hr:∀(S:Nat→Prop) (w:World) (v u:Value) (x y:Operand),xbp S w [p] [v]→xbp S w [q] [u]→∃z,((do eqGuard op t x y v u;binOp op t v u):Sem Value).run P w=.ok z w∧∀S' w',xbp S' w' [r] [z]):Yields P o F .none (.one (.pv r)):=by
 refine xay fun w0 G F2 a w hL hR=>?_
 have h1:=xaR hp (hR.eval T 0 x _ (xaF hL (fun t ht=>by simp [looks,hop,Op.operands,ht]) ex))
 have h2:=xaR hq (hR.eval T 0 y _ (xaF hL (fun t ht=>by simp [looks,hop,Op.operands,ht]) ey))
 obtain ⟨z,h3,h4⟩:=hr _ _ _ _ x y h1 h2
 exact ⟨z,by simp only [execOp,hop];rw [Sem.run_bind,h3];rfl,h4 _ _⟩
theorem xuP {op:UnOp} {t:TypeId} {x:Operand} {cx:Cell} {p r:PV} (hop:o.op=.unOp op t x) (ex:opnd T F 0 x=some (.one cx)) (hp:xbR cx=some p) (hr:∀k:PV→Prop,(k r→unP op p k)) (hr':unP op p (·=r)):Yields P o F .none (.one (.pv r)):=by
 refine xay fun w0 G F2 a w hL hR=>?_
 have h1:=xaR hp (hR.eval T 0 x _ (xaF hL (fun t ht=>by simp [looks,hop,Op.operands,ht]) ex))
 unfold unP at hr'
 split at hr'
 ·subst hr'
  have e:=h1.bool_inv
  exact ⟨_,by simp [execOp,hop,e,Op.unary],xbp.bool⟩
 ·subst hr'
  have e:=h1.int_inv
  exact ⟨_,by simp [execOp,hop,e,Op.unary,Op.intArith],xbp.int⟩
 ·exact hr'.elim
theorem xsi {s d:TypeId} {x:Operand} {cx:Cell} {p:PV} {kd:IntKind} {n:Int} {k0:IntKind} (hT:xaz P T) (hop:o.op=.convert s d x) (ex:opnd T F 0 x=some (.one cx)) (hp:xbR cx=some (.int k0 n)) {i j:TI} (hi:lk T.ti d=some i) (hj:lk T.ti s=some j) (hk:i.ik=some kd) :
 Yields P o F .none (.one (.pv (.int kd (kd.wrap n)))):=by
 refine xay fun w0 G F2 a w hL hR=>?_
 have h1:=(xaR hp (hR.eval T 0 x _ (xaF hL (fun t ht=>by simp [looks,hop,Op.operands,ht]) ex))).int_inv
 have hd:=(hT.ty d i hi).ik kd hk
 obtain ⟨inf,hinf,_⟩:=(hT.ty s j hj).info
 have hs:∃ds,P.underlying s=some ds:=by
  cases ha:j.agg with
  | true=>obtain ⟨fs,h,_⟩:=(hT.ty s j hj).agg ha;exact ⟨_,h⟩
  | false=>obtain ⟨ds,h,_⟩:=(hT.ty s j hj).one ha;exact ⟨_,h⟩
 obtain ⟨ds,hds⟩:=hs
 exact ⟨_,by simp [execOp,hop,convert,run_underlying hds,run_underlying hd,h1,Conv.intToInt],xbp.int⟩
theorem xnU {s d:TypeId} {x:Operand} {cx:Cell} {p:PV} (hT:xaz P T) (hop:o.op=.convert s d x) (ex:opnd T F 0 x=some (.one cx)) {b:ByteArray} (hp:xbR cx=some (.str b)) {i j:TI} (hi:lk T.ti d=some i) (hj:lk T.ti s=some j) (hk:i.tag=1) (hk':j.tag=1) :
 Yields P o F .none (.one (.pv (.str b))):=by
 refine xay fun w0 G F2 a w hL hR=>?_
 have h1:=(xaR hp (hR.eval T 0 x _ (xaF hL (fun t ht=>by simp [looks,hop,Op.operands,ht]) ex))).str_inv
 have hd:=(hT.ty d i hi).tag1 hk
 have hs:=(hT.ty s j hj).tag1 hk'
 exact ⟨_,by simp [execOp,hop,convert,run_underlying hs,run_underlying hd,h1],xbp.str⟩
theorem xqJ {t:TypeId} {x i:Operand} {cx ci:Cell} {s:ByteArray} {kn:IntKind} {n:Int} {b:UInt8} (hT:xaz P T) {ti:TI} (ht:lk T.ti t=some ti) (htag:ti.tag=1) (hop:o.op=.index t x i) (ex:opnd T F 0 x=some (.one cx)) (ei:opnd T F 0 i=some (.one ci)) (hp:xbR cx=some (.str s)) (hq:xbR ci=some (.int kn n)) (h0:0≤n) (hb:s[n.toNat]? = some b) :
 Yields P o F .none (.one (.pv (.int .u8 b.toNat))):=by
 refine xay fun w0 G F2 a w hL hR=>?_
 have h1:=(xaR hp (hR.eval T 0 x _ (xaF hL (fun t ht=>by simp [looks,hop,Op.operands,ht]) ex))).str_inv
 have h2:=(xaR hq (hR.eval T 0 i _ (xaF hL (fun t ht=>by simp [looks,hop,Op.operands,ht]) ei))).int_inv
 have hd:=(hT.ty t ti ht).tag1 htag
 exact ⟨_,by simp [execOp,hop,Instr.index,asIntOf,h1,h2,run_underlying hd,h0,hb],xbp.int⟩
theorem xnT {x:Operand} {n:Nat} {vs:List TV} {tv:TV} (hop:o.op=.extract x n) (ex:opnd T F 0 x=some (.tup vs)) (hv:vs[n]? = some tv):Yields P o F .none tv:=by
 refine xay fun w0 G F2 a w hL hR=>?_
 obtain ⟨us,h1,h2⟩:=hR.eval T 0 x _ (xaF hL (fun t ht=>by simp [looks,hop,Op.operands,ht]) ex)
 have key:∀(ts:List TV) (us:List Value) (n:Nat),xcy.RepTs G w ts us→ts[n]? = some tv→∃u,us[n]? = some u∧xcy G w tv u:=by
  intro ts
  induction ts with
  | nil=>intro us n _ h;simp at h
  | cons t ts ih =>
   intro us n h hn
   obtain ⟨v,r,rfl,k1,k2⟩:=h
   cases n with
   | zero=>simp at hn;subst hn;exact ⟨v,rfl,k1⟩
   | succ n=>obtain ⟨u,m1,m2⟩:=ih r n k2 (by simpa using hn);exact ⟨u,by simpa using m1,m2⟩
 obtain ⟨u,h3,h4⟩:=key vs us n h2 hv
 exact ⟨u,by simp [execOp,hop,h1,Instr.extract,h3],h4⟩
theorem xe9 {t:TypeId} {i:TI} (hT:xeN P T t i) (b off:Nat) (f:Field) (hf:f.type=t) (w:World):(fieldPlace ⟨b,off,none⟩ f).run P w=.ok ⟨b,off+f.offset,none⟩ w:=by
 have:=hT.size
 subst hf
 simp [fieldPlace,xa3 hT,xeL,Nat.pos_iff_ne_zero.1 this]
theorem xj2 {t:TypeId} {ti:TI} (h:xeN P T t ti) {i:Nat} {f:Nat×TypeId} (ha:ti.agg=true) (hf:ti.flds[i]? = some f):∃fs fd,P.underlying t=some (.struct fs)∧fs[i]? = some fd∧fd.offset=f.1∧fd.type=f.2:=by
 obtain ⟨fs,h1,h2⟩:=h.agg ha
 rw [←h2,List.getElem?_map] at hf
 obtain ⟨fd,h3,h4⟩:=Option.map_eq_some_iff.1 hf
 exact ⟨fs,fd,h1,by simpa using h3,by rw [←h4],by rw [←h4]⟩
theorem xg3 {t:TypeId} (h:T.sz t≠0):∃i,lk T.ti t=some i:=by
 unfold Tab.sz at h
 split at h
 ·exact ⟨_,by assumption⟩
 ·exact absurd rfl h
theorem xeM {s:TypeId} {x:Operand} {i:Nat} {ti:TI} {f:Nat×TypeId} (hT:xaz P T) (hs:lk T.ti s=some ti) (ha:ti.agg=true) (hf:ti.flds[i]? = some f) (h0:T.sz f.2≠0) {c c':Cell}
 (hop:o.op=.fieldAddr s x i) (ex:opnd T F 0 x=some (.one c))
 (hc:∀(G:Gh) (w:World) (v:Value),xdb G w c v→∃b off,v=.pointer (some ⟨b,off,none⟩)∧xdb G w c' (.pointer (some ⟨b,off+f.1,none⟩))):Yields P o F .none (.one c'):=by
 refine xay fun w0 G F2 a w hL hR=>?_
 obtain ⟨b,off,h1,h2⟩:=hc G w _ (hR.eval T 0 x _ (xaF hL (fun t ht=>by simp [looks,hop,Op.operands,ht]) ex))
 obtain ⟨fs,fd,h3,h4,h5,h6⟩:=xj2 (hT.ty s ti hs) ha hf
 obtain ⟨fi,hfi⟩:=xg3 h0
 have h7:=xe9 (hT.ty _ _ hfi) b off fd h6 w
 refine ⟨_,?_,h2⟩
 simp [execOp,hop,Instr.fieldAt,run_underlying h3,h4,h1,Instr.sureAddr,h7,h5]
theorem xak.take {ps:List PV} {vs:List Value} {N:List Nat} (n:Nat) (h:xak w ps vs N):∃N',xak w (ps.take n) (vs.take n) N'∧∀x∈N',x∈N:=by
 have e:ps=ps.take n++ps.drop n:=(List.take_append_drop n ps).symm
 rw [e] at h
 obtain ⟨v1,v2,N1,N2,rfl,rfl,h1,h2⟩:=xak.split _ _ h
 have hl:=h1.len
 have hl2:=h2.len
 refine ⟨N1,?_,fun x hx=>by simp [hx]⟩
 by_cases hn:n≤ps.length
 ·have:v1.length=n:=by rw [←hl,List.length_take];omega
  rw [←this,List.take_left]
  exact (by rw [this];exact h1)
 ·have hd:ps.drop n=[]:=List.drop_eq_nil_of_le (by omega)
  rw [hd] at hl2
  have:v2=[]:=List.eq_nil_of_length_eq_zero (by simpa using hl2.symm)
  subst this
  have:(v1++[]).take n=v1:=by
   rw [List.append_nil];apply List.take_of_length_le;rw [←hl,List.length_take];omega
  rw [this];exact h1
theorem xak.drop {ps:List PV} {vs:List Value} {N:List Nat} (n:Nat) (h:xak w ps vs N):∃N',xak w (ps.drop n) (vs.drop n) N'∧∀x∈N',x∈N:=by
 by_cases hn:n≤ps.length
 ·have e:ps=ps.take n++ps.drop n:=(List.take_append_drop n ps).symm
  rw [e] at h
  obtain ⟨v1,v2,N1,N2,rfl,rfl,h1,h2⟩:=xak.split _ _ h
  have hl:=h1.len
  have:v1.length=n:=by rw [←hl,List.length_take];omega
  refine ⟨N2,?_,fun x hx=>by simp [hx]⟩
  rw [←this,List.drop_left]
  rw [this];exact h2
 ·have hl:=h.len
  rw [List.drop_eq_nil_of_le (by omega),List.drop_eq_nil_of_le (by omega)]
  exact ⟨[],.nil,by simp⟩
theorem AtS.drop {S:Nat→Prop} {b off:Nat} {cells:List PV} (n:Nat) (h:AtS S w b off cells):AtS S w b (off+n) (cells.drop n):=by
 obtain ⟨xs,N,hc,h1,h2,hb⟩:=h
 obtain ⟨N',h3,h4⟩:=h1.drop n
 refine ⟨xs.drop n,N',fun j u hu=>?_,h3,fun x hx=>h2 x (h4 x hx),hb⟩
 rw [List.getElem?_drop] at hu
 have:=hc _ _ hu
 rwa [←Nat.add_assoc] at this
theorem xml {s:TypeId} {x:Operand} {i:Nat} {ti:TI} {f:Nat×TypeId} (hT:xaz P T) (hs:lk T.ti s=some ti) (ha:ti.agg=true) (hf:ti.flds[i]? = some f) (h0:T.sz f.2≠0) {b off:Nat} (hop:o.op=.fieldAddr s x i) (ex:opnd T F 0 x=some (.one (.ptr b off))):Yields P o F .none (.one (.ptr b (off+f.1))) :=
 xeM hT hs ha hf h0 hop ex fun G w v ⟨g,h1,h2⟩=>⟨g,off,h2,g,h1,rfl⟩
theorem xlx {s:TypeId} {x:Operand} {i:Nat} {ti:TI} {f:Nat×TypeId} (hT:xaz P T) (hs:lk T.ti s=some ti) (ha:ti.agg=true) (hf:ti.flds[i]? = some f) (h0:T.sz f.2≠0) {cs:List PV} (hop:o.op=.fieldAddr s x i) (ex:opnd T F 0 x=some (.one (.sptr cs))):Yields P o F .none (.one (.sptr (cs.drop f.1))) :=
 xeM hT hs ha hf h0 hop ex fun G w v ⟨g,off,h1,h2⟩=>⟨g,off,h1,g,_,rfl,h2.drop f.1⟩
theorem xly {s:TypeId} {x:Operand} {i:Nat} {ti:TI} {f:Nat×TypeId} (hT:xaz P T) (hs:lk T.ti s=some ti) (ha:ti.agg=true) (hf:ti.flds[i]? = some f) (h0:T.sz f.2≠0) {id sz j off:Nat} (hop:o.op=.fieldAddr s x i) (ex:opnd T F 0 x=some (.one (.optr id sz j off))):Yields P o F .none (.one (.optr id sz j (off+f.1))) :=
 xeM hT hs ha hf h0 hop ex fun G w v ⟨g,n,cap,h1,h2⟩=>⟨g,_,h2,g,n,cap,h1,by rw [Nat.add_assoc]⟩
theorem xne {s:TypeId} {x:Operand} {i:Nat} {ti fi:TI} {f:Nat×TypeId} {cs:List Cell} {tv:TV} (hT:xaz P T) (hs:lk T.ti s=some ti) (ha:ti.agg=true) (hf:ti.flds[i]? = some f) (hfi:lk T.ti f.2=some fi) (hop:o.op=.field s x i) (ex:opnd T F 0 x=some (.agg cs))
 (htv:if fi.agg=true then f.1+fi.size≤cs.length∧tv=.agg ((cs.drop f.1).take fi.size) else ∃c,cs[f.1]? = some c∧tv=.one c):Yields P o F .none tv:=by
 refine xay fun w0 G F2 a w hL hR=>?_
 obtain ⟨vs,h1,h2⟩:=hR.eval T 0 x _ (xaF hL (fun t ht=>by simp [looks,hop,Op.operands,ht]) ex)
 obtain ⟨fs,fd,h3,h4,h5,h6⟩:=xj2 (hT.ty s ti hs) ha hf
 have hty:=hT.ty _ _ hfi
 rw [←h6] at hty
 cases hg:fi.agg with
 | true =>
  rw [hg,if_pos rfl] at htv
  obtain ⟨hle,rfl⟩:=htv
  refine ⟨.agg ((vs.drop f.1).take fi.size).toArray,?_,_,rfl,(h2.drop f.1).take fi.size⟩
  simp [execOp,hop,Instr.field,run_underlying h3,h4,h1,asAgg,part,xe8 hty hg,xa3 hty,h5]
 | false =>
  rw [hg,if_neg (by simp)] at htv
  obtain ⟨c,hc,rfl⟩:=htv
  obtain ⟨u,h7,h8⟩:=h2.at_ hc
  refine ⟨u,?_,h8⟩
  simp [execOp,hop,Instr.field,run_underlying h3,h4,h1,asAgg,part,xeu hty hg,h5,h7]
theorem xeX:∀(n:Nat) (r:List PV) (off:Nat),off+n≤r.length→xbU r off n=(r.drop off).take n
 | 0,r,off,_=>by simp [xbU]
 | n+1,r,off,h=>by
  have hlt:off<r.length:=by omega
  rw [xbU,xeX n r (off+1) (by omega),List.drop_eq_getElem_cons hlt,List.take_succ_cons]
  congr 1
  simp [atP,List.getD,List.getElem?_eq_getElem hlt]
theorem xmd (r:List PV):xbU r 0 r.length=r:=by
 rw [xeX _ _ _ (by omega)]
 simp
theorem xo6 {S:Nat→Prop} {sz:Nat} {rows:List (List PV)} {v:Value} (h:xbp S w [.list sz rows] [v]) {i:Nat} {r:List PV} (hr:rows[i]? = some r) :
 0<sz∧r.length=sz∧i<rows.length∧∃b off cap,v=.slice (some ⟨b,off,none⟩) rows.length cap∧AtS S w b (off+i*sz) r:=by
 obtain ⟨N,h,hS⟩:=h
 have hi:i<rows.length:=by
  rcases Nat.lt_or_ge i rows.length with h' | h'
  ·exact h'
  ·simp [List.getElem?_eq_none h'] at hr
 cases h with
 | lnil _=>simp at hi
 | @list _ _ b off cap xs N1 _ _ N2 hs h0 hl hc cells hv hn =>
  obtain ⟨e1,e2⟩:=xeU hl hr
  have hlr:r.length=sz:=hl r (List.mem_of_getElem? hr)
  rw [e1] at hv
  obtain ⟨v1,v2,M1,M2,rfl,rfl,k1,k2⟩:=xak.split _ _ hv
  obtain ⟨v3,v4,M3,M4,rfl,rfl,k3,k4⟩:=xak.split _ _ k2
  have l1:=k1.len
  have l3:=k3.len
  refine ⟨hs,hlr,hi,b,off,cap,rfl,v3,M3,fun j u hu=>?_,k3,fun x hx=>hS x (by simp [hx]),hS b (by simp)⟩
  have hj:j<v3.length:=by
   rcases Nat.lt_or_ge j v3.length with h' | h'
   ·exact h'
   ·simp [List.getElem?_eq_none h'] at hu
  have:=cells (i*sz+j) u (by
   rw [List.getElem?_append_right (by omega),List.getElem?_append_left (by omega)]
   rw [show i*sz+j-v1.length=j by omega]
   exact hu)
  rwa [←Nat.add_assoc] at this
theorem xlw {t:TypeId} {x i:Operand} {cx ci:Cell} {p:PV} {rows:List (List PV)} {kn:IntKind} {n:Int} {r:List PV} (hT:xaz P T) (hop:o.op=.indexAddr t x i) (ex:opnd T F 0 x=some (.one cx)) (ei:opnd T F 0 i=some (.one ci))
 (hx:∀(w0:Base) (G:Gh) (F2:Fr) (a:Act) (w:World),Le (looks o) F F2→Rel w0 G F2 a w→∀v,xdb G w cx v→xbp G.S w [.list (T.esz t) rows] [v]) (hq:xbR ci=some (.int kn n)) (h0:0≤n) (hr:rows[n.toNat]? = some r) :
 Yields P o F .none (.one (.sptr (xbU r 0 (T.esz t)))):=by
 refine xay fun w0 G F2 a w hL hR=>?_
 have h1:=hx w0 G F2 a w hL hR _ (hR.eval T 0 x _ (xaF hL (fun t ht=>by simp [looks,hop,Op.operands,ht]) ex))
 have h2:=(xaR hq (hR.eval T 0 i _ (xaF hL (fun t ht=>by simp [looks,hop,Op.operands,ht]) ei))).int_inv
 obtain ⟨hs,hl,hi,b,off,cap,hv,hat⟩:=xo6 h1 hr
 obtain ⟨ti,tj,e1,e2,e3,e4⟩:=hT.esz hs
 have hlt:n<(rows.length:Int):=by omega
 refine ⟨.pointer (some ⟨b,off+n.toNat*T.esz t,none⟩),?_,b,_,rfl,?_⟩
 ·simp [execOp,hop,Instr.indexAt,h2,asIntOf,run_underlying e4,hv,h0,hlt,xa3 (hT.ty _ _ e2),e3,xeL]
 ·rw [←hl,xmd];rw [hl];exact hat
theorem xpv {t:TypeId} {x i:Operand} {id:Nat} {row:Row} {ci:Cell} {rows:List (List PV)} {kn:IntKind} {n:Int} (hT:xaz P T) (hop:o.op=.indexAddr t x i) (ex:opnd T F 0 x=some (.one (.own id))) (ei:opnd T F 0 i=some (.one ci))
 (hrow:lk F.rows id=some row) (hk:row.kind≠.shared) (hsz:row.sz=T.esz t) (he:row.e=.list row.sz rows) (hq:xbR ci=some (.int kn n)) (h0:0≤n) (hr:n.toNat<rows.length) :
 Yields P o F .none (.one (.optr id row.sz n.toNat 0)):=by
 refine xay fun w0 G F2 a w hL hR=>?_
 have h1:G.row id=some (a.eval x):=hR.eval T 0 x _ (xaF hL (fun t ht=>by simp [looks,hop,Op.operands,ht]) ex)
 have h2:=(xaR hq (hR.eval T 0 i _ (xaF hL (fun t ht=>by simp [looks,hop,Op.operands,ht]) ei))).int_inv
 have h3:=hR.rows id row _ (hL.rows _ _ hrow) h1
 unfold xbk at h3
 split at h3
 ·rename_i e;exact absurd e hk
 ·obtain ⟨hs,rows',xs,N,he',hl,hvv,hown,_,_⟩:=h3
  rw [he] at he'
  injection he' with _ he'
  subst he'
  rcases hown.2 with ⟨_,hn0⟩ | ⟨g,cap,cur,hv,_⟩
  ·omega
  ·rw [hsz] at hs
   obtain ⟨ti,tj,e1,e2,e3,e4⟩:=hT.esz hs
   have hlt:n<(rows.length:Int):=by omega
   refine ⟨.pointer (some ⟨g,n.toNat*row.sz+0,none⟩),?_,g,_,cap,by rw [h1,hv],rfl⟩
   simp [execOp,hop,Instr.indexAt,h2,asIntOf,run_underlying e4,hv,h0,hlt,xa3 (hT.ty _ _ e2),e3,xeL,hsz]
theorem xjw {t:TypeId} {x:Operand} {i:TI} {b off:Nat} {cs:List Cell} {tv:TV} (hT:xaz P T) (hi:lk T.ti t=some i) (hop:o.op=.load t x) (ex:opnd T F 0 x=some (.one (.ptr b off))) (hb:lk F.boxes b=some cs)
 (htv:if i.agg=true then off+i.size≤cs.length∧tv=.agg ((cs.drop off).take i.size) else ∃c,cs[off]? = some c∧tv=.one c):Yields P o F .none tv:=by
 refine xay fun w0 G F2 a w hL hR=>?_
 obtain ⟨g,h1,h2⟩:=hR.eval T 0 x _ (xaF hL (fun t ht=>by simp [looks,hop,Op.operands,ht]) ex)
 obtain ⟨_,vs,e,hh,hc⟩:=hR.boxes b cs g (hL.boxes _ _ hb) h1
 have cell:∀j u,vs[j]? = some u→w.cell? ⟨g,j,none⟩=some u:=fun j u hu=>by rw [cell_of_row w g j _ e (0,0) hh];simpa using hu
 cases hg:i.agg with
 | true =>
  rw [hg,if_pos rfl] at htv
  obtain ⟨hle,rfl⟩:=htv
  have hlen:=hc.len
  refine ⟨.agg ((vs.drop off).take i.size).toArray,?_,_,rfl,(hc.drop off).take i.size⟩
  have:=xb8 (hT.ty t i hi) hg w g off ((vs.drop off).take i.size) (by rw [List.length_take,List.length_drop];omega) (fun j u hu=>cell _ _ (by
   rw [List.getElem?_take] at hu
   split at hu
   ·rwa [List.getElem?_drop] at hu
   ·cases hu))
  simp only [execOp,hop,Instr.loadAt,h2,Instr.sureAddr]
  rw [Sem.run_bind,Sem.run_bind,Sem.run_pure,Result.andThen_ok,this]
  rfl
 | false =>
  rw [hg,if_neg (by simp)] at htv
  obtain ⟨c,hcc,rfl⟩:=htv
  obtain ⟨u,h7,h8⟩:=hc.at_ hcc
  refine ⟨u,?_,h8⟩
  have:=xb7 (hT.ty t i hi) hg w g off u (cell _ _ h7)
  simp only [execOp,hop,Instr.loadAt,h2,Instr.sureAddr]
  rw [Sem.run_bind,Sem.run_bind,Sem.run_pure,Result.andThen_ok,this]
  rfl
theorem xf6 {t:TypeId} {x:Operand} {i:TI} {c:Cell} {cells:List PV} {tv:TV} (hT:xaz P T) (hi:lk T.ti t=some i) (hop:o.op=.load t x) (ex:opnd T F 0 x=some (.one c))
 (hc:∀(w0:Base) (G:Gh) (F2:Fr) (a:Act) (w:World),Le (looks o) F F2→Rel w0 G F2 a w→∀v,xdb G w c v→∃b off xs N,v=.pointer (some ⟨b,off,none⟩)∧(∀j u,xs[j]? = some u→w.cell? ⟨b,off+j,none⟩=some u)∧xak w cells xs N∧∀x∈N,G.S x)
 (htv:if i.agg=true then i.size=cells.length∧tv=.agg (cells.map .pv) else ∃p,cells=[p]∧tv=.one (.pv p)):Yields P o F .none tv:=by
 refine xay fun w0 G F2 a w hL hR=>?_
 obtain ⟨b,off,xs,N,h1,h2,h3,h4⟩:=hc w0 G F2 a w hL hR _ (hR.eval T 0 x _ (xaF hL (fun t ht=>by simp [looks,hop,Op.operands,ht]) ex))
 cases hg:i.agg with
 | true =>
  rw [hg,if_pos rfl] at htv
  obtain ⟨hle,rfl⟩:=htv
  have:=xb8 (hT.ty t i hi) hg w b off xs (by rw [←h3.len,hle]) h2
  refine ⟨.agg xs.toArray,?_,_,rfl,xaN.of_vals h3 h4⟩
  simp only [execOp,hop,Instr.loadAt,h1,Instr.sureAddr]
  rw [Sem.run_bind,Sem.run_bind,Sem.run_pure,Result.andThen_ok,this]
  rfl
 | false =>
  rw [hg,if_neg (by simp)] at htv
  obtain ⟨p,rfl,rfl⟩:=htv
  have hl:=h3.len
  match xs,hl with
  | [u],_ =>
   have:=xb7 (hT.ty t i hi) hg w b off u (by simpa using h2 0 u rfl)
   refine ⟨u,?_,N,h3,h4⟩
   simp only [execOp,hop,Instr.loadAt,h1,Instr.sureAddr]
   rw [Sem.run_bind,Sem.run_bind,Sem.run_pure,Result.andThen_ok,this]
   rfl
theorem xln {G:Gh} {w:World}:∀{q:List (List PV)} {vs:List Value},xrt G.S w q vs→xbD G w (q.map fun ps=>.ro (.cells ps)) vs
 | [],_,h=>h
 | _::_,_,⟨v,r,e,h1,h2⟩=>⟨v,r,e,h1,xln h2⟩
theorem xqI {t:TypeId} {x:Operand} {f:FuncId} {q:List (List PV)} (hT:xaz P T) (hop:o.op=.load t x) (ex:opnd T F 0 x=some (.one (.sfn f q)))
 (hg:T.fnt.contains t=true):Yields P o F .none (.one (.fn f (q.map fun ps=>.ro (.cells ps)))):=by
 refine xay fun w0 G F2 a w hL hR=>?_
 obtain ⟨b,off,h1,vs,h2,h3,h4⟩:=hR.eval T 0 x _ (xaF hL (fun t ht=>by simp [looks,hop,Op.operands,ht]) ex)
 have:=xiA hT hg w b off _ h2
 refine ⟨.func (.func f) #[] vs.toArray,?_,vs,rfl,xln h3⟩
 simp only [execOp,hop,Instr.loadAt,h1,Instr.sureAddr]
 rw [Sem.run_bind,Sem.run_bind,Sem.run_pure,Result.andThen_ok,this]
 rfl
theorem xnd {t:TypeId} {x:Operand} {i:TI} {cs:List PV} {tv:TV} (hT:xaz P T) (hi:lk T.ti t=some i) (hop:o.op=.load t x) (ex:opnd T F 0 x=some (.one (.sptr cs)))
 (htv:if i.agg=true then i.size≤cs.length∧tv=.agg ((cs.take i.size).map .pv) else ∃p,cs[0]? = some p∧tv=.one (.pv p)):Yields P o F .none tv:=by
 have key:∀n,∀(w0:Base) (G:Gh) (F2:Fr) (a:Act) (w:World),Le (looks o) F F2→Rel w0 G F2 a w→∀v,xdb G w (.sptr cs) v→∃b off xs N,v=.pointer (some ⟨b,off,none⟩)∧(∀j u,xs[j]? = some u→w.cell? ⟨b,off+j,none⟩=some u)∧xak w (cs.take n) xs N∧∀x∈N,G.S x:=by
  intro n w0 G F2 a w hL hR v ⟨b,off,h1,xs,N,h2,h3,h4,_⟩
  obtain ⟨N',h5,h6⟩:=xak.take n h3
  refine ⟨b,off,xs.take n,N',h1,fun j u hu=>h2 j u ?_,h5,fun x hx=>h4 x (h6 x hx)⟩
  rw [List.getElem?_take] at hu
  split at hu
  ·exact hu
  ·cases hu
 cases hg:i.agg with
 | true =>
  rw [hg,if_pos rfl] at htv
  exact xf6 hT hi hop ex (key i.size) (by rw [hg,if_pos rfl];exact ⟨by rw [List.length_take];omega,htv.2⟩)
 | false =>
  rw [hg,if_neg (by simp)] at htv
  obtain ⟨p,hp,rfl⟩:=htv
  refine xf6 hT hi hop ex (key 1) ?_
  rw [hg,if_neg (by simp)]
  refine ⟨p,?_,rfl⟩
  cases cs with
  | nil=>simp at hp
  | cons q cs=>simp at hp;subst hp;rfl
theorem xrj {t:TypeId} {x:Operand} {c:Cell} {p:PV} {n:Int} {aty:TypeId} {i:TI} (hT:xaz P T) (hi:lk T.ti t=some i) (hop:o.op=.call { callee:=.builtin .len,args:=#[x],argTypes:=#[t] }) (ex:opnd T F t x=some (.one c)) (hp:xa5 F c=some p)
 (hn:(∃sz rows,p=.list sz rows∧n=(rows.length:Int)∧i.elem≠0)∨∃s,p=.str s∧n=(s.size:Int)∧i.tag=1):Yields P o F .none (.one (.pv (.int .i64 n))):=by
 refine xay fun w0 G F2 a w hL hR=>?_
 have h1:=xde hR (xf3 hL hp) (hR.eval T t x _ (xaF hL (fun t ht=>by simp [looks,hop,Op.operands,Call.operands,ht]) ex))
 rcases hn with ⟨sz,rows,rfl,rfl,he⟩ | ⟨s,rfl,rfl,he⟩
 ·obtain ⟨ad,cap,h2⟩:=h1.list_len
  exact ⟨_,by simp [execOp,hop,resolve,invoke,builtin,Builtin.len_,run_underlying ((hT.ty t i hi).slice he),h2,goInt],xbp.int⟩
 ·have h2:=h1.str_inv
  exact ⟨_,by simp [execOp,hop,resolve,invoke,builtin,Builtin.len_,run_underlying ((hT.ty t i hi).tag1 he),h2,goInt],xbp.int⟩
theorem xsj {t:TypeId} {x:Operand} {i:TI} {e sz:Nat} (hT:xaz P T) (hi:lk T.ti t=some i) (he:i.elem≠0) (hop:o.op=.call { callee:=.builtin .cap,args:=#[x],argTypes:=#[t] }) (ex:opnd T F t x=some (.one (.nil e sz))):Yields P o F .none (.one (.pv (.int .i64 0))):=by
 refine xay fun w0 G F2 a w hL hR=>?_
 have h1:a.eval x=.slice none 0 0:=hR.eval T t x _ (xaF hL (fun t ht=>by simp [looks,hop,Op.operands,Call.operands,ht]) ex)
 exact ⟨_,by simp [execOp,hop,resolve,invoke,builtin,Builtin.cap_,run_underlying ((hT.ty t i hi).slice he),h1,goInt],xbp.int⟩
theorem xtx {x y:Operand} {cx cy:Cell} {k k':IntKind} {m n:Int} {ts:Array TypeId} (hop:o.op=.call { callee:=.builtin .min,args:=#[x,y],argTypes:=ts }) (ex:opnd T F 0 x=some (.one cx)) (ey:opnd T F 0 y=some (.one cy)) (hp:xbR cx=some (.int k m)) (hq:xbR cy=some (.int k' n)) :
 Yields P o F .none (.one (.pv (.int k (if n<m then n else m)))):=by
 refine xay fun w0 G F2 a w hL hR=>?_
 have h1:=(xaR hp (hR.eval T 0 x _ (xaF hL (fun t ht=>by simp [looks,hop,Op.operands,Call.operands,ht]) ex))).int_inv
 have h2:=(xaR hq (hR.eval T 0 y _ (xaF hL (fun t ht=>by simp [looks,hop,Op.operands,Call.operands,ht]) ey))).int_inv
 exact ⟨_,by simp [execOp,hop,resolve,invoke,builtin,Builtin.min_,Builtin.min2,h1,h2],xbp.int⟩
theorem xty {x y:Operand} {cx cy:Cell} {k k':IntKind} {m n:Int} {ts:Array TypeId} (hop:o.op=.call { callee:=.builtin .max,args:=#[x,y],argTypes:=ts }) (ex:opnd T F 0 x=some (.one cx)) (ey:opnd T F 0 y=some (.one cy)) (hp:xbR cx=some (.int k m)) (hq:xbR cy=some (.int k' n)) :
 Yields P o F .none (.one (.pv (.int k (if m<n then n else m)))):=by
 refine xay fun w0 G F2 a w hL hR=>?_
 have h1:=(xaR hp (hR.eval T 0 x _ (xaF hL (fun t ht=>by simp [looks,hop,Op.operands,Call.operands,ht]) ex))).int_inv
 have h2:=(xaR hq (hR.eval T 0 y _ (xaF hL (fun t ht=>by simp [looks,hop,Op.operands,Call.operands,ht]) ey))).int_inv
 exact ⟨_,by simp [execOp,hop,resolve,invoke,builtin,Builtin.max_,Builtin.max2,h1,h2],xbp.int⟩
end
end Go.Ev
/- What a call owes and gives; new memory. -/
namespace Go.Ev
open Go.RowKit
def xpy (S:Nat→Prop) (w:World):AV→Value→Prop
 | .one p,v=>xbp S w [p] [v]
 | .agg ps,v=>∃vs:List Value,v=.agg vs.toArray∧xbp S w ps vs
 | .fn f caps,v=>∃vs:List Value,v=.func (.func f) #[] vs.toArray∧ro caps vs
 | .ro c,v=>∃b off,v=.pointer (some ⟨b,off,none⟩)∧AtR S w b off c
 | .nil _ _,v=>v=.slice none 0 0
where ro:List RO→List Value→Prop
 | [],vs=>vs=[]
 | c::cs,vs=>∃v r,vs=v::r∧(∃b off,v=.pointer (some ⟨b,off,none⟩)∧AtR S w b off c)∧ro cs r
def xdY (S:Nat→Prop) (w:World):List AV→List Value→Prop
 | [],vs=>vs=[]
 | c::cs,vs=>∃v r,vs=v::r∧xpy S w c v∧xdY S w cs r
def xwD (S:Nat→Prop) (no:Nat→Option Nat) (w:World) (i:Nat):CK→PV→Value→Prop
 | .pv,p,v=>xbp S w [p] [v]
 | .sc,p,v=>xbp (fun _=>False) w [p] [v]
 | .own deep e sz,p,v=>xbk ⟨S,no,fun _=>none,fun _=>none⟩ w i ⟨if deep then .deep else .flat,e,sz,p⟩ v
def xcH:List RS→List Value→List Value
 | [],_=>[]
 | .one _::rs,vs=>vs.headD undef::xcH rs vs.tail
 | .agg cs::rs,vs=>.agg (vs.take cs.length).toArray::xcH rs (vs.drop cs.length)
def xp3:List Value→Value
 | [v]=>v
 | vs=>.tuple vs.toArray
structure Post (sg:List RS) (out:List PV) (S:Nat→Prop) (w:World) (v:Value) (w':World) (S':Nat→Prop) (no:Nat→Option Nat) (cvs:List Value):Prop where
 ret:v=xp3 (xcH sg cvs)
 below:Below w.heap.size w w'
 mono:∀x,S x→S' x
 stb:∀x,S' x→no x=none∧x<w'.heap.size∧(S x∨w.heap.size≤x)
 own:∀x i,no x=some i→w.heap.size≤x∧x<w'.heap.size∧i<(xaA sg).length
 len:cvs.length=(xaA sg).length
 lenO:out.length=(xaA sg).length
 cells:∀i ck v,(xaA sg)[i]? = some ck→cvs[i]? = some v→xwD S' no w' i ck (atP out i) v
 wr:∀x i,no x=some i→Wr1 w' x
def xgS (P:Program) (sg:List RS) (f:FuncId) (av:List AV) (out:List PV):Prop :=
 (∃ fn, P.funcs[f]? = some fn ∧ (fn.name == "runtime.NumGoroutine") = false ∧ fn.body.isNone = false) ∧
 ∀(w:World) (S:Nat→Prop) (vals:List Value),Env w→(∀x,S x→x<w.heap.size)→xdY S w av vals →
  Calls P f vals.toArray w fun e w'=>∃v S' no cvs,e=.returned v∧Post sg out S w v w' S' no cvs
structure Mod (N:List Nat) (w w':World):Prop where
 os:w'.os=w.os
 tape:w'.tape=w.tape
 output:w'.output=w.output
 size:w.heap.size≤w'.heap.size
 block:∀x,x<w.heap.size→x∉N→w'.heap[x]? = w.heap[x]?
 cells:∀x∈N,∀c t,w.heap[x]? = some (.cells c t (0,0))→∃c',w'.heap[x]? = some (.cells c' t (0,0))∧c'.size=c.size
def xaB (w:World):List PV→List Value→List (List Nat)→Prop
 | [],vs,Ns=>vs=[]∧Ns=[]
 | p::ps,vs,Ns=>∃v r N Nr,vs=v::r∧Ns=N::Nr∧xak w [p] [v] N∧xaB w ps r Nr
def PV.like:PV→PV→Prop
 | .list sz rows,q=>∃rows',q=.list sz rows'∧rows'.length=rows.length∧((∀r∈rows,r.length=sz)→∀r∈rows',r.length=sz)
 | _,_=>True
def Likes:List PV→List PV→Prop
 | [],qs=>qs=[]
 | p::ps,qs=>∃q r,qs=q::r∧PV.like p q∧Likes ps r
def mkV:AV→List Value→Value
 | .agg _,vs=>.agg vs.toArray
 | _,vs=>vs.headD undef
def xro (P:Program) (f:FuncId) (av:List AV) (out:List PV):Prop :=
 (∃ fn, P.funcs[f]? = some fn ∧ (fn.name == "runtime.NumGoroutine") = false ∧ fn.body.isNone = false) ∧
 ∃(x:AV) (ps ps':List PV) (k k':Int),av=[x,.one (.int .i64 k)]∧(x=.agg ps∨∃p,x=.one p∧ps=[p])∧out=ps'++[.int .i64 k']∧Likes ps ps' ∧
  ∀(w:World) (vs:List Value) (Ns:List (List Nat)),Env w→xaB w ps vs Ns→Ns.flatten.Nodup→(∀b∈Ns.flatten,Wr1 w b) →
   Calls P f #[mkV x vs,.int .i64 k] w fun e w'=>e=.returned (.int .i64 k')∧Mod Ns.flatten w w'∧xaB w' ps' vs Ns
def Owes (P:Program) (sg:List RS) (f:FuncId) (av:List AV) (out:List PV):Prop:=(xhT sg=false→xgS P sg f av out)∧(xhT sg=true→xro P f av out)
section
variable {P : Program} {T : Tab} {o : Oper} {F : Fr} {w0 : Base} {G : Gh} {a : Act} {w : World}
def Gh.box (G:Gh) (k b:Nat):Gh:={ G with own:=fun x=>if x=b then some k else G.own x,bx:=fun j=>if j=k then some b else G.bx j }
theorem Rel.newBox (hR:Rel w0 G F a w) {n:Nat} (hF:Free G n (n+1)) {cs:List Cell} {vs:List Value} (hc:xaN G w cs vs) (e:TypeId) :
 Rel w0 (G.box n w.heap.size) (F.plus ⟨[],[(n,cs)],1⟩) a (w.alloc (.cells vs.toArray e))∧Apart G (G.box n w.heap.size) n (n+1):=by
 obtain ⟨f1,f2,f3⟩:=hF n (Nat.le_refl _) (by omega)
 have hG:xfg G (G.box n w.heap.size):=⟨fun _ h=>h,fun _ _ h=>h,fun k b h=>by
  show (if k=n then some w.heap.size else G.bx k)=some b
  rw [if_neg]
  ·exact h
  ·rintro rfl;rw [f2] at h;cases h⟩
 have hold:∀x,x<w.heap.size→(w.alloc (.cells vs.toArray e)).heap[x]? = w.heap[x]? := fun x hx=>heap_alloc_old w _ x hx
 have hsz:(w.alloc (.cells vs.toArray e)).heap.size=w.heap.size+1:=by simp
 refine ⟨hR.move (hR.below.alloc hR.below.size _) hG (fun x hx=>hold x (hR.stb x hx).2) rfl rfl ?_ ?_ ?_ ?_ hR.rowv hR.sub ?_,?_⟩
 ·intro k cells b e1 e2
  simp only [Fr.plus,List.cons_append,List.nil_append,xas] at e1
  by_cases hk:n=k
  ·subst hk
   rw [if_pos rfl] at e1
   injection e1 with e1
   subst e1
   have:b=w.heap.size:=by
    have:(if n=n then some w.heap.size else G.bx n)=some b:=e2
    rw [if_pos rfl] at this
    injection this with this
    exact this.symm
   subst this
   refine ⟨?_,vs,e,heap_alloc_new w _,xaN.carry hG (fun x hx=>hold x (hR.stb x hx).2) hc⟩
   show (if w.heap.size=w.heap.size then some n else _)=some n
   rw [if_pos rfl]
  ·rw [if_neg hk] at e1
   have e3:G.bx k=some b:=by
    have:(if k=n then some w.heap.size else G.bx k)=some b:=e2
    rwa [if_neg (fun h=>hk h.symm)] at this
   have h1:=hR.boxes k cells b e1 e3
   have hlt:=(hR.own b k h1.1).2
   refine xf7.carry hG (fun x hx=>hold x (hR.stb x hx).2) (fun _=>⟨hold b hlt,?_⟩) h1
   show (if b=w.heap.size then some n else G.own b)=some k
   rw [if_neg (by omega)]
   exact h1.1
 ·intro id r v e1 e2
  refine xbk.carry hG.S (fun x hx=>hold x (hR.stb x hx).2) (fun x hx=>⟨hold x (hR.own x id hx).2,?_⟩) (hR.rows id r v e1 e2)
  show (if x=w.heap.size then some n else G.own x)=some id
  rw [if_neg (by have:=(hR.own x id hx).2;omega)]
  exact hx
 ·intro x hx
  have:=hR.stb x hx
  refine ⟨?_,by rw [hsz];omega⟩
  show (if x=w.heap.size then some n else G.own x)=none
  rw [if_neg (by omega)]
  exact this.1
 ·intro x id hx
  have hx':(if x=w.heap.size then some n else G.own x)=some id:=hx
  rw [hsz]
  split at hx'
  ·rename_i h;subst h;exact ⟨hR.below.size,by omega⟩
  ·have:=hR.own x id hx';exact ⟨this.1,by omega⟩
 ·intro x id hx
  have hx':(if x=w.heap.size then some n else G.own x)=some id:=hx
  split at hx'
  ·rename_i h;subst h;exact ⟨_,_,heap_alloc_new w _⟩
  ·exact (hR.wr x id hx').stay (hold x (hR.own x id hx').2)
 ·refine ⟨fun _ _=>rfl,fun id h=>?_,fun id x h=>?_⟩
  ·show (if id=n then _ else _)=_
   rw [if_neg (by omega)]
  ·show (if x=w.heap.size then some n else G.own x)=some id↔_
   split
   ·rename_i hx
    constructor
    ·intro h';injection h' with h';omega
    ·intro h';have:=(hR.own x id h').2;omega
   ·exact Iff.rfl
theorem xge (e:TypeId) (v:Value) (w:World):(newVar e v).run P w=.ok ⟨w.heap.size,0,none⟩ (w.alloc (.cells v.cells e)):=by
 simp [newVar,Go.newRow]
theorem xqM {t:TypeId} {i:TI} (hT:xaz P T) (hi:lk T.ti t=some i) (hop:o.op=.alloc t):Yields P o F ⟨[],[(F.next,i.zero)],1⟩ (.one (.ptr F.next 0)):=by
 intro w0 G F2 a w K Q hL hR hF hK
 obtain ⟨z,h1,h2⟩:=xe7 (hT.ty t i hi) w
 obtain ⟨h3,h4⟩:=hR.newBox hF (xcd.rep h2) t
 refine xbv (v:=.pointer (some ⟨w.heap.size,0,none⟩)) (w':=w.alloc (.cells z.cells t)) ?_ (hK _ _ _ h3 ⟨w.heap.size,?_,rfl⟩ h4)
 ·simp [execOp,hop,Instr.alloc,h1,xge]
 ·show (if F.next=F.next then _ else _)=_
  rw [if_pos rfl]
theorem xpg {v:Value} (h:v.oneCell'=true):v.cells=#[v]:=by
 cases v<;>simp [Value.oneCell'] at h<;>rfl
theorem xdb.one (hR:Rel w0 G F a w) {c:Cell} {v:Value} (h:xdb G w c v):v.oneCell'=true:=by
 cases c with
 | pv p=>obtain ⟨N,h,_⟩:=h;exact h.one v (by simp)
 | nil e sz=>have:v=.slice none 0 0:=h;subst this;rfl
 | own id=>obtain ⟨_,_,_,rfl⟩:=hR.rowv id v h;rfl
 | dead=>exact h
 | kb b=>have:v=.bool b:=h;subst this;rfl
 | ptr k off=>obtain ⟨b,_,rfl⟩:=h;rfl
 | sptr cells=>obtain ⟨b,off,rfl,_⟩:=h;rfl
 | optr id sz i off=>obtain ⟨b,n,cap,_,rfl⟩:=h;rfl
 | fn f caps=>obtain ⟨vs,rfl,_⟩:=h;rfl
 | sfn f q=>obtain ⟨b,off,rfl,_⟩:=h;rfl
theorem xaN.one (hR:Rel w0 G F a w):∀{cs:List Cell} {vs:List Value},xaN G w cs vs→∀v∈vs,v.oneCell'=true
 | [],vs,h=>by have:vs=[]:=h;subst this;simp
 | c::cs,vs,⟨v,r,e,h1,h2⟩=>by
  subst e
  intro u hu
  rcases List.mem_cons.1 hu with rfl | hu
  ·exact xdb.one hR h1
  ·exact xaN.one hR h2 u hu
theorem xg2 (hR:Rel w0 G F a w) {tv:TV} {v:Value} {cs:List Cell} (h:xcy G w tv v) (hc:xdy tv=some cs):∃vs:List Value,v.cells=vs.toArray∧xaN G w cs vs:=by
 cases tv with
 | one c =>
  injection hc with hc
  subst hc
  have h':xdb G w c v:=h
  exact ⟨[v],by rw [xpg (xdb.one hR h')],v,[],rfl,h',rfl⟩
 | agg ds =>
  injection hc with hc
  subst hc
  obtain ⟨vs,rfl,h⟩:=h
  exact ⟨vs,rfl,h⟩
 | tup _=>cases hc
 | undef=>cases hc
 | mt=>cases hc
theorem xtz {t:TypeId} {x:Operand} {tv:TV} {cs:List Cell} (hop:o.op=.box t x) (ex:opnd T F 0 x=some tv) (hc:xdy tv=some cs):Yields P o F ⟨[],[(F.next,cs)],1⟩ (.one (.ptr F.next 0)):=by
 intro w0 G F2 a w K Q hL hR hF hK
 obtain ⟨vs,h1,h2⟩:=xg2 hR (hR.eval T 0 x _ (xaF hL (fun t ht=>by simp [looks,hop,Op.operands,ht]) ex)) hc
 obtain ⟨h3,h4⟩:=hR.newBox hF h2 t
 refine xbv (v:=.pointer (some ⟨w.heap.size,0,none⟩)) (w':=w.alloc (.cells vs.toArray t)) ?_ (hK _ _ _ h3 ⟨w.heap.size,?_,rfl⟩ h4)
 ·simp [execOp,hop,Instr.box,xge,h1]
 ·show (if F.next=F.next then _ else _)=_
  rw [if_pos rfl]
theorem xbD.of_caps (hR:Rel w0 G F a w) {X:Operand→Prop}:∀{xs:List Operand} {q:List Cap},xeK T F xs=some q→xbD G w q (xs.map a.eval)
 | [],q,h=>by injection h with h;subst h;rfl
 | x::xs,q,h=>by
  simp only [xeK] at h
  split at h
  ·rename_i k q' e1 e2
   injection h with h
   subst h
   obtain ⟨b,h1,h2⟩:=hR.eval T 0 x _ e1
   exact ⟨_,_,rfl,⟨b,h1,h2⟩,xbD.of_caps hR (X:=X) e2⟩
  ·rename_i cells q' e1 e2
   injection h with h
   subst h
   exact ⟨_,_,rfl,hR.eval T 0 x _ e1,xbD.of_caps hR (X:=X) e2⟩
  ·rename_i f p q' e1 e2
   injection h with h
   subst h
   exact ⟨_,_,rfl,hR.eval T 0 x _ e1,xbD.of_caps hR (X:=X) e2⟩
  ·cases h
theorem xf4 {F2:Fr} {X:Tmp→Prop} (hL:Le X F F2):∀{xs:List Operand} {q:List Cap},(∀t,.tmp t∈xs→X t)→xeK T F xs=some q→xeK T F2 xs=some q
 | [],_,_,h=>h
 | x::xs,q,hx,h=>by
  simp only [xeK] at h
  split at h
  ·rename_i k q' e1 e2
   simp only [xeK,xaF hL (fun t ht=>hx t (by simp [ht])) e1,xf4 hL (fun t ht=>hx t (by simp [ht])) e2]
   exact h
  ·rename_i k q' e1 e2
   simp only [xeK,xaF hL (fun t ht=>hx t (by simp [ht])) e1,xf4 hL (fun t ht=>hx t (by simp [ht])) e2]
   exact h
  ·rename_i f p q' e1 e2
   simp only [xeK,xaF hL (fun t ht=>hx t (by simp [ht])) e1,xf4 hL (fun t ht=>hx t (by simp [ht])) e2]
   exact h
  ·cases h
theorem xmk {f:FuncId} {first caps:Array Operand} {q:List Cap} (hop:o.op=.makeFunc (.func f) first caps) (h0:first.size=0) (hq:xeK T F caps.toList=some q):Yields P o F .none (.one (.fn f q)):=by
 refine xay fun w0 G F2 a w hL hR=>?_
 have h1:=xbD.of_caps (X:=fun _=>True) hR (xf4 hL (fun t ht=>by simp [looks,hop,Op.operands];right;simpa using ht) hq)
 have:first=#[]:=Array.eq_empty_of_size_eq_zero h0
 subst this
 refine ⟨.func (.func f) #[] (caps.toList.map a.eval).toArray,?_,_,rfl,h1⟩
 have e:caps.map a.eval=(caps.toList.map a.eval).toArray:=by apply Array.ext';simp
 simp only [execOp,hop,Instr.makeFunc,e]
 simp
theorem xmE {S:Nat→Prop} (hS:∀x,G.S x→S x):∀{caps:List Cap} {q:List (List PV)} {vs:List Value},xs1 caps=some q→xbD G w caps vs→xrt S w q vs
 | [],q,vs,h,hv=>by injection h with h;subst h;exact hv
 | .ro (.cells ps)::r,q,vs,h,⟨v,r',e,h1,h2⟩=>by
  simp only [xs1] at h
  split at h
  ·rename_i q' e1
   injection h with h
   subst h
   obtain ⟨b,off,rfl,h3⟩:=h1
   exact ⟨_,_,e,⟨b,off,rfl,AtS.carry hS (fun _ _=>rfl) h3⟩,xmE hS e1 h2⟩
  ·cases h
 | .ro (.fn _ _)::r,q,vs,h,_=>by simp [xs1] at h
 | .box _::r,q,vs,h,_=>by simp [xs1] at h
theorem xpj (hR:Rel w0 G F a w) {cs:List Cell} {us:List Value} {c:RO} {b:Nat} {ty:TypeId} (hb:b<w.heap.size) (hh:w.heap[b]? = some (.cells us.toArray ty (0,0))) (h:xnN F cs=some c) (hc:xaN G w cs us):AtR (fun x=>x<w.heap.size) w b 0 c:=by
 have hcell:∀(j:Nat) (u:Value),us[j]? = some u→w.cell? ⟨b,0+j,none⟩=some u:=fun j u hu=>by
  rw [Nat.zero_add,cell_of_row w b j _ ty (0,0) hh]
  simpa using hu
 unfold xnN at h
 split at h
 ·rename_i f caps
  split at h
  ·rename_i q e
   injection h with h
   subst h
   obtain ⟨v,r,rfl,⟨vs,rfl,h1⟩,h2⟩:=hc
   exact ⟨vs,hcell 0 _ rfl,xmE (fun x hx=>(hR.stb x hx).2) e h1,hb⟩
  ·cases h
 ·split at h
  ·rename_i ps e
   injection h with h
   subst h
   obtain ⟨N,h4,h5⟩:=xfA hR e hc
   exact ⟨us,N,hcell,h4,h5,hb⟩
  ·cases h
theorem xeY (hR:Rel w0 G F a w):∀{caps:List Cap} {q:List RO} {vs:List Value},xcO F caps=some q→xbD G w caps vs→xpy.ro (fun x=>x<w.heap.size) w q vs
 | [],q,vs,h,hv=>by injection h with h;subst h;exact hv
 | .ro cells::r,q,vs,h,⟨v,r',e,h1,h2⟩=>by
  simp only [xcO] at h
  split at h
  ·rename_i q' e1
   injection h with h
   subst h
   obtain ⟨b,off,rfl,h3⟩:=h1
   refine ⟨_,_,e,⟨b,off,rfl,h3.carry (fun x hx=>(hR.stb x hx).2) fun _ _=>rfl⟩,xeY hR e1 h2⟩
  ·cases h
 | .box k::r,q,vs,h,⟨v,r',e,h1,h2⟩=>by
  simp only [xcO] at h
  split at h
  ·rename_i cs e1
   split at h
   ·rename_i ps q' e2 e3
    injection h with h
    subst h
    obtain ⟨b,h3,rfl⟩:=h1
    obtain ⟨ho,us,ty,hh,hc⟩:=hR.boxes k cs b e1 h3
    exact ⟨_,_,e,⟨b,0,rfl,xpj hR (hR.own b k ho).2 hh e2 hc⟩,xeY hR e3 h2⟩
   ·cases h
  ·cases h
theorem xih:∀{caps:List Cap} {q:List RO} {vs:List Value},(caps.all fun c=>match c with | .ro _=>true | .box _=>false)=true→xcO F caps=some q→xbD G w caps vs→xpy.ro G.S w q vs
 | [],q,vs,_,h,hv=>by injection h with h;subst h;exact hv
 | .ro cells::r,q,vs,hs,h,⟨v,r',e,h1,h2⟩=>by
  simp only [xcO] at h
  split at h
  ·rename_i q' e1
   injection h with h
   subst h
   exact ⟨_,_,e,h1,xih (by simpa using hs) e1 h2⟩
  ·cases h
 | .box k::r,q,vs,hs,h,_=>by simp at hs
theorem xli (hR:Rel w0 G F a w) {c:Cell} {p:PV} {v:Value} (hs:xdv F c=true) (h:xa5 F c=some p) (hv:xdb G w c v):xbp G.S w [p] [v]:=by
 cases c<;>simp only [xa5] at h
 case pv q=>injection h with h;subst h;exact hv
 case nil e sz=>injection h with h;subst h;have:v=.slice none 0 0:=hv;subst this;exact ⟨[],.lnil .nil,by simp⟩
 case kb b=>injection h with h;subst h;have:v=.bool b:=hv;subst this;exact ⟨[],.bool .nil,by simp⟩
 case own id =>
  split at h
  ·rename_i r hr
   injection h with h
   subst h
   simp only [xdv,hr,decide_eq_true_eq] at hs
   have:=hR.rows id r v hr hv
   unfold xbk at this
   rw [hs] at this
   exact this
  ·cases h
 all_goals cases h
theorem xjr (hR:Rel w0 G F a w):∀{cs:List Cell} {ps:List PV} {vs:List Value},cs.all (xdv F)=true→xaI F cs=some ps→xaN G w cs vs→xbp G.S w ps vs
 | [],ps,vs,_,h,hv=>by simp only [xaI] at h;injection h with h;subst h;have:vs=[]:=hv;subst this;exact ⟨[],.nil,by simp⟩
 | c::cs,ps,vs,hs,h,⟨v,r,e,h1,h2⟩=>by
  simp only [xaI] at h
  simp only [List.all_cons,Bool.and_eq_true] at hs
  split at h
  ·rename_i p q e1 e2
   injection h with h
   subst h
   subst e
   obtain ⟨N1,k1,k2⟩:=xli hR hs.1 e1 h1
   obtain ⟨N2,m1,m2⟩:=xjr hR hs.2 e2 h2
   exact ⟨_,k1.cons m1,fun x hx=>by rcases List.mem_append.1 hx with hx | hx;exact k2 x hx;exact m2 x hx⟩
  ·cases h
theorem xpO (hR:Rel w0 G F a w) {v:TV} {av:AV} {u:Value} (h:xrw F v=some av) (hv:xcy G w v u):xpy (fun x=>x<w.heap.size) w av u:=by
 unfold xrw at h
 split at h
 ·rename_i c
  split at h
  ·split at h
   ·rename_i q e
    injection h with h
    subst h
    obtain ⟨vs,rfl,h1⟩:=hv
    exact ⟨vs,rfl,xeY hR e h1⟩
   ·cases h
  ·injection h with h
   subst h
   obtain ⟨b,off,rfl,h1⟩:=hv
   exact ⟨b,off,rfl,AtS.carry (fun x hx=>(hR.stb x hx).2) (fun _ _=>rfl) h1⟩
  ·injection h with h
   subst h
   obtain ⟨b,off,rfl,h1⟩:=hv
   exact ⟨b,off,rfl,xsY.carry (fun x hx=>(hR.stb x hx).2) (fun _ _=>rfl) h1⟩
  ·injection h with h
   subst h
   exact hv
  ·split at h
   ·rename_i p e
    injection h with h
    subst h
    exact xde hR e hv
   ·cases h
 ·split at h
  ·rename_i ps e
   injection h with h
   subst h
   obtain ⟨vs,rfl,h1⟩:=hv
   exact ⟨vs,rfl,xfA hR e h1⟩
  ·cases h
 ·cases h
theorem xrv (hR:Rel w0 G F a w) {v:TV} {av:AV} {u:Value} (hs:xut F v=true) (h:xrw F v=some av) (hv:xcy G w v u):xpy G.S w av u:=by
 unfold xrw at h
 split at h
 ·rename_i c
  have hs':xdv F c=true:=hs
  split at h
  ·split at h
   ·rename_i q e
    injection h with h
    subst h
    obtain ⟨vs,rfl,h1⟩:=hv
    exact ⟨vs,rfl,xih hs' e h1⟩
   ·cases h
  ·injection h with h
   subst h
   exact hv
  ·injection h with h
   subst h
   exact hv
  ·injection h with h
   subst h
   exact hv
  ·split at h
   ·rename_i p e
    injection h with h
    subst h
    exact xli hR hs' e hv
   ·cases h
 ·split at h
  ·rename_i ps e
   injection h with h
   subst h
   obtain ⟨vs,rfl,h1⟩:=hv
   exact ⟨vs,rfl,xjr hR hs e h1⟩
  ·cases h
 ·cases h
theorem xpy.denil {S:Nat→Prop} {av:AV} {u:Value} (nf:Bool) (h:xpy S w av u):xpy S w (Ev.denil nf av) u:=by
 unfold Ev.denil
 split
 ·split
  ·exact h
  ·have:u=.slice none 0 0:=h
   subst this
   exact ⟨[],.lnil .nil,by simp⟩
 ·exact h
theorem xjv {nf:Bool} (hR:Rel w0 G F a w):∀{xs:List Operand} {ts:List TypeId} {av:List AV},xdX nf T F xs ts=some av→xdY (fun x=>x<w.heap.size) w av (xs.map a.eval)
 | [],ts,av,h=>by simp only [xdX] at h;injection h with h;subst h;rfl
 | x::xs,ts,av,h=>by
  simp only [xdX] at h
  split at h
  ·rename_i v e
   split at h
   ·rename_i b r e1 e2
    injection h with h
    subst h
    exact ⟨_,_,rfl,(xpO hR e1 (hR.eval T _ x _ e)).denil nf,xjv hR e2⟩
   ·cases h
  ·cases h
theorem xlp {nf:Bool} (hR:Rel w0 G F a w):∀{xs:List Operand} {ts:List TypeId} {av:List AV},xfe T F xs ts=true→xdX nf T F xs ts=some av→xdY G.S w av (xs.map a.eval)
 | [],ts,av,_,h=>by simp only [xdX] at h;injection h with h;subst h;rfl
 | x::xs,ts,av,hs,h=>by
  simp only [xdX] at h
  split at h
  ·rename_i v e
   simp only [xfe,e,Bool.and_eq_true] at hs
   split at h
   ·rename_i b r e1 e2
    injection h with h
    subst h
    exact ⟨_,_,rfl,(xrv hR hs.1 e1 (hR.eval T _ x _ e)).denil nf,xlp hR hs.2 e2⟩
   ·cases h
  ·cases h
theorem xdY.append {S:Nat→Prop}:∀{xs ys:List AV} {us vs:List Value},xdY S w xs us→xdY S w ys vs→xdY S w (xs++ys) (us++vs)
 | [],_,_,_,h,k=>by have:=h;subst this;exact k
 | _::_,_,_,_,⟨v,r,e,h1,h2⟩,k=>by subst e;exact ⟨v,_,rfl,h1,xdY.append h2 k⟩
theorem xdY.of_ro {S:Nat→Prop}:∀{q:List RO} {vs:List Value},xpy.ro S w q vs→xdY S w (q.map .ro) vs
 | [],_,h=>h
 | _::_,_,⟨v,r,e,h1,h2⟩=>⟨v,r,e,h1,xdY.of_ro h2⟩
end
end Go.Ev
/- Behind a call. -/
namespace Go.Ev
open Go.RowKit
section
variable {P : Program} {T : Tab} {o : Oper} {F : Fr} {w0 : Base} {G : Gh} {a : Act} {w : World}
theorem xeC {base:Nat} {out:List PV}:∀{cks:List CK} {i id:Nat} {r:Row},lk (xdl base out i cks) id=some r →
 ∃j deep e sz,cks[j]? = some (.own deep e sz)∧id=base+(i+j)∧r=⟨if deep then .deep else .flat,e,sz,atP out (i+j)⟩
 | [],i,id,r,h=>by simp [xdl,lk] at h
 | .own deep e sz::cs,i,id,r,h=>by
  simp only [xdl,xas] at h
  split at h
  ·rename_i hid
   injection h with h
   exact ⟨0,deep,e,sz,rfl,by omega,by rw [←h];rfl⟩
  ·obtain ⟨j,d',e',sz',h1,h2,h3⟩:=xeC h
   exact ⟨j+1,d',e',sz',by simpa using h1,by omega,by rw [h3,show i+1+j=i+(j+1) by omega]⟩
 | .pv::cs,i,id,r,h=>by
  obtain ⟨j,d',e',sz',h1,h2,h3⟩:=xeC (cks:=cs) (i:=i+1) h
  exact ⟨j+1,d',e',sz',by simpa using h1,by omega,by rw [h3,show i+1+j=i+(j+1) by omega]⟩
 | .sc::cs,i,id,r,h=>by
  obtain ⟨j,d',e',sz',h1,h2,h3⟩:=xeC (cks:=cs) (i:=i+1) h
  exact ⟨j+1,d',e',sz',by simpa using h1,by omega,by rw [h3,show i+1+j=i+(j+1) by omega]⟩
theorem xbB {α:Type}:∀(l m:List (Nat×α)) (i:Nat),lk (l++m) i=match lk l i with | some v=>some v | none=>lk m i
 | [],_,_=>rfl
 | (k,v)::l,m,i=>by
  simp only [List.cons_append,xas]
  split
  ·rfl
  ·exact xbB l m i
def xhS:CK→Bool | .own _ _ _=>true | _=>false
def Gh.called (G:Gh) (w:World) (base:Nat) (cks:List CK) (S':Nat→Prop) (no:Nat→Option Nat) (cvs:List Value):Gh where
 S:=fun x=>G.S x∨(w.heap.size≤x∧S' x)
 own:=fun x=>match no x with | some i=>some (base+i) | none=>G.own x
 row:=fun id=>if base≤id∧id<base+cks.length then (match cks[id-base]? with | some c=>if xhS c=true then cvs[id-base]? else none | none=>none) else G.row id
 bx:=G.bx
theorem xmR {G:Gh} {w:World} {base:Nat} {out:List PV}:∀{cks:List CK} {i:Nat} {vs:List Value},vs.length=cks.length→(∀j ck v,cks[j]? = some ck→vs[j]? = some v→xdb G w (inC base out (i+j) ck) v)→xaN G w (xuH base out i cks) vs
 | [],i,vs,hl,_=>by have:vs=[]:=List.eq_nil_of_length_eq_zero hl;subst this;rfl
 | c::cs,i,v::vs,hl,h=>⟨v,vs,rfl,h 0 c v rfl rfl,xmR (by simpa using hl) fun j ck u h1 h2=>by
  have:=h (j+1) ck u (by simpa using h1) (by simpa using h2)
  rwa [show i+(j+1)=i+1+j by omega] at this⟩
theorem xqn {G:Gh} {w:World} {base:Nat} {out:List PV} (r:RS) {i:Nat} {vs:List Value} (hl:vs.length=r.cks.length) (h:∀j ck v,r.cks[j]? = some ck→vs[j]? = some v→xdb G w (inC base out (i+j) ck) v) :
 xcy G w (xuj base out i r) (match r with | .one _=>vs.headD undef | .agg _=>.agg vs.toArray):=by
 cases r with
 | one c =>
  match vs,hl with
  | [v],_=>exact h 0 c v rfl rfl
 | agg cs=>exact ⟨vs,rfl,xmR hl h⟩
theorem xkN {G:Gh} {w:World} {base:Nat} {out:List PV}:∀{sg:List RS} {i:Nat} {vs:List Value},vs.length=(xaA sg).length→(∀j ck v,(xaA sg)[j]? = some ck→vs[j]? = some v→xdb G w (inC base out (i+j) ck) v)→xcy.RepTs G w (xqm base out i sg) (xcH sg vs)
 | [],i,vs,_,_=>rfl
 | r::rs,i,vs,hl,h=>by
  have hlen:(xaA (r::rs))=r.cks++xaA rs:=by simp [xaA]
  rw [hlen,List.length_append] at hl
  have h1:=xqn (G:=G) (w:=w) (base:=base) (out:=out) r (i:=i) (vs:=vs.take r.cks.length) (by rw [List.length_take];omega) (fun j ck v e1 e2=>by
   have hj:j<r.cks.length:=by
    rcases Nat.lt_or_ge j r.cks.length with h' | h'
    ·exact h'
    ·simp [List.getElem?_eq_none h'] at e1
   refine h j ck v ?_ ?_
   ·rw [hlen,List.getElem?_append_left hj];exact e1
   ·rw [List.getElem?_take,if_pos hj] at e2;exact e2)
  have h2:=xkN (G:=G) (w:=w) (base:=base) (out:=out) (sg:=rs) (i:=i+r.cks.length) (vs:=vs.drop r.cks.length) (by rw [List.length_drop];omega) (fun j ck v e1 e2=>by
   have:=h (r.cks.length+j) ck v (by rw [hlen,List.getElem?_append_right (by omega)];simpa using e1) (by rw [List.getElem?_drop] at e2;exact e2)
   rwa [←Nat.add_assoc] at this)
  cases r with
  | one c =>
   refine ⟨_,_,rfl,?_,?_⟩
   ·match vs,hl with
    | [],hl=>simp [RS.cks] at hl;omega
    | v::vs,_=>simpa [RS.cks] using h1
   ·have e:vs.tail=vs.drop (RS.one c).cks.length:=by simp [RS.cks]
    rw [e];exact h2
  | agg cs=>exact ⟨_,_,rfl,h1,h2⟩
theorem xgg:∀(sg:List RS) (vs:List Value),(xcH sg vs).length=sg.length
 | [],_=>rfl
 | .one _::rs,vs=>by simp [xcH,xgg rs]
 | .agg _::rs,vs=>by simp [xcH,xgg rs]
theorem xok {G:Gh} {w:World} {base:Nat} {out:List PV} {sg:List RS} {vs:List Value} (hl:vs.length=(xaA sg).length) (h:∀j ck v,(xaA sg)[j]? = some ck→vs[j]? = some v→xdb G w (inC base out j ck) v) :
 xcy G w (xp4 base sg out) (xp3 (xcH sg vs)):=by
 have h':=xkN (G:=G) (w:=w) (base:=base) (out:=out) (sg:=sg) (i:=0) (vs:=vs) hl (by simpa using h)
 match sg with
 | []=>exact ⟨[],rfl,rfl⟩
 | [r] =>
  obtain ⟨v,q,e,h1,h2⟩:=h'
  have:q=[]:=h2
  subst this
  show xcy G w (xuj base out 0 r) (xp3 (xcH [r] vs))
  rw [e]
  exact h1
 | r1::r2::rs =>
  have hl2:=xgg (r1::r2::rs) vs
  show xcy G w (.tup (xqm base out 0 (r1::r2::rs))) (xp3 (xcH (r1::r2::rs) vs))
  generalize xcH (r1::r2::rs) vs=us at hl2 h'
  match us,hl2 with
  | u1::u2::us,_=>exact ⟨_,rfl,h'⟩
theorem Rel.called (hR:Rel w0 G F a w) {base:Nat} {sg:List RS} {out:List PV} (hF:Free G base (base+(xaA sg).length)) {S S':Nat→Prop} {v:Value} {w':World} {no:Nat→Option Nat} {cvs:List Value}
 (hp:Post sg out S w v w' S' no cvs) (hS:∀x,S x→x<w.heap.size) (hpv:xrB sg=true→∀x,S x→G.S x) :
 Rel w0 (G.called w base (xaA sg) S' no cvs) { F with rows:=xdl base out 0 (xaA sg)++F.rows,next:=base+(xaA sg).length } a w'∧xcy (G.called w base (xaA sg) S' no cvs) w' (xp4 base sg out) v ∧
 Apart G (G.called w base (xaA sg) S' no cvs) base (base+(xaA sg).length):=by
 have hold:∀x,x<w.heap.size→w'.heap[x]? = w.heap[x]? := fun x hx=>hp.below.block x hx
 have hno:∀x,x<w.heap.size→no x=none:=fun x hx=>by
  cases h:no x with
  | none=>rfl
  | some i=>have:=(hp.own x i h).1;omega
 have hG:xfg G (G.called w base (xaA sg) S' no cvs):=⟨fun x h=>.inl h,(fun id u h=>by
  show (if base≤id∧id<base+(xaA sg).length then _ else G.row id)=some u
  rw [if_neg]
  ·exact h
  ·rintro ⟨h1,h2⟩
   rw [(hF id h1 h2).1] at h
   cases h),fun _ _ h=>h⟩
 have hcell:∀(i:Nat) (ck:CK) (u:Value),(xaA sg)[i]? = some ck→cvs[i]? = some u→xhS ck=true→(G.called w base (xaA sg) S' no cvs).row (base+i)=some u:=by
  intro i ck u h1 h2 h3
  have hi:i<(xaA sg).length:=by
   rcases Nat.lt_or_ge i (xaA sg).length with h' | h'
   ·exact h'
   ·simp [List.getElem?_eq_none h'] at h1
  show (if base≤base+i∧base+i<base+(xaA sg).length then _ else _)=_
  rw [if_pos ⟨by omega,by omega⟩,show base+i-base=i by omega,h1]
  simp only [h3,if_true,h2]
 have hS':∀x,S' x→(xrB sg=true∨w.heap.size≤x)→(G.called w base (xaA sg) S' no cvs).S x:=by
  intro x hx h
  rcases (hp.stb x hx).2.2 with h1 | h1
  ·rcases h with h | h
   ·exact .inl (hpv h x h1)
   ·exact .inr ⟨h,hx⟩
  ·exact .inr ⟨h1,hx⟩
 have hmem:∀(i:Nat) (ck:CK),(xaA sg)[i]? = some ck→(match ck with | .pv=>true | .own deep _ _=>!deep | .sc=>false)=true→xrB sg=true:=by
  intro i ck h1 h2
  exact List.any_eq_true.2 ⟨ck,List.mem_of_getElem? h1,h2⟩
 have hrep:∀(i:Nat) (ck:CK) (u:Value),(xaA sg)[i]? = some ck→cvs[i]? = some u→xdb (G.called w base (xaA sg) S' no cvs) w' (inC base out i ck) u:=by
  intro i ck u h1 h2
  have h3:=hp.cells i ck u h1 h2
  cases ck with
  | pv =>
   obtain ⟨N,k1,k2⟩:=h3
   exact ⟨N,k1,fun x hx=>hS' x (k2 x hx) (.inl (hmem i _ h1 rfl))⟩
  | sc =>
   obtain ⟨N,k1,k2⟩:=h3
   exact ⟨N,k1,fun x hx=>(k2 x hx).elim⟩
  | own deep e sz=>exact hcell i _ u h1 h2 rfl
 refine ⟨hR.move ⟨hp.below.os.trans hR.below.os,hp.below.tape.trans hR.below.tape,hp.below.output.trans hR.below.output,Nat.le_trans hR.below.size hp.below.size,fun k hk=>(hold k (Nat.lt_of_lt_of_le hk hR.below.size)).trans (hR.below.block k hk)⟩
  hG (fun x hx=>hold x (hR.stb x hx).2) rfl rfl ?_ ?_ ?_ ?_ ?_ (fun x hx=>hx.elim (hR.sub x) fun hx=>.inr (Nat.le_trans hR.below.size hx.1)) ?_,?_,?_⟩
 ·intro k cells b e1 e2
  have h1:=hR.boxes k cells b e1 e2
  have hlt:=(hR.own b k h1.1).2
  refine xf7.carry hG (fun x hx=>hold x (hR.stb x hx).2) (fun h=>⟨hold b hlt,?_⟩) h1
  show (match no b with | some i=>_ | none=>G.own b)=some k
  rw [hno b hlt];exact h
 ·intro id r u e1 e2
  simp only [xbB] at e1
  split at e1
  ·rename_i r' h1
   injection e1 with e1
   subst e1
   obtain ⟨i,deep,e,sz,h2,h3,h4⟩:=xeC h1
   rw [Nat.zero_add] at h3 h4
   subst h3
   have hi:i<(xaA sg).length:=by
    rcases Nat.lt_or_ge i (xaA sg).length with h' | h'
    ·exact h'
    ·simp [List.getElem?_eq_none h'] at h2
   have hu:cvs[i]? = some u:=by
    have e3:(if base≤base+i∧base+i<base+(xaA sg).length then (match (xaA sg)[base+i-base]? with | some c=>if xhS c=true then cvs[base+i-base]? else none | none=>none) else G.row (base+i))=some u:=e2
    rw [if_pos ⟨by omega,by omega⟩,show base+i-base=i by omega,h2] at e3
    simpa [xhS] using e3
   have h5:xbk ⟨S',no,fun _=>none,fun _=>none⟩ w' i r' u:=by rw [h4];exact hp.cells i _ u h2 hu
   have hown:∀x,no x=some i→(G.called w base (xaA sg) S' no cvs).own x=some (base+i):=by
    intro x hx
    show (match no x with | some i=>some (base+i) | none=>G.own x)=_
    rw [hx]
   subst h4
   unfold xbk at h5 ⊢
   cases deep with
   | true =>
    obtain ⟨hs,rows,xs,N,he,hl,hv,ho,hb,hk⟩:=h5
    exact ⟨hs,rows,xs,N,he,hl,hv,ho,fun b hb'=>hown b (hb b hb'),by
     simp only [if_true] at hk ⊢
     exact ⟨hk.1,fun x hx=>⟨hown x (hk.2 x hx).1,(hk.2 x hx).2⟩⟩⟩
   | false =>
    obtain ⟨hs,rows,xs,N,he,hl,hv,ho,hb,hk⟩:=h5
    exact ⟨hs,rows,xs,N,he,hl,hv,ho,fun b hb'=>hown b (hb b hb'),by
     have hne:¬(RK.flat=RK.deep):=by intro h;cases h
     simp only [hne,if_false,Bool.false_eq_true] at hk ⊢
     exact fun x hx=>hS' x (hk x hx) (.inl (hmem i _ h2 rfl))⟩
  ·rename_i h1
   have e3:G.row id=some u:=by
    have e3:(if base≤id∧id<base+(xaA sg).length then (match (xaA sg)[id-base]? with | some c=>if xhS c=true then cvs[id-base]? else none | none=>none) else G.row id)=some u:=e2
    split at e3
    ·rename_i hid
     split at e3
     ·rename_i c hc
      split at e3
      ·rename_i hco
       exfalso
       have key:∀(cks:List CK) (i0 j:Nat) (c:CK),cks[j]? = some c→xhS c=true→lk (xdl base out i0 cks) (base+(i0+j))≠none:=by
        intro cks
        induction cks with
        | nil=>intro i0 j c h;simp at h
        | cons d ds ih =>
         intro i0 j c h hc
         cases j with
         | zero =>
          simp at h
          subst h
          cases d with
          | own deep e sz=>simp [xdl,xas]
          | pv=>simp [xhS] at hc
          | sc=>simp [xhS] at hc
         | succ j =>
          have:=ih (i0+1) j c (by simpa using h) hc
          rw [show i0+1+j=i0+(j+1) by omega] at this
          cases d with
          | own deep e sz =>
           simp only [xdl,xas]
           split
           ·simp
           ·exact this
          | pv=>exact this
          | sc=>exact this
       have:=key _ 0 _ c hc hco
       rw [Nat.zero_add,show base+(id-base)=id by omega] at this
       exact this h1
      ·cases e3
     ·cases e3
    ·exact e3
   refine xbk.carry hG.S (fun x hx=>hold x (hR.stb x hx).2) (fun x hx=>?_) (hR.rows id r u e1 e3)
   have hlt:=(hR.own x id hx).2
   refine ⟨hold x hlt,?_⟩
   show (match no x with | some i=>_ | none=>G.own x)=some id
   rw [hno x hlt];exact hx
 ·intro x hx
  have hs:=hp.below.size
  rcases hx with hx | ⟨h1,hx⟩
  ·have:=hR.stb x hx
   refine ⟨?_,by omega⟩
   show (match no x with | some i=>_ | none=>G.own x)=none
   rw [hno x this.2];exact this.1
  ·have h2:=hp.stb x hx
   refine ⟨?_,h2.2.1⟩
   show (match no x with | some i=>_ | none=>G.own x)=none
   rw [h2.1]
   cases h:G.own x with
   | none=>rfl
   | some id=>have:=(hR.own x id h).2;omega
 ·intro x id hx
  have hs:=hp.below.size
  have hx':(match no x with | some i=>some (base+i) | none=>G.own x)=some id:=hx
  split at hx'
  ·rename_i i h
   have:=hp.own x i h
   have:=hR.below.size
   exact ⟨by omega,by omega⟩
  ·have:=hR.own x id hx';exact ⟨this.1,by omega⟩
 ·intro id u h
  have h':(if base≤id∧id<base+(xaA sg).length then (match (xaA sg)[id-base]? with | some c=>if xhS c=true then cvs[id-base]? else none | none=>none) else G.row id)=some u:=h
  split at h'
  ·split at h'
   ·rename_i c hc
    split at h'
    ·rename_i hco
     have h3:=hp.cells _ c u hc h'
     cases c with
     | own deep e sz =>
      have h4:xbk _ _ _ _ _:=h3
      unfold xbk at h4
      cases deep with
      | true=>obtain ⟨_,rows,xs,N,_,_,_,ho,_⟩:=h4;rcases ho.2 with ⟨rfl,_⟩ | ⟨g,cap,cur,rfl,_⟩<;>exact ⟨_,_,_,rfl⟩
      | false=>obtain ⟨_,rows,xs,N,_,_,_,ho,_⟩:=h4;rcases ho.2 with ⟨rfl,_⟩ | ⟨g,cap,cur,rfl,_⟩<;>exact ⟨_,_,_,rfl⟩
     | pv=>simp [xhS] at hco
     | sc=>simp [xhS] at hco
    ·cases h'
   ·cases h'
  ·exact hR.rowv id u h'
 ·intro x id hx
  have hx':(match no x with | some i=>some (base+i) | none=>G.own x)=some id:=hx
  split at hx'
  ·rename_i i h;exact hp.wr x i h
  ·exact (hR.wr x id hx').stay (hold x (hR.own x id hx').2)
 ·rw [hp.ret]
  exact xok hp.len hrep
 ·refine ⟨fun id h=>?_,fun id h=>rfl,fun id x h=>?_⟩
  ·show (if base≤id∧id<base+(xaA sg).length then _ else G.row id)=G.row id
   rw [if_neg (by omega)]
  ·show (match no x with | some i=>some (base+i) | none=>G.own x)=some id↔_
   split
   ·rename_i i hi
    have h1:=hp.own x i hi
    constructor
    ·intro h';injection h' with h';omega
    ·intro h';have:=(hR.own x id h').2;omega
   ·exact Iff.rfl
theorem xb1 {c:Call} {x:Operand} {f:FuncId} {caps:List Value} {fn:Func} (hop:o.op=.call c) (hcal:c.callee=.value x) (hx:a.eval x=.func (.func f) #[] caps.toArray)
 (hf : P.funcs[f]? = some fn) (hn : (fn.name == "runtime.NumGoroutine") = false) (hb : fn.body.isNone = false) :
 (execOp a.eval o).run P w=.ok (.enter f (c.args.toList.map a.eval++caps).toArray) w:=by
 have e:c.args.map a.eval++caps.toArray=(c.args.toList.map a.eval++caps).toArray:=by
  apply Array.ext';simp
 simp only [execOp,hop,resolve,hcal,Deferred.ofValue,hx]
 simp only [Sem.run_bind,Sem.run_pure,Result.andThen_ok,invoke,callFunc,run_program,hf]
 simp only [Array.empty_append,e]
 simp [hn,hb]
theorem xfk {nf:Bool} {X:Tmp→Prop} {F2:Fr} (hL:Le X F F2):∀{xs:List Operand} {ts:List TypeId} {av:List AV},(∀t,.tmp t∈xs→X t)→xdX nf T F xs ts=some av→xdX nf T F2 xs ts=some av
 | [],ts,av,_,h=>h
 | x::xs,ts,av,hx,h=>by
  simp only [xdX] at h ⊢
  split at h
  ·rename_i v e
   rw [xaF hL (fun t ht=>hx t (by simp [ht])) e]
   split at h
   ·rename_i b r e1 e2
    rw [xfk hL (fun t ht=>hx t (by simp [ht])) e2]
    have:xrw F2 v=some b:=by
     unfold xrw at e1 ⊢
     split at e1
     ·split at e1
      ·split at e1
       ·rename_i q hq
        have:xcO F2 _=some q:=capsPV_le' hL hq
        simp only [this];exact e1
       ·cases e1
      ·exact e1
      ·exact e1
      ·exact e1
      ·split at e1
       ·rename_i p hp;simp only [xf3 hL hp];exact e1
       ·cases e1
     ·split at e1
      ·rename_i ps hp;simp only [xgy hL hp];exact e1
      ·cases e1
     ·cases e1
    simp only [this]
    exact h
   ·cases h
  ·cases h
where
 boxRO_le {X:Tmp→Prop} {F F2:Fr} (hL:Le X F F2) {cs:List Cell} {c:RO} (h:xnN F cs=some c):xnN F2 cs=some c:=by
  unfold xnN at h ⊢
  split at h
  ·exact h
  ·split at h
   ·rename_i ps e
    simp only [xgy hL e]
    exact h
   ·cases h
 capsPV_le' {X:Tmp→Prop} {F F2:Fr} (hL:Le X F F2):∀{caps:List Cap} {q:List RO},xcO F caps=some q→xcO F2 caps=some q
 | [],_,h=>h
 | .ro cells::r,q,h=>by
  simp only [xcO] at h ⊢
  split at h
  ·rename_i q' e;rw [capsPV_le' hL e];exact h
  ·cases h
 | .box k::r,q,h=>by
  simp only [xcO] at h ⊢
  split at h
  ·rename_i cs e
   rw [hL.boxes _ _ e]
   split at h
   ·rename_i ps q' e1 e2
    simp only [boxRO_le hL e1,capsPV_le' hL e2]
    exact h
   ·cases h
  ·cases h
theorem xlh {X:Tmp→Prop} {F2:Fr} (hL:Le X F F2) {c:Cell} (h:xdv F c=true):xdv F2 c=true:=by
 cases c<;>simp only [xdv] at h ⊢<;>try exact h
 split at h
 ·rename_i r e;rw [hL.rows _ _ e];exact h
 ·cases h
theorem xlo {X:Tmp→Prop} {F2:Fr} (hL:Le X F F2):∀{xs:List Operand} {ts:List TypeId},(∀t,.tmp t∈xs→X t)→xfe T F xs ts=true→xfe T F2 xs ts=true
 | [],_,_,_=>rfl
 | x::xs,ts,hx,h=>by
  simp only [xfe] at h ⊢
  split at h
  ·rename_i v e
   rw [xaF hL (fun t ht=>hx t (by simp [ht])) e]
   simp only [Bool.and_eq_true] at h ⊢
   refine ⟨?_,xlo hL (fun t ht=>hx t (by simp [ht])) h.2⟩
   have h1:=h.1
   cases v with
   | one c=>exact xlh hL h1
   | agg cs=>simp only [xut,List.all_eq_true] at h1 ⊢;exact fun c hc=>xlh hL (h1 c hc)
   | tup _=>exact h1
   | undef=>exact h1
   | mt=>exact h1
  ·cases h
theorem xmm {c:Call} {x:Operand} {f:FuncId} {caps:List Cap} {q:List RO} {sg:List RS} {av:List AV} {out:List PV} (hop:o.op=.call c) (hcal:c.callee=.value x) (ex:opnd T F 0 x=some (.one (.fn f caps))) (hq:xcO F caps=some q)
 {nf:Bool} (hav:xdX nf T F c.args.toList c.argTypes.toList=some av) (hC:xgS P sg f (av++q.map .ro) out)
 (hsh:xrB sg=false∨xfe T F c.args.toList c.argTypes.toList=true∧xdv F (.fn f caps)=true) :
 Yields P o F ⟨xdl F.next out 0 (xaA sg),[],(xaA sg).length⟩ (xp4 F.next sg out):=by
 intro w0 G F2 a w K Q hL hR hF hK
 have hxl:∀t,x=.tmp t→looks o t:=fun t ht=>by simp [looks,hop,Op.operands,Call.operands,hcal,ht]
 have hal:∀t,.tmp t∈c.args.toList→looks o t:=fun t ht=>by simp [looks,hop,Op.operands,Call.operands,hcal];right;simpa using ht
 obtain ⟨vs,h1,h2⟩:=hR.eval T 0 x _ (xaF hL hxl ex)
 have hav2:=xfk hL hal hav
 have hq2:=xfk.capsPV_le' hL hq
 obtain ⟨⟨fn,hf,hn,hb⟩,hcall⟩:=hC
 have hrun:=xb1 (w:=w) hop hcal h1 hf hn hb
 have hmain:∃S:Nat→Prop,(∀x,S x→x<w.heap.size)∧(xrB sg=true→∀x,S x→G.S x)∧xdY S w (av++q.map .ro) (c.args.toList.map a.eval++vs):=by
  rcases hsh with hsh | ⟨hs1,hs2⟩
  ·exact ⟨fun x=>x<w.heap.size,fun _ h=>h,(fun h=>by rw [hsh] at h;cases h),(xjv hR hav2).append (xdY.of_ro (xeY hR hq2 h2))⟩
  ·exact ⟨G.S,fun x hx=>(hR.stb x hx).2,fun _ _ h=>h,(xlp hR (xlo hL hal hs1) hav2).append (xdY.of_ro (xih hs2 hq2 h2))⟩
 obtain ⟨S,hS1,hS2,hrep⟩:=hmain
 unfold Oper.wp
 rw [hrun]
 refine (hcall w S _ (xm2 w0.env hR.below) hS1 hrep).mono fun e w' ⟨v,S',no,cvs,he,hp⟩=>?_
 subst he
 obtain ⟨k1,k2,k3⟩:=hR.called hF hp hS1 hS2
 exact hK _ _ _ ⟨k1.below,k1.defers,k1.size,k1.tmps,k1.boxes,k1.rows,k1.stb,k1.own,k1.rowv,k1.sub,k1.wr,k1.out⟩ k2 k3
end
end Go.Ev
/- More operations that only add. -/
namespace Go.Ev
open Go.RowKit
section
variable {P : Program} {T : Tab} {o : Oper} {F : Fr} {w0 : Base} {G : Gh} {a : Act} {w : World}
theorem xfm {S:Nat→Prop} (hS:∀x,G.S x→S x):∀{cs:List Cell} {ps:List PV} {vs:List Value},xes cs=some ps→xaN G w cs vs→xbp S w ps vs
 | [],ps,vs,h,hv=>by simp only [xes] at h;injection h with h;subst h;have:vs=[]:=hv;subst this;exact ⟨[],.nil,by simp⟩
 | c::cs,ps,vs,h,⟨v,r,e,h1,h2⟩=>by
  simp only [xes] at h
  split at h
  ·rename_i p q e1 e2
   injection h with h
   subst h
   subst e
   obtain ⟨N1,k1,k2⟩:=xaR e1 h1
   obtain ⟨N2,m1,m2⟩:=xfm hS e2 h2
   exact ⟨_,k1.cons m1,fun x hx=>by rcases List.mem_append.1 hx with hx | hx;exact hS x (k2 x hx);exact m2 x hx⟩
  ·cases h
theorem xqa {t:TypeId} {d:TypeDesc} (h:P.underlying t=some d) (hd:(∃k,d=.int k)∨d=.bool∨d=.string) (cs:Array Value) (off:Nat) (v:Value) (hv:cs[off]? = some v):(part t cs off).run P w=.ok v w:=by
 have:(isAgg t).run P w=.ok false w:=by
  rcases hd with ⟨k,rfl⟩ | rfl | rfl<;>simp [isAgg,run_underlying h]
 simp [part,this,hv]
theorem xrF {t:TypeId} {d:TypeDesc} (h:P.underlying t=some d) {z:Option Cell} (hd:xgv z d) {p q:PV} {z':Cell} (hz:z=some z') (hk:xjS z' p) {b:Bool} (hs:PV.same p q=some b) {S:Nat→Prop} {v u:Value} (hv:xbp S w [p] [v]) (hu:xbp S w [q] [u]) (n:Nat) :
 (Op.equalIn (n+1) t v u).run P w=.ok b w:=by
 subst hz
 unfold PV.same at hs
 split at hs
 ·have e1:=hv.int_inv
  have e2:=hu.int_inv
  subst e1;subst e2
  split at hs
  ·rename_i hk'
   subst hk'
   injection hs with hs
   subst hs
   unfold xjS at hk
   split at hk<;>first | exact hk.elim | skip
   ·obtain ⟨k,rfl⟩:=hd
    exact run_equalIn_int w n t _ _ _ _ h
   all_goals (rename_i heq;cases heq)
  ·cases hs
 ·have e1:=hv.bool_inv
  have e2:=hu.bool_inv
  subst e1;subst e2
  injection hs with hs
  subst hs
  unfold xjS at hk
  split at hk<;>first | exact hk.elim | skip
  ·rename_i heq;cases heq
  ·have:d=.bool:=hd
   subst this
   exact run_equalIn_bool' w n t _ _ h
  all_goals (rename_i heq;cases heq)
 ·have e1:=hv.str_inv
  have e2:=hu.str_inv
  subst e1;subst e2
  injection hs with hs
  subst hs
  unfold xjS at hk
  split at hk<;>first | exact hk.elim | skip
  ·rename_i heq;cases heq
  ·rename_i heq;cases heq
  ·have:d=.string:=hd
   subst this
   rw [run_equalIn_string w n t _ _ h,beq_toListBytes]
 ·cases hs
theorem xos {t:TypeId} {d:TypeDesc} (h:P.underlying t=some d) {z:Option Cell} (hd:xgv z d) (cs:Array Value) (off:Nat) (v:Value) (hv:cs[off]? = some v):(part t cs off).run P w=.ok v w:=by
 refine xqa h ?_ cs off v hv
 unfold xgv at hd
 split at hd
 ·exact .inl hd
 ·exact .inr (.inl hd)
 ·exact .inr (.inr hd)
 ·exact hd.elim
theorem xkJ:∀{zs:List Cell} {ps:List PV} {j:Nat} {p:PV},xeh zs ps→ps[j]? = some p→∃z,zs[j]? = some z∧xjS z p
 | [],[],j,p,_,h=>by simp at h
 | z::zs,q::ps,0,p,h,e=>by simp at e;subst e;exact ⟨z,rfl,h.1⟩
 | z::zs,q::ps,j+1,p,h,e=>by
  obtain ⟨z',h1,h2⟩:=xkJ h.2 (by simpa using e)
  exact ⟨z',by simpa using h1,h2⟩
 | [],_::_,_,_,h,_=>h.elim
 | _::_,[],_,_,h,_=>h.elim
theorem xjc:∀{zs:List Cell} {ps:List PV},xeh zs ps→zs.length=ps.length
 | [],[],_=>rfl
 | _::zs,_::ps,h=>by simp [xjc h.2]
 | [],_::_,h=>h.elim
 | _::_,[],h=>h.elim
theorem xgN {zs:List Cell} {xs ys:List Value} {S:Nat→Prop} {N:Nat}:∀(fs:List Field) (j:Nat) (ps qs:List PV) (b:Bool),sames ps qs=some b→ps.length=fs.length →
 (∀ (i : Nat) (f : Field), fs[i]? = some f → f.name ≠ "_" ∧ f.offset = j + i ∧ ∃ d, P.underlying f.type = some d ∧ xgv zs[j + i]? d) →
 (∀(i:Nat) (p:PV),ps[i]? = some p→∃z,zs[j+i]? = some z∧xjS z p)→xbp S w ps (xs.drop j)→xbp S w qs (ys.drop j) →
 (Op.eqFields (N+1) xs.toArray ys.toArray fs).run P w=.ok b w
 | [],j,ps,qs,b,hs,hl,_,_,_,_=>by
  have:ps=[]:=List.eq_nil_of_length_eq_zero hl
  subst this
  cases qs with
  | nil=>simp [sames] at hs;subst hs;simp [Op.eqFields]
  | cons q qs=>simp [sames] at hs
 | f::fs,j,ps,qs,b,hs,hl,hf,hk,hx,hy=>by
  cases ps with
  | nil=>simp at hl
  | cons p ps =>
   cases qs with
   | nil=>simp [sames] at hs
   | cons q qs =>
    simp only [sames] at hs
    split at hs
    ·rename_i b1 b2 e1 e2
     injection hs with hs
     obtain ⟨N1,k1,k2⟩:=hx
     obtain ⟨v,r,M1,M2,hv1,rfl,hv2,hv3⟩:=k1.head
     obtain ⟨N2,m1,m2⟩:=hy
     obtain ⟨u,r',M3,M4,hu1,rfl,hu2,hu3⟩:=m1.head
     have gx:xs[j]? = some v:=by
      have:=congrArg (·[0]?) hv1
      simpa using this
     have gy:ys[j]? = some u:=by
      have:=congrArg (·[0]?) hu1
      simpa using this
     obtain ⟨f1,f2,d,f3,f4⟩:=hf 0 f rfl
     rw [Nat.add_zero] at f2 f4
     obtain ⟨z,z1,z2⟩:=hk 0 p rfl
     rw [Nat.add_zero] at z1
     have p1:=xos (w:=w) f3 f4 xs.toArray f.offset v (by rw [f2];simpa using gx)
     have p2:=xos (w:=w) f3 f4 ys.toArray f.offset u (by rw [f2];simpa using gy)
     have p3:=xrF (w:=w) f3 f4 z1 z2 e1 (S:=S) (v:=v) (u:=u) ⟨M1,hv2,fun x hx=>k2 x (by simp [hx])⟩ ⟨M3,hu2,fun x hx=>m2 x (by simp [hx])⟩ N
     have ih:=xgN (zs:=zs) (xs:=xs) (ys:=ys) (S:=S) (N:=N) fs (j+1) ps qs b2 e2 (by simpa using hl) (fun i f' h=>by
      have:=hf (i+1) f' (by simpa using h)
      rwa [show j+(i+1)=j+1+i by omega] at this)
      (fun i p' h=>by
       have:=hk (i+1) p' (by simpa using h)
       rwa [show j+(i+1)=j+1+i by omega] at this)
      ⟨M2,by
       have:xs.drop (j+1)=r:=by rw [←List.drop_drop,hv1];rfl
       rw [this];exact hv3,fun x hx=>k2 x (by simp [hx])⟩
      ⟨M4,by
       have:ys.drop (j+1)=r':=by rw [←List.drop_drop,hu1];rfl
       rw [this];exact hu3,fun x hx=>m2 x (by simp [hx])⟩
     simp only [Op.eqFields]
     rw [if_pos f1]
     simp only [Sem.run_bind,p1,p2,p3,Result.andThen_ok,Sem.run_ite]
     cases b1
     ·simp at hs ⊢;exact hs
     ·simp at hs ⊢;rw [ih,hs]
    ·cases hs
theorem xrl {op:BinOp} {t t':TypeId} {x y:Operand} {cx cy:List Cell} {p q:List PV} {b:Bool} {i:TI} (hT:xaz P T) (hop:o.op=.binOp op t x y t') (hi:lk T.ti t=some i) (hk:i.eqk=true) (ex:opnd T F 0 x=some (.agg cx)) (ey:opnd T F 0 y=some (.agg cy)) (hp:xes cx=some p) (hq:xes cy=some q)
 (hkp:xeh i.zero p) (hs:sames p q=some b) (hb:op=.eql∨op=.neq):Yields P o F .none (.one (.pv (.bool (match op with | .eql=>b | _=>!b)))):=by
 refine xay fun w0 G F2 a w hL hR=>?_
 obtain ⟨vs,h1,h2⟩:=hR.eval T 0 x _ (xaF hL (fun t ht=>by simp [looks,hop,Op.operands,ht]) ex)
 obtain ⟨us,h3,h4⟩:=hR.eval T 0 y _ (xaF hL (fun t ht=>by simp [looks,hop,Op.operands,ht]) ey)
 have r1:=xfm (S:=G.S) (fun _ h=>h) hp h2
 have r2:=xfm (S:=G.S) (fun _ h=>h) hq h4
 have hty:=hT.ty t i hi
 obtain ⟨g1,g2,fs,g3,g4,g5⟩:=hty.eqk hk
 have hf:P.fieldsOf t=fs:=by simp [Program.fieldsOf,g3]
 have hlen:p.length=fs.toList.length:=by rw [←xjc hkp,hty.zlen,←g4];simp
 have hrun:=xgN (P:=P) (w:=w) (zs:=i.zero) (xs:=vs) (ys:=us) (S:=G.S) (N:=9998) fs.toList 0 p q b hs hlen (fun j f h=>by simpa using g5 j f (by simpa using h)) (fun j p' h=>by simpa using xkJ hkp h) (by simpa using r1) (by simpa using r2)
 have heq:(Op.equalIn 10000 t (.agg vs.toArray) (.agg us.toArray)).run P w=.ok b w:=by
  have:=run_equalIn_struct (P:=P) w 9999 t vs.toArray us.toArray (by rw [hf];exact g3) g2
  rw [hf] at this
  rw [this];exact hrun
 refine ⟨.bool (match op with | .eql=>b | _=>!b),?_,xbp.bool⟩
 have hgd:=fun x y=>run_eqGuard_agg (P:=P) w op t x y vs.toArray us.toArray g1
 rcases hb with rfl | rfl
 ·simp only [execOp,hop,h1,h3,Sem.run_bind,hgd,Result.andThen_ok,run_eql_struct,heq];rfl
 ·simp only [execOp,hop,h1,h3,Sem.run_bind,hgd,Result.andThen_ok,run_neq_struct,heq];rfl
end
end Go.Ev
/- Structs built, slices made and cut, bytes. -/
namespace Go.Ev
open Go.RowKit
section
variable {P : Program} {T : Tab} {o : Oper} {F : Fr} {w0 : Base} {G : Gh} {a : Act} {w : World}
def xmr (G:Gh) (w:World):List (Nat×List Cell)→List (Nat×Value)→Prop
 | [],l=>l=[]
 | (i,cs)::r,l=>∃v q,∃vs:List Value,l=(i,v)::q∧v.cells=vs.toArray∧xaN G w cs vs∧xmr G w r q
theorem xeP (hR:Rel w0 G F a w) {ty:Nat→TypeId}:∀{xs:List (Nat×Operand)} {ps:List (Nat×List Cell)},xdR T F ty xs=some ps→xmr G w ps (xs.map fun x=>(x.1,a.eval x.2))
 | [],ps,h=>by injection h with h;subst h;rfl
 | (i,x)::r,ps,h=>by
  simp only [xdR] at h
  split at h
  ·rename_i v e
   split at h
   ·rename_i cs q e1 e2
    injection h with h
    subst h
    obtain ⟨vs,h1,h2⟩:=xg2 hR (hR.eval T _ x _ e) e1
    exact ⟨_,_,vs,rfl,h1,h2,xeP hR e2⟩
   ·cases h
  ·cases h
theorem xhF {X:Tmp→Prop} {F2:Fr} (hL:Le X F F2) {ty:Nat→TypeId}:∀{xs:List (Nat×Operand)} {ps:List (Nat×List Cell)},(∀t,.tmp t∈xs.map (·.2)→X t)→xdR T F ty xs=some ps→xdR T F2 ty xs=some ps
 | [],ps,_,h=>h
 | (i,x)::r,ps,hx,h=>by
  simp only [xdR] at h ⊢
  split at h
  ·rename_i v e
   rw [xaF hL (fun t ht=>hx t (by simp [ht])) e]
   split at h
   ·rename_i cs q e1 e2
    simp only [e1,xhF hL (fun t ht=>hx t (by simp at ht ⊢;right;exact ht)) e2]
    exact h
   ·cases h
  ·cases h
theorem xik:∀{ps:List (Nat×List Cell)} {vl:List (Nat×Value)} {zero cs:List Cell} {zv:List Value} {flds:List (Nat×Nat)},xll zero flds ps=some cs→xaN G w zero zv→xmr G w ps vl →
 ∃r:List Value,Instr.fill (fun i=>flds[i]?) zv.toArray vl=some r.toArray∧xaN G w cs r
 | [],vl,zero,cs,zv,flds,h,hz,hp=>by
  have:vl=[]:=hp
  subst this
  injection h with h
  subst h
  exact ⟨zv,rfl,hz⟩
 | (i,c)::ps,vl,zero,cs,zv,flds,h,hz,⟨v,q,vs,e,h1,h2,h3⟩=>by
  subst e
  simp only [xll] at h
  split at h
  ·rename_i off sz e1
   split at h
   ·rename_i hc
    obtain ⟨hc1,hc2⟩:=hc
    have l1:=hz.len
    have l2:=h2.len
    obtain ⟨r,k1,k2⟩:=xik (zv:=zv.take off++vs++zv.drop (off+sz)) h ((hz.take off).append h2 |>.append (hz.drop (off+sz))) h3
    refine ⟨r,?_,k2⟩
    simp only [Instr.fill,e1]
    have hvs:v.cells.size=sz:=by rw [h1];simp;omega
    rw [hvs]
    rw [if_neg (by simp;omega)]
    rw [←k1]
    congr 1
    obtain ⟨g1,g2⟩:=Great.foldl_set off v.cells.toList 0 zv.toArray
    rw [←Array.foldl_toList,Array.toList_zipIdx]
    apply Array.ext_getElem?
    intro j
    rw [g2 j]
    have hv2:v.cells.toList=vs:=by rw [h1]
    rw [hv2]
    simp only [List.size_toArray,List.getElem?_toArray,Nat.add_zero]
    by_cases hj:off≤j∧j<off+vs.length∧j<zv.length
    ·rw [if_pos hj,List.append_assoc,List.getElem?_append_right (by rw [List.length_take];omega),List.getElem?_append_left (by rw [List.length_take];omega)]
     rw [List.length_take,Nat.min_eq_left (by omega)]
    ·rw [if_neg hj]
     by_cases hlt:j<off
     ·rw [List.append_assoc,List.getElem?_append_left (by rw [List.length_take];omega),List.getElem?_take,if_pos hlt]
     ·by_cases hin:j<zv.length
      ·rw [List.getElem?_append_right (by simp;omega),List.getElem?_drop]
       congr 1
       simp
       omega
      ·rw [List.getElem?_eq_none (by omega),List.getElem?_eq_none (by simp;omega)]
   ·cases h
  ·cases h
theorem xoB {fs:List Field} (hT:xaz P T):∀(_:∀f∈fs,T.sz f.type≠0),fs.mapM (fun f=>(P.info? f.type).map fun i=>(f.offset,i.size))=some (fs.map fun f=>(f.offset,T.sz f.type)):=by
 induction fs with
 | nil=>intro _;rfl
 | cons f fs ih =>
  intro h
  obtain ⟨i,hi⟩:=xg3 (h f (by simp))
  obtain ⟨inf,h1,h2,_⟩:=(hT.ty _ i hi).info
  have hsz:T.sz f.type=i.size:=by simp [Tab.sz,hi]
  simp [List.mapM_cons,h1,ih (fun g hg=>h g (by simp [hg])),h2,hsz]
theorem xqL {t:TypeId} {parts:Array (Nat×Operand)} {i:TI} {ps:List (Nat×List Cell)} {cs:List Cell} {ty:Nat→TypeId} (hT:xaz P T) (hop:o.op=.build t parts) (hi:lk T.ti t=some i) (ha:i.agg=true) (hps:xdR T F ty parts.toList=some ps) (hb:xll i.zero (i.flds.map fun f=>(f.1,T.sz f.2)) ps=some cs):Yields P o F .none (.agg cs):=by
 refine xay fun w0 G F2 a w hL hR=>?_
 have hpr:=xeP hR (xhF hL (fun t ht=>by simp [looks,hop,Op.operands];simp at ht;obtain ⟨j,hj⟩:=ht;exact ⟨j,hj⟩) hps)
 have hty:=hT.ty t i hi
 obtain ⟨inf,e1,e2,_,z,e3,e4⟩:=hty.info
 obtain ⟨fs,g1,g2⟩:=hty.agg ha
 obtain ⟨r,k1,k2⟩:=xik hb (xcd.rep (G:=G) (w:=w) e4) hpr
 have hbuilt:P.built t (parts.map fun (i,x)=>(i,a.eval x)).toList=some r.toArray:=by
  unfold Program.built
  simp only [e1,g1,e3]
  rw [xoB hT (fun f hf=>hty.fsz (f.offset,f.type) (by rw [←g2];exact List.mem_map.2 ⟨f,hf,rfl⟩))]
  have hm:(fs.toList.map fun f=>(f.offset,T.sz f.type))=i.flds.map fun f=>(f.1,T.sz f.2):=by rw [←g2,List.map_map];rfl
  simp only [hm]
  have hz:z.cells=z.cells.toList.toArray:=by simp
  rw [hz]
  simp only [Array.toList_map]
  rw [←k1]
  congr 1
  funext j
  simp
 have hrun:=run_build (P:=P) w t _ _ hbuilt
 refine ⟨.agg r.toArray,?_,r,rfl,k2⟩
 simp only [execOp,hop]
 rw [Sem.run_bind,hrun]
 rfl
end
end Go.Ev
/- New rows, cut slices, bytes of a string. -/
namespace Go.Ev
open Go.RowKit
section
variable {P : Program} {T : Tab} {o : Oper} {F : Fr} {w0 : Base} {G : Gh} {a : Act} {w : World}
def Gh.rowed (G:Gh) (k b:Nat) (v:Value):Gh:={ G with own:=fun x=>if x=b then some k else G.own x,row:=fun j=>if j=k then some v else G.row j }
theorem Below.under {u w w':World} (h:Below u.heap.size u w) (h':Below w.heap.size w w'):Below u.heap.size u w' :=
 ⟨h'.os.trans h.os,h'.tape.trans h.tape,h'.output.trans h.output,Nat.le_trans h.size h'.size,fun k hk=>(h'.block k (Nat.lt_of_lt_of_le hk h.size)).trans (h.block k hk)⟩
theorem Rel.newRow1 (hR:Rel w0 G F a w) {n:Nat} (hF:Free G n (n+1)) {w':World} {v:Value} {r:Row} (hB:Below w.heap.size w w') (hsz:w'.heap.size=w.heap.size+1)
 (hv:∃ad l c,v=.slice ad l c) (hvb:v.ownBlock=some w.heap.size) (hks:r.kind≠.shared) (hok:xbk (G.rowed n w.heap.size v) w' n r v) :
 Rel w0 (G.rowed n w.heap.size v) (F.plus ⟨[(n,r)],[],1⟩) a w'∧Apart G (G.rowed n w.heap.size v) n (n+1):=by
 obtain ⟨f1,f2,f3⟩:=hF n (Nat.le_refl _) (by omega)
 have hold:∀x,x<w.heap.size→w'.heap[x]? = w.heap[x]? := fun x hx=>hB.block x hx
 have hG:xfg G (G.rowed n w.heap.size v):=⟨fun _ h=>h,(fun k b h=>by
  show (if k=n then some v else G.row k)=some b
  rw [if_neg]
  ·exact h
  ·intro hk;subst hk;rw [f1] at h;cases h),fun _ _ h=>h⟩
 refine ⟨hR.move (Below.under hR.below hB) hG (fun x hx=>hold x (hR.stb x hx).2) rfl rfl ?_ ?_ ?_ ?_ ?_ hR.sub ?_,?_⟩
 ·intro k cells b e1 e2
  have h1:=hR.boxes k cells b e1 e2
  have hlt:=(hR.own b k h1.1).2
  refine xf7.carry hG (fun x hx=>hold x (hR.stb x hx).2) (fun _=>⟨hold b hlt,?_⟩) h1
  show (if b=w.heap.size then some n else G.own b)=some k
  rw [if_neg (by omega)]
  exact h1.1
 ·intro id r' u e1 e2
  simp only [Fr.plus,List.cons_append,List.nil_append,xas] at e1
  by_cases hk:n=id
  ·subst hk
   rw [if_pos rfl] at e1
   injection e1 with e1
   subst e1
   have:v=u:=by
    have e3:(if n=n then some v else G.row n)=some u:=e2
    rw [if_pos rfl] at e3
    injection e3
   subst this
   exact hok
  ·rw [if_neg hk] at e1
   have e3:G.row id=some u:=by
    have:(if id=n then some v else G.row id)=some u:=e2
    rwa [if_neg (fun h=>hk h.symm)] at this
   refine xbk.carry hG.S (fun x hx=>hold x (hR.stb x hx).2) (fun x hx=>⟨hold x (hR.own x id hx).2,?_⟩) (hR.rows id r' u e1 e3)
   show (if x=w.heap.size then some n else G.own x)=some id
   rw [if_neg (by have:=(hR.own x id hx).2;omega)]
   exact hx
 ·intro x hx
  have:=hR.stb x hx
  refine ⟨?_,by rw [hsz];omega⟩
  show (if x=w.heap.size then some n else G.own x)=none
  rw [if_neg (by omega)]
  exact this.1
 ·intro x id hx
  have hx':(if x=w.heap.size then some n else G.own x)=some id:=hx
  rw [hsz]
  split at hx'
  ·rename_i h;subst h;exact ⟨hR.below.size,by omega⟩
  ·have:=hR.own x id hx';exact ⟨this.1,by omega⟩
 ·intro id u hx
  have hx':(if id=n then some v else G.row id)=some u:=hx
  split at hx'
  ·injection hx' with hx';subst hx';exact hv
  ·exact hR.rowv id u hx'
 ·intro x id hx
  have hx':(if x=w.heap.size then some n else G.own x)=some id:=hx
  split at hx'
  ·rename_i h
   subst h
   unfold xbk at hok
   split at hok
   ·rename_i e;exact absurd e hks
   ·obtain ⟨_,rows,xs,N,_,_,_,ho,_⟩:=hok
    rcases ho.2 with ⟨rfl,_⟩ | ⟨g,cap,cur,rfl,_,hh,_⟩
    ·cases hvb
    ·have:g=w.heap.size:=by injection hvb
     subst this
     exact ⟨_,_,hh⟩
  ·exact (hR.wr x id hx').stay (hold x (hR.own x id hx').2)
 ·refine ⟨fun id h=>?_,fun _ _=>rfl,fun id x h=>?_⟩
  ·show (if id=n then _ else _)=_
   rw [if_neg (by omega)]
  ·show (if x=w.heap.size then some n else G.own x)=some id↔_
   split
   ·rename_i hx
    constructor
    ·intro h';injection h' with h';omega
    ·intro h';have:=(hR.own x id h').2;omega
   ·exact Iff.rfl
theorem xcD:∀{cs:List Cell} {vs:List Value} {ps:List PV},xcd cs vs→xaI F cs=some ps→xak w ps vs []
 | [],vs,ps,h,e=>by injection e with e;subst e;have:vs=[]:=h;subst this;exact .nil
 | .pv (.int k n)::cs,vs,ps,⟨r,e1,h⟩,e=>by
  subst e1;simp only [xaI,xa5] at e
  split at e
  ·rename_i p q e2 e3;injection e with e;subst e;injection e2 with e2;subst e2;exact .int (xcD h e3)
  ·cases e
 | .pv (.bool b)::cs,vs,ps,⟨r,e1,h⟩,e=>by
  subst e1;simp only [xaI,xa5] at e
  split at e
  ·rename_i p q e2 e3;injection e with e;subst e;injection e2 with e2;subst e2;exact .bool (xcD h e3)
  ·cases e
 | .pv (.str s)::cs,vs,ps,⟨r,e1,h⟩,e=>by
  subst e1;simp only [xaI,xa5] at e
  split at e
  ·rename_i p q e2 e3;injection e with e;subst e;injection e2 with e2;subst e2;exact .str (xcD h e3)
  ·cases e
 | .nil _ _::cs,vs,ps,⟨r,e1,h⟩,e=>by
  subst e1;simp only [xaI,xa5] at e
  split at e
  ·rename_i p q e2 e3;injection e with e;subst e;injection e2 with e2;subst e2;exact .lnil (xcD h e3)
  ·cases e
 | .pv (.list _ _)::_,_,_,h,_=>h.elim
 | .own _::_,_,_,h,_=>h.elim
 | .dead::_,_,_,h,_=>h.elim
 | .kb _::_,_,_,h,_=>h.elim
 | .ptr _ _::_,_,_,h,_=>h.elim
 | .sptr _::_,_,_,h,_=>h.elim
 | .optr _ _ _ _::_,_,_,h,_=>h.elim
 | .fn _ _::_,_,_,h,_=>h.elim
 | .sfn _ _::_,_,_,h,_=>h.elim
theorem xd8 {ps:List PV} {zs:Array Value} (h:xak w ps zs.toList []):∀(n:Nat),xak w (List.replicate n ps).flatten (madeCells zs (n*zs.size)).toList []
 | 0=>by simp [madeCells];exact .nil
 | n+1=>by
  have e:(madeCells zs ((n+1)*zs.size)).toList=zs.toList++(madeCells zs (n*zs.size)).toList:=by
   apply List.ext_getElem?
   intro j
   simp only [madeCells,Array.toList_map,Array.toList_range,List.getElem?_map]
   by_cases hj:j<zs.size
   ·rw [List.getElem?_append_left (by simpa using hj)]
    rw [List.getElem?_range (by rw [Nat.succ_mul];omega)]
    simp [Nat.mod_eq_of_lt hj,hj]
   ·rw [List.getElem?_append_right (by simp;omega)]
    simp only [List.getElem?_map,Array.length_toList]
    by_cases hj2:j<(n+1)*zs.size
    ·have:j-zs.size<n*zs.size:=by rw [Nat.succ_mul] at hj2;omega
     rw [List.getElem?_range hj2,List.getElem?_range this]
     simp only [Option.map_some]
     rw [Nat.mod_eq_sub_mod (by omega)]
    ·rw [List.getElem?_eq_none (by simpa using hj2),List.getElem?_eq_none (by rw [Nat.succ_mul] at hj2;simp;omega)]
  rw [e,List.replicate_succ,List.flatten_cons]
  exact h.append (xd8 h n)
theorem xlv {t:TypeId} {n m:Operand} {i e:TI} {z:List PV} {k:IntKind} {c:Int} {cn cm:Cell} (hT:xaz P T) (hop:o.op=.makeSlice t n m) (hi:lk T.ti t=some i) (he:lk T.ti i.elem=some e) (hz:xaI F e.zero=some z) (hl:e.zero.length=e.size)
 (en:opnd T F 0 n=some (.one cn)) (em:opnd T F 0 m=some (.one cm)) (hn:xbR cn=some (.int k c)) (hm:xbR cm=some (.int k c)) (h0:0≤c) (hc:c.toNat<1073741824) :
 Yields P o F ⟨[(F.next,⟨.deep,i.elem,e.size,.list e.size (List.replicate c.toNat z)⟩)],[],1⟩ (.one (.own F.next)):=by
 intro w0 G F2 a w K Q hL hR hF hK
 have h1:=(xaR hn (hR.eval T 0 n _ (xaF hL (fun t ht=>by simp [looks,hop,Op.operands,ht]) en))).int_inv
 have h2:=(xaR hm (hR.eval T 0 m _ (xaF hL (fun t ht=>by simp [looks,hop,Op.operands,ht]) em))).int_inv
 have he0:i.elem≠0:=by intro h;rw [h,hT.zero] at he;cases he
 have hty:=hT.ty _ _ he
 obtain ⟨inf,q1,q2,q3,zz,q4,q5⟩:=hty.info
 have hzl:zz.cells.size=e.size:=by have:=(xcd.rep (G:=G) (w:=w) q5).len;rw [hl] at this;simpa using this.symm
 have hmul:inf.bytes*c.toNat≤281474976710656:=by
  have:=Nat.mul_le_mul q3 (Nat.le_of_lt hc)
  omega
 obtain ⟨w',g1,g2,g3⟩:=run_make_full (P:=P) w w.heap.size t i.elem inf zz e.size ((hT.ty t i hi).slice he0) q1 q4 q2 k k c.toNat hmul (by simp [maxLen];omega) (Nat.le_refl _)
 have hsz:w'.heap.size=w.heap.size+1:=by
  have hr:=run_make (P:=P) w t i.elem inf zz ((hT.ty t i hi).slice he0) q1 q4 k k c.toNat c.toNat (by omega) (Int.le_refl _) (by
   have h:((inf.bytes*c.toNat:Nat):Int)≤281474976710656:=by omega
   rwa [Int.natCast_mul] at h) (by omega)
  rw [g1] at hr
  injection hr with _ hr
  rw [hr];simp
 have hcast:((c.toNat:Nat):Int)=c:=by omega
 rw [hcast] at g1
 have hB:Below w.heap.size w w':=⟨g3.os,g3.tape,g3.output,g3.size,fun k hk=>g3.block k hk (by simp)⟩
 have hzr:xak w' z zz.cells.toList []:=xcD (F:=F) q5 hz
 have hzl':z.length=e.size:=by have:=hzr.len;simp at this;omega
 have hrep:=xd8 hzr c.toNat
 rw [hzl] at hrep
 obtain ⟨k1,k2⟩:=hR.newRow1 hF (v:=.slice (some ⟨w.heap.size,0,none⟩) c.toNat c.toNat) (r:=⟨.deep,i.elem,e.size,.list e.size (List.replicate c.toNat z)⟩) hB hsz ⟨_,_,_,rfl⟩ rfl (by simp) (by
  refine ⟨hty.size,List.replicate c.toNat z,_,[],rfl,fun q hq=>by rw [List.eq_of_mem_replicate hq,hzl'],hrep,?_,?_,?_⟩
  ·rw [List.length_replicate]
   obtain ⟨a1,a2⟩:=g2
   refine ⟨a1,?_⟩
   rcases a2 with a2 | ⟨g,cap,cur,a3,_,a4⟩
   ·exact .inl a2
   ·exact .inr ⟨g,cap,cur,a3,Nat.zero_le _,a4⟩
  ·intro b hb
   have:w.heap.size=b:=by simpa [Value.ownBlock] using hb
   subst this
   show (if w.heap.size=w.heap.size then _ else _)=_
   rw [if_pos rfl]
  ·simp)
 refine xbv (v:=.slice (some ⟨w.heap.size,0,none⟩) c.toNat c.toNat) (w':=w') ?_ (hK _ _ _ k1 ?_ k2)
 ·simp only [execOp,hop,h1,h2]
  rw [Sem.run_bind,g1]
  rfl
 ·show (if F.next=F.next then _ else _)=_
  rw [if_pos rfl]
def xq0 (x:Option Value) (n:Option Nat):Prop:=match x,n with
 | none,none=>True
 | some v,some n=>∃k,v=.int k (n:Int)
 | _,_=>False
theorem xhA {t:TypeId} (ht:P.underlying t=some (.slice (P.elem t))) {ad:Option Addr} {len cap:Nat} {lo hi:Option Value} {l h:Option Nat} (hlo:xq0 lo l) (hhi:xq0 hi h) (h1:l.getD 0≤h.getD len) (h2:h.getD len≤len) (h3:h≠none→len≤cap) :
 (Instr.slice t (.slice ad len cap) lo hi none).run P w=((sizeOf (P.elem t)).run P w).andThen fun s w=>.ok (sliced ad (l.getD 0) (h.getD len) cap s) w:=by
 match lo,l,hi,h,hlo,hhi with
 | none,none,none,none,_,_=>exact run_slice_all w t ad len cap ht
 | none,none,some v,some h,_,⟨k,e⟩ =>
  subst e
  have:=run_slice_h (P:=P) w t ad len cap ht k (h:Int) (by omega) (by have:=h3 (by simp);simp at h2;omega)
  simpa using this
 | some v,some l,none,none,⟨k,e⟩,_ =>
  subst e
  have:=run_slice_l (P:=P) w t ad len cap ht k (l:Int) (by omega) (by simp at h1;omega)
  simpa using this
 | some v,some l,some u,some h,⟨k,e⟩,⟨k',e'⟩ =>
  subst e;subst e'
  have:=run_slice_lh (P:=P) w t ad len cap ht k k' (l:Int) (h:Int) (by omega) (by simp at h1;omega) (by have:=h3 (by simp);simp at h2;omega)
  simpa using this
theorem xp0 {t:TypeId} (ht:P.underlying t=some .string) {s:ByteArray} {lo hi:Option Value} {l h:Option Nat} (hlo:xq0 lo l) (hhi:xq0 hi h) (h1:l.getD 0≤h.getD s.size) (h2:h.getD s.size≤s.size) :
 (Instr.slice t (.string s) lo hi none).run P w=.ok (.string (s.extract (l.getD 0) (h.getD s.size))) w:=by
 match lo,l,hi,h,hlo,hhi with
 | none,none,none,none,_,_=>simpa using run_slice_string_all w t s ht
 | none,none,some v,some h,_,⟨k,e⟩ =>
  subst e
  have:=run_slice_string_h (P:=P) w t s ht k (h:Int) (by omega) (by simp at h2;omega)
  simpa using this
 | some v,some l,none,none,⟨k,e⟩,_ =>
  subst e
  have:=run_slice_string_l (P:=P) w t s ht k (l:Int) (by omega) (by simp at h1;omega)
  simpa using this
 | some v,some l,some u,some h,⟨k,e⟩,⟨k',e'⟩ =>
  subst e;subst e'
  simp at h1 h2
  have e1:(l:Int)≤(h:Int):=by omega
  have e2:(h:Int)≤(s.size:Int):=by omega
  simp [Instr.slice,run_underlying ht,Instr.sliceBounds,run_sliceBound,sliced,e1,e2]
theorem xak.slice {ps:List PV} {vs:List Value} {N:List Nat} (a b:Nat) (h:xak w ps vs N):∃N',xak w ((ps.take b).drop a) ((vs.take b).drop a) N'∧∀x∈N',x∈N:=by
 obtain ⟨N1,h1,h2⟩:=h.take b
 obtain ⟨N2,h3,h4⟩:=h1.drop a
 exact ⟨N2,h3,fun x hx=>h2 x (h4 x hx)⟩
theorem xl7 {rows:List (List PV)} {sz:Nat} (hl:∀q∈rows,q.length=sz) (l h:Nat):((rows.take h).drop l).flatten=(rows.flatten.take (h*sz)).drop (l*sz):=by
 have htk:∀(rows:List (List PV)) (h:Nat),(∀q∈rows,q.length=sz)→(rows.take h).flatten=rows.flatten.take (h*sz):=by
  intro rows
  induction rows with
  | nil=>intro h _;simp
  | cons r rows ih =>
   intro h hl
   cases h with
   | zero=>simp
   | succ h =>
    have hr:=hl r (by simp)
    rw [List.take_succ_cons,List.flatten_cons,List.flatten_cons,List.take_append,ih h (fun q hq=>hl q (by simp [hq]))]
    rw [List.take_of_length_le (l:=r) (by rw [hr,Nat.succ_mul];omega)]
    rw [show (h+1)*sz-r.length=h*sz by rw [hr,Nat.succ_mul];omega]
 have hdr:∀(rows:List (List PV)) (l:Nat),(∀q∈rows,q.length=sz)→(rows.drop l).flatten=rows.flatten.drop (l*sz):=by
  intro rows
  induction rows with
  | nil=>intro l _;simp
  | cons r rows ih =>
   intro l hl
   cases l with
   | zero=>simp
   | succ l =>
    have hr:=hl r (by simp)
    rw [List.drop_succ_cons,List.flatten_cons,List.drop_append,ih l (fun q hq=>hl q (by simp [hq]))]
    rw [List.drop_of_length_le (l:=r) (by rw [hr,Nat.succ_mul];omega)]
    rw [show (l+1)*sz-r.length=l*sz by rw [hr,Nat.succ_mul];omega]
    simp
 rw [hdr _ _ fun q hq=>hl q (List.mem_of_mem_take hq),htk _ _ hl]
theorem xpb {S:Nat→Prop} {sz:Nat} {rows:List (List PV)} {v:Value} (h0:0<sz) (hv:xbp S w [.list sz rows] [v]) {t:TypeId} (ht:P.underlying t=some (.slice (P.elem t))) (hsz:(sizeOf (P.elem t)).run P w=.ok sz w)
 {lo hi:Option Value} {l h:Option Nat} (hlo:xq0 lo l) (hhi:xq0 hi h) (h1:l.getD 0≤h.getD rows.length) (h2:h.getD rows.length≤rows.length) :
 ∃u,(Instr.slice t v lo hi none).run P w=.ok u w∧xbp S w [.list sz ((rows.take (h.getD rows.length)).drop (l.getD 0))] [u]:=by
 obtain ⟨N,hv,hS⟩:=hv
 generalize hH:h.getD rows.length=H at h1 h2
 generalize hL:l.getD 0=L at h1
 cases hv with
 | @lnil _ ad cap _ _ _ hn =>
  have hh:h.getD 0=H:=hH
  simp at h2
  subst h2
  have hL0:L=0:=by omega
  subst hL0
  have hrun:(Instr.slice t (.slice ad 0 cap) lo hi none).run P w=.ok (sliced ad (l.getD 0) (h.getD 0) cap sz) w:=by
   rw [xhA ht hlo hhi (by omega) (by omega) (fun _=>Nat.zero_le _),hsz];rfl
  rw [hL,hh] at hrun
  exact ⟨_,hrun,[],by simp [sliced];exact .lnil .nil,by simp⟩
 | @list _ _ b off cap xs N1 _ _ N2 hs hne hl hc cells hv hn =>
  have hrun:(Instr.slice t (.slice (some ⟨b,off,none⟩) rows.length cap) lo hi none).run P w=.ok (sliced (some ⟨b,off,none⟩) (l.getD 0) (h.getD rows.length) cap sz) w:=by
   rw [xhA ht hlo hhi (by omega) (by omega) (fun _=>hc),hsz];rfl
  rw [hL,hH] at hrun
  refine ⟨_,hrun,?_⟩
  by_cases hLH:L=H
  ·subst hLH
   have:(rows.take L).drop L=[]:=List.drop_of_length_le (by simp;omega)
   rw [this]
   exact ⟨[],by simp [sliced];exact .lnil .nil,by simp⟩
  ·obtain ⟨N',k1,k2⟩:=xak.slice (L*sz) (H*sz) hv
   rw [←xl7 hl] at k1
   have hlen:((rows.take H).drop L).length=H-L:=by simp;omega
   have hcap:cap≠L:=by omega
   refine ⟨b::(N'++[]),?_,fun x hx=>?_⟩
   ·have:=xak.list (w:=w) (sz:=sz) (rows:=(rows.take H).drop L) (b:=b) (off:=off+L*sz) (cap:=cap-L) (xs:=(xs.take (H*sz)).drop (L*sz)) (N1:=N') hs (by intro h;rw [h] at hlen;simp at hlen;omega)
     (fun q hq=>hl q (List.mem_of_mem_take (List.mem_of_mem_drop hq))) (by rw [hlen];omega) (fun j u hu=>by
      rw [List.getElem?_drop,List.getElem?_take] at hu
      split at hu
      ·have:=cells _ _ hu
       rwa [←Nat.add_assoc] at this
      ·cases hu) k1 .nil
    rw [hlen] at this
    simpa [sliced,hcap,xeL] using this
   ·simp only [List.append_nil,List.mem_cons] at hx
    rcases hx with rfl | hx
    ·exact hS _ (by simp)
    ·exact hS x (by simp [k2 x hx])
theorem xg7 {x:Option Operand} {k:Option Nat→Prop} (h:xuf T F x k):∃n,k n∧((x=none∧n=none)∨∃y p kd m,x=some y∧opnd T F 0 y=some (.one (.pv p))∧p=.int kd m∧0≤m∧n=some m.toNat):=by
 unfold xuf at h
 split at h
 ·exact ⟨none,h,.inl ⟨rfl,rfl⟩⟩
 ·split at h
  ·rename_i y p e
   unfold xg6 at h
   split at h
   ·exact ⟨_,h.2,.inr ⟨_,_,_,_,rfl,e,rfl,h.1,rfl⟩⟩
   ·exact h.elim
  ·exact h.elim
def xg1 (T:Tab) (F:Fr) (x:Option Operand) (n:Option Nat):Prop:=(x=none∧n=none)∨∃y p kd m,x=some y∧opnd T F 0 y=some (.one (.pv p))∧p=.int kd m∧0≤m∧n=some m.toNat
theorem xg1.v {x:Option Operand} {n:Option Nat} (h:xg1 T F x n) {X:Tmp→Prop} {F2:Fr} (hL:Le X F F2) (hx:∀t,x=some (.tmp t)→X t) (hR:Rel w0 G F2 a w):xq0 (x.map a.eval) n:=by
 rcases h with ⟨rfl,rfl⟩ | ⟨y,p,kd,m,rfl,e,rfl,h0,rfl⟩
 ·trivial
 ·have:=xbp.int_inv (hR.eval T 0 y _ (xaF hL (fun t ht=>hx t (by rw [ht])) e))
  exact ⟨kd,by rw [this];congr 1;omega⟩
theorem xj3 {t e:TypeId} (h:P.underlying t=some (.slice e)):P.underlying t=some (.slice (P.elem t)):=by
 have:P.elem t=e:=by simp [Program.elem,h]
 rw [this];exact h
theorem xsf {t:TypeId} {x:Operand} {lo hi:Option Operand} {l h:Option Nat} {s:ByteArray} {c:Cell} {i:TI} (hT:xaz P T) (hop:o.op=.slice t x lo hi none) (hti:lk T.ti t=some i) (htag:i.tag=1) (ex:opnd T F 0 x=some (.one c)) (hp:xbR c=some (.str s))
 (hlo:xg1 T F lo l) (hhi:xg1 T F hi h) (h1:l.getD 0≤h.getD s.size) (h2:h.getD s.size≤s.size):Yields P o F .none (.one (.pv (.str (s.extract (l.getD 0) (h.getD s.size))))):=by
 refine xay fun w0 G F2 a w hL hR=>?_
 have e1:=(xaR hp (hR.eval T 0 x _ (xaF hL (fun t ht=>by simp [looks,hop,Op.operands,ht]) ex))).str_inv
 have hd:=(hT.ty t i hti).tag1 htag
 have:=xp0 (P:=P) (w:=w) hd (hlo.v (X:=looks o) hL (fun t ht=>by simp [looks,hop,Op.operands,ht]) hR) (hhi.v (X:=looks o) hL (fun t ht=>by simp [looks,hop,Op.operands,ht]) hR) h1 h2
 refine ⟨_,?_,xbp.str⟩
 simp only [execOp,hop,e1,Option.map_none]
 rw [Sem.run_bind,run_sliceAt_string _ _ _ _ _ _ hd,this]
 rfl
theorem xsg {t:TypeId} {x:Operand} {lo hi:Option Operand} {l h:Option Nat} {rows:List (List PV)} {c:Cell} (hT:xaz P T) (hop:o.op=.slice t x lo hi none) (h0:T.esz t≠0) (ex:opnd T F 0 x=some (.one c)) (hp:xbR c=some (.list (T.esz t) rows))
 (hlo:xg1 T F lo l) (hhi:xg1 T F hi h) (h1:l.getD 0≤h.getD rows.length) (h2:h.getD rows.length≤rows.length):Yields P o F .none (.one (.pv (.list (T.esz t) ((rows.take (h.getD rows.length)).drop (l.getD 0))))):=by
 refine xay fun w0 G F2 a w hL hR=>?_
 have e1:=xaR hp (hR.eval T 0 x _ (xaF hL (fun t ht=>by simp [looks,hop,Op.operands,ht]) ex))
 obtain ⟨ti,tj,q1,q2,q3,q4⟩:=hT.esz (Nat.pos_of_ne_zero h0)
 have hd:=xj3 q4
 have hel:P.elem t=ti.elem:=by simp [Program.elem,q4]
 have hsz:(sizeOf (P.elem t)).run P w=.ok (T.esz t) w:=by rw [hel,xa3 (hT.ty _ _ q2),q3]
 obtain ⟨u,k1,k2⟩:=xpb (Nat.pos_of_ne_zero h0) e1 hd hsz (hlo.v (X:=looks o) hL (fun t ht=>by simp [looks,hop,Op.operands,ht]) hR) (hhi.v (X:=looks o) hL (fun t ht=>by simp [looks,hop,Op.operands,ht]) hR) h1 h2
 refine ⟨u,?_,k2⟩
 simp only [execOp,hop,Option.map_none]
 rw [Sem.run_bind,run_sliceAt_slice _ _ _ _ _ _ hd,k1]
 rfl
theorem xsh {t:TypeId} {x:Operand} {lo hi:Option Operand} {l h:Option Nat} {e sz:Nat} (hT:xaz P T) (hop:o.op=.slice t x lo hi none) (h0:T.esz t≠0) (ex:opnd T F 0 x=some (.one (.nil e sz)))
 (hlo:xg1 T F lo l) (hhi:xg1 T F hi h) (h1:l.getD 0=0) (h2:h.getD 0=0):Yields P o F .none (.one (.nil e sz)):=by
 refine xay fun w0 G F2 a w hL hR=>?_
 have e1:a.eval x=.slice none 0 0:=hR.eval T 0 x _ (xaF hL (fun t ht=>by simp [looks,hop,Op.operands,ht]) ex)
 obtain ⟨ti,tj,q1,q2,q3,q4⟩:=hT.esz (Nat.pos_of_ne_zero h0)
 have hd:=xj3 q4
 have hel:P.elem t=ti.elem:=by simp [Program.elem,q4]
 have hsz:(sizeOf (P.elem t)).run P w=.ok (T.esz t) w:=by rw [hel,xa3 (hT.ty _ _ q2),q3]
 have k1:(Instr.slice t (.slice none 0 0) (lo.map a.eval) (hi.map a.eval) none).run P w=.ok (.slice none 0 0) w:=by
  rw [xhA hd (hlo.v (X:=looks o) hL (fun t ht=>by simp [looks,hop,Op.operands,ht]) hR) (hhi.v (X:=looks o) hL (fun t ht=>by simp [looks,hop,Op.operands,ht]) hR) (by omega) (by omega) (fun _=>Nat.zero_le _),hsz]
  rw [h1,h2]
  rfl
 refine ⟨.slice none 0 0,?_,rfl⟩
 simp only [execOp,hop,Option.map_none,e1]
 rw [Sem.run_bind,run_sliceAt_slice _ _ _ _ _ _ hd,k1]
 rfl
theorem Rel.newShared (hR:Rel w0 G F a w) {w':World} (hB:Below w.heap.size w w') (hsz:w.heap.size<w'.heap.size) (b:Nat) (hb:w.heap.size≤b∧b<w'.heap.size) :
 Rel w0 { G with S:=fun x=>G.S x∨x=b } F a w':=by
 have hold:∀x,x<w.heap.size→w'.heap[x]? = w.heap[x]? := fun x hx=>hB.block x hx
 have hG:xfg G { G with S:=fun x=>G.S x∨x=b }:=⟨fun _ h=>.inl h,fun _ _ h=>h,fun _ _ h=>h⟩
 refine hR.move (Below.under hR.below hB) hG (fun x hx=>hold x (hR.stb x hx).2) rfl rfl ?_ ?_ ?_ ?_ hR.rowv (fun x hx=>hx.elim (hR.sub x) fun e=>.inr (by have:=hR.below.size;omega)) (fun x id hx=>(hR.wr x id hx).stay (hold x (hR.own x id hx).2))
 ·intro k cells b e1 e2
  have h1:=hR.boxes k cells b e1 e2
  have hlt:=(hR.own b k h1.1).2
  exact xf7.carry hG (fun x hx=>hold x (hR.stb x hx).2) (fun h=>⟨hold b hlt,h⟩) h1
 ·intro id r u e1 e2
  exact xbk.carry hG.S (fun x hx=>hold x (hR.stb x hx).2) (fun x hx=>⟨hold x (hR.own x id hx).2,hx⟩) (hR.rows id r u e1 e2)
 ·intro x hx
  rcases hx with hx | rfl
  ·have:=hR.stb x hx;exact ⟨this.1,by omega⟩
  ·refine ⟨?_,hb.2⟩
   show G.own x=none
   cases h:G.own x with
   | none=>rfl
   | some id=>have:=(hR.own x id h).2;omega
 ·intro x id hx
  have:=hR.own x id hx;exact ⟨this.1,by omega⟩
theorem xmf (w:World) (e:TypeId) (s:ByteArray):Below w.heap.size w (Lib.bytesWorld w e s):=by
 refine ⟨?_,?_,?_,by rw [Lib.bytesWorld_size];omega,fun k hk=>Lib.bytesWorld_at_old w e s k hk⟩ <;>
 simp [Lib.bytesWorld,World.freeze,World.alloc,World.drew,-World.alloc_eq,-World.drew_eq]
theorem xoR (w:World):∀(l:List UInt8),xak w (l.map fun b=>PV.int .u8 b.toNat) (l.map fun b=>Value.int .u8 b.toNat) []
 | []=>.nil
 | b::l=>.int (xoR w l)
theorem xqK {s d:TypeId} {x:Operand} {c:Cell} {b:ByteArray} {i j:TI} (hT:xaz P T) (hop:o.op=.convert s d x) (ex:opnd T F 0 x=some (.one c)) (hp:xbR c=some (.str b)) (hi:lk T.ti d=some i) (hj:lk T.ti s=some j) (hk:i.tag=2) (hk':j.tag=1) :
 Yields P o F .none (.one (.pv (.list 1 (b.data.toList.map fun b=>[PV.int .u8 b.toNat])))):=by
 intro w0 G F2 a w K Q hL hR hF hK
 have h1:=(xaR hp (hR.eval T 0 x _ (xaF hL (fun t ht=>by simp [looks,hop,Op.operands,ht]) ex))).str_inv
 obtain ⟨q1,q2⟩:=(hT.ty d i hi).tag2 hk
 have hd:=(hT.ty d i hi).slice q2
 have hs:=(hT.ty s j hj).tag1 hk'
 have hrun:=Lib.run_convert_string_bytes w s d i.elem b hs hd q1
 have hsz:=Lib.bytesWorld_size w i.elem b
 have k1:=hR.newShared (xmf w i.elem b) (by omega) w.heap.size ⟨Nat.le_refl _,by omega⟩
 refine xbv (v:=.slice (some ⟨w.heap.size,0,none⟩) b.size (grownCap w b.size 0 i.elem)) (w':=Lib.bytesWorld w i.elem b) ?_ (hK { G with S:=fun x=>G.S x∨x=w.heap.size } _ _ (by rw [Fr.plus_none];exact k1) ?_ ⟨fun _ _=>rfl,fun _ _=>rfl,fun _ _ _=>Iff.rfl⟩)
 ·simp only [execOp,hop,h1]
  rw [Sem.run_bind,hrun]
  rfl
 ·by_cases hb:b.data.toList=[]
  ·have:b.size=0:=by
    have h9:b.data.toList.length=0:=by rw [hb];rfl
    exact h9
   rw [hb,this]
   exact ⟨[],.lnil .nil,by simp⟩
  ·have hlen:(b.data.toList.map fun b=>[PV.int .u8 b.toNat]).length=b.size:=by rw [List.length_map];rfl
   have hfl:(b.data.toList.map fun b=>[PV.int .u8 b.toNat]).flatten=b.data.toList.map fun b=>PV.int .u8 b.toNat:=by
    induction b.data.toList with
    | nil=>rfl
    | cons x l ih=>simp [ih]
   refine ⟨w.heap.size::([]++[]),?_,fun x hx=>.inr (by simpa using hx)⟩
   have:=xak.list (w:=Lib.bytesWorld w i.elem b) (sz:=1) (rows:=b.data.toList.map fun b=>[PV.int .u8 b.toNat]) (b:=w.heap.size) (off:=0) (cap:=grownCap w b.size 0 i.elem) (xs:=b.data.toList.map fun b=>Value.int .u8 b.toNat) (N1:=[]) (ps:=[]) (vs:=[]) (N2:=[])
    (by omega) (fun h=>hb (List.map_eq_nil_iff.1 h)) (by intro q hq;obtain ⟨y,_,rfl⟩:=List.mem_map.1 hq;rfl) (by rw [hlen];exact grownCap_ge w b.size 0 i.elem) (fun j u hu=>by
     have hj:j<b.size:=by
      rcases Nat.lt_or_ge j b.size with h' | h'
      ·exact h'
      ·rw [List.getElem?_eq_none (by rw [List.length_map];exact h')] at hu;cases hu
     rw [Nat.zero_add,Lib.bytesWorld_cell w i.elem b j hj]
     rw [List.getElem?_map] at hu
     obtain ⟨y,hy,rfl⟩:=Option.map_eq_some_iff.1 hu
     simp [List.getD,hy]) (by rw [hfl];exact xoR _ _) .nil
   rw [hlen] at this
   exact this
theorem xak.flat_nil {ps:List PV} {vs:List Value} {N:List Nat} (hf:flats ps) (h:xak w ps vs N):N=[]:=by
 induction h with
 | nil=>rfl
 | int _ ih | bool _ ih | str _ ih=>exact ih fun p hp=>hf p (by simp [hp])
 | lnil _ _=>have:=hf _ (List.mem_cons_self ..);cases this
 | list _ _ _ _ _ _ _ _ _=>have:=hf _ (List.mem_cons_self ..);cases this
theorem xke {t:TypeId} {x:Operand} {i:TI} {id sz j off:Nat} {row:Row} {cells:List PV} {tv:TV} (hT:xaz P T) (hi:lk T.ti t=some i) (hop:o.op=.load t x) (ex:opnd T F 0 x=some (.one (.optr id sz j off))) (hrow:lk F.rows id=some row) (hsz:row.sz=sz) (hoff:off+i.size≤sz)
 {rows:List (List PV)} (he:row.e=.list sz rows) (hj:rows[j]? = some cells) (hk:row.kind=.deep→flats (xbU cells off i.size))
 (htv:tv=if i.agg=true then .agg ((xbU cells off i.size).map .pv) else .one (.pv (atP cells off))):Yields P o F .none tv:=by
 have key:∀n,off+n≤sz→(row.kind=.deep→flats (xbU cells off n))→∀(w0:Base) (G:Gh) (F2:Fr) (a:Act) (w:World),Le (looks o) F F2→Rel w0 G F2 a w→∀v,xdb G w (.optr id sz j off) v→∃b off' xs N,v=.pointer (some ⟨b,off',none⟩)∧(∀j u,xs[j]? = some u→w.cell? ⟨b,off'+j,none⟩=some u)∧xak w (xbU cells off n) xs N∧∀x∈N,G.S x:=by
  intro n hn hflat w0 G F2 a w hL hR v ⟨b,m,cap,h1,h2⟩
  have h3:=hR.rows id row _ (hL.rows _ _ hrow) h1
  unfold xbk at h3
  split at h3
  ·rename_i hkd
   rw [he] at h3
   obtain ⟨hs,hl,hlt,b',o',cap',hv,hat⟩:=xo6 h3 hj
   injection hv with hv _ _
   injection hv with hv
   injection hv with hb ho _
   subst hb;subst ho
   obtain ⟨xs,N,k1,k2,k3,_⟩:=hat.drop off
   obtain ⟨N',k4,k5⟩:=k2.take n
   rw [xeX n cells off (by omega)]
   refine ⟨b,j*sz+off,xs.take n,N',h2,fun q u hu=>?_,k4,fun x hx=>k3 x (k5 x hx)⟩
   rw [List.getElem?_take] at hu
   split at hu
   ·have h9:=k1 q u hu;rw [Nat.zero_add] at h9;exact h9
   ·cases hu
  ·obtain ⟨hs,rows',xs,N,he',hl,hvv,hown,hb,hkk⟩:=h3
   rw [he] at he'
   injection he' with _ he'
   subst he'
   rw [hsz] at hl hown
   obtain ⟨e1,e2⟩:=xeU hl hj
   have hcl:cells.length=sz:=hl cells (List.mem_of_getElem? hj)
   obtain ⟨N',k1,k2⟩:=xak.slice (j*sz+off) (j*sz+off+n) hvv
   have hcut:(rows.flatten.take (j*sz+off+n)).drop (j*sz+off)=xbU cells off n:=by
    rw [xeX _ _ _ (by omega),e1,List.drop_take]
    rw [show j*sz+off+n-(j*sz+off)=n by omega,List.drop_append,e2,List.drop_of_length_le (by omega),List.nil_append,show j*sz+off-j*sz=off by omega,List.drop_append,List.take_append]
    rw [show n-(cells.drop off).length=0 by rw [List.length_drop];omega,List.take_zero,List.append_nil]
   rw [hcut] at k1
   have hlt:j<rows.length:=by
    rcases Nat.lt_or_ge j rows.length with h' | h'
    ·exact h'
    ·simp [List.getElem?_eq_none h'] at hj
   have hmul:j*sz+sz≤rows.length*sz:=by
    have:=Nat.mul_le_mul_right sz hlt
    rwa [Nat.succ_mul] at this
   have hm:rows.length=m:=by
    rcases hown.2 with ⟨h,_⟩ | ⟨g,c,cur,h,_⟩
    ·cases h
    ·injection h with _ h _;exact h.symm
   subst hm
   refine ⟨b,j*sz+off,_,N',h2,fun q u hu=>?_,k1,fun x hx=>?_⟩
   ·rw [List.getElem?_drop,List.getElem?_take] at hu
    split at hu
    ·rw [hown.cellAt _ (by omega)];exact hu
    ·cases hu
   ·by_cases hd:row.kind=.deep
    ·have:N'=[]:=xak.flat_nil (hflat hd) k1
     subst this
     cases hx
    ·rw [if_neg hd] at hkk
     exact hkk x (k2 x hx)
 cases hg:i.agg with
 | true =>
  rw [hg,if_pos rfl] at htv
  have hl:(xbU cells off i.size).length=i.size:=by
   have:∀n off,(xbU cells off n).length=n:=by
    intro n;induction n with
    | zero=>intro _;rfl
    | succ n ih=>intro off;simp [xbU,ih]
   exact this _ _
  exact xf6 hT hi hop ex (key i.size hoff hk) (by rw [hg,if_pos rfl];exact ⟨hl.symm,htv⟩)
 | false =>
  rw [hg,if_neg (by simp)] at htv
  have hsize:=(hT.ty t i hi).size
  refine xf6 hT hi hop ex (key 1 (by omega) (fun hd=>?_)) (by rw [hg,if_neg (by simp)];exact ⟨atP cells off,rfl,htv⟩)
  have h1:=hk hd
  intro p hp
  refine h1 p ?_
  obtain ⟨m,hm⟩:∃m,i.size=m+1:=⟨i.size-1,by omega⟩
  rw [hm]
  simp only [xbU,List.mem_cons,List.not_mem_nil,or_false] at hp ⊢
  exact .inl hp
end
end Go.Ev
/- A literal whose elements hold nothing but plain values. -/
namespace Go.Ev
open Go.RowKit
def Dense (sz:Nat):Nat→List (Nat×Value)→List Value→Prop
 | _,[],cells=>cells=[]
 | j,(i,v)::r,cells=>∃vs cells',i=j∧v.cells=List.toArray vs∧vs.length=sz∧cells=vs++cells'∧Dense sz (j+1) r cells'
theorem xrE (off:Nat) (cs acc:List Value) (h:off+cs.length≤acc.length) :
 cs.toArray.zipIdx.foldl (fun (out:Array Value) (x:Value×Nat)=>out.setIfInBounds (off+x.2) x.1) acc.toArray=(acc.take off++cs++acc.drop (off+cs.length)).toArray:=by
 obtain ⟨g1,g2⟩:=Great.foldl_set off cs 0 acc.toArray
 rw [←Array.foldl_toList,Array.toList_zipIdx]
 apply Array.ext_getElem?
 intro j
 simp only [List.toList_toArray] at g2 ⊢
 rw [g2 j]
 simp only [List.size_toArray,List.getElem?_toArray,Nat.add_zero]
 by_cases hj:off≤j∧j<off+cs.length∧j<acc.length
 ·rw [if_pos hj,List.append_assoc,List.getElem?_append_right (by rw [List.length_take];omega),List.getElem?_append_left (by rw [List.length_take];omega)]
  rw [List.length_take,Nat.min_eq_left (by omega)]
 ·rw [if_neg hj]
  by_cases hlt:j<off
  ·rw [List.append_assoc,List.getElem?_append_left (by rw [List.length_take];omega),List.getElem?_take,if_pos hlt]
  ·by_cases hin:j<acc.length
   ·rw [List.getElem?_append_right (by simp;omega),List.getElem?_drop]
    congr 1
    simp
    omega
   ·rw [List.getElem?_eq_none (by omega),List.getElem?_eq_none (by simp;omega)]
theorem xib {sz:Nat}:∀{vl:List (Nat×Value)} {j:Nat} {cells:List Value},Dense sz j vl cells→cells.length=vl.length*sz
 | [],_,cells,h=>by have:cells=[]:=h;subst this;simp
 | (i,v)::r,j,cells,⟨vs,c',_,_,h3,e0,h5⟩=>by
  subst e0
  rw [List.length_append,h3,xib h5,List.length_cons,Nat.succ_mul];omega
theorem xfv {sz:Nat}:∀{vl:List (Nat×Value)} {j:Nat} {cells acc:List Value},Dense sz j vl cells→acc.length=(j+vl.length)*sz→Instr.fill (fun i=>some (i*sz,sz)) acc.toArray vl=some (acc.take (j*sz)++cells).toArray
 | [],j,cells,acc,h,hl=>by
  have:cells=[]:=h
  subst this
  simp only [Instr.fill,List.append_nil]
  rw [List.take_of_length_le (by simp at hl;omega)]
 | (i,v)::r,j,cells,acc,⟨vs,c',ej,h2,h3,e0,h5⟩,hl=>by
  subst e0;subst ej
  have hl':acc.length=(i+1+r.length)*sz:=by rw [hl];congr 1;simp;omega
  have hfit:i*sz+sz≤acc.length:=by
   rw [hl']
   have:(i+1)*sz≤(i+1+r.length)*sz:=Nat.mul_le_mul_right _ (by omega)
   rwa [Nat.succ_mul] at this
  have hseg:=xrE (i*sz) vs acc (by omega)
  have ih:=xfv (acc:=acc.take (i*sz)++vs++acc.drop (i*sz+vs.length)) h5 (by
   rw [List.length_append,List.length_append,List.length_take,List.length_drop,Nat.min_eq_left (by omega),←hl']
   omega)
  simp only [Instr.fill]
  have hvs:v.cells.size=sz:=by rw [h2];simpa using h3
  rw [if_neg (by simp [hvs];omega),h2]
  rw [hseg,ih]
  congr 2
  rw [Nat.succ_mul,←h3]
  have:(acc.take (i*vs.length)++vs).length=i*vs.length+vs.length:=by
   rw [List.length_append,List.length_take,Nat.min_eq_left (by rw [h3];omega)]
  rw [←this,List.take_left,List.append_assoc]
theorem xfi:∀{zs:List Cell} {vs:List Value},xcd zs vs→∀z∈zs,(∃q,z=.pv q)∨∃e s,z=.nil e s
 | [],_,_,z,hz=>by cases hz
 | .pv (.int _ _)::cs,_,⟨_,_,h⟩,z,hz=>by
  rcases List.mem_cons.1 hz with rfl | hz
  ·exact .inl ⟨_,rfl⟩
  ·exact xfi h z hz
 | .pv (.bool _)::cs,_,⟨_,_,h⟩,z,hz=>by
  rcases List.mem_cons.1 hz with rfl | hz
  ·exact .inl ⟨_,rfl⟩
  ·exact xfi h z hz
 | .pv (.str _)::cs,_,⟨_,_,h⟩,z,hz=>by
  rcases List.mem_cons.1 hz with rfl | hz
  ·exact .inl ⟨_,rfl⟩
  ·exact xfi h z hz
 | .nil _ _::cs,_,⟨_,_,h⟩,z,hz=>by
  rcases List.mem_cons.1 hz with rfl | hz
  ·exact .inr ⟨_,_,rfl⟩
  ·exact xfi h z hz
 | .pv (.list _ _)::_,_,h,_,_=>h.elim
 | .own _::_,_,h,_,_=>h.elim
 | .dead::_,_,h,_,_=>h.elim
 | .kb _::_,_,h,_,_=>h.elim
 | .ptr _ _::_,_,h,_,_=>h.elim
 | .sptr _::_,_,h,_,_=>h.elim
 | .optr _ _ _ _::_,_,h,_,_=>h.elim
 | .fn _ _::_,_,h,_,_=>h.elim
 | .sfn _ _::_,_,h,_,_=>h.elim
theorem xko:∀{cs:List Cell} {F:Fr},(∀c∈cs,xfL c=true)→xbs F cs=F
 | [],_,_=>rfl
 | c::cs,F,hc=>by
  have ih:=xko (cs:=cs) (F:=F) (fun c h=>hc c (List.mem_cons_of_mem _ h))
  have h1:=hc c (by simp)
  cases c<;>first | exact ih | (simp [xfL] at h1;done)
theorem xiU:∀{cs:List Cell} {F:Fr},(∀c∈cs,xfL c=true)→shareCells F cs=F
 | [],_,_=>rfl
 | c::cs,F,hc=>by
  have ih:=xiU (cs:=cs) (F:=F) (fun c h=>hc c (List.mem_cons_of_mem _ h))
  have h1:=hc c (by simp)
  cases c<;>first | exact ih | (simp [xfL] at h1;done)
theorem xpV {F:Fr} {G:Gh} {w:World} {c:Cell} {p:PV} {v:Value} (hc:xfL c=true) (hp:xa5 F c=some p) (hv:xdb G w c v):xbp G.S w [p] [v]:=by
 cases c<;>try (simp [xfL] at hc;done)
 case pv q=>simp only [xa5] at hp;injection hp with hp;subst hp;exact hv
 case kb b=>simp only [xa5] at hp;injection hp with hp;subst hp;have:v=.bool b:=hv;subst this;exact xbp.bool
 case nil e s=>simp only [xa5] at hp;injection hp with hp;subst hp;have:v=.slice none 0 0:=hv;subst this;exact ⟨[],.lnil .nil,by simp⟩
theorem xn7 {F:Fr} {G:Gh} {w:World}:∀{cs:List Cell} {ps:List PV} {vs:List Value},(∀c∈cs,xfL c=true)→xaI F cs=some ps→xaN G w cs vs→xbp G.S w ps vs
 | [],ps,vs,_,hp,hv=>by
  simp only [xaI] at hp;injection hp with hp;subst hp
  have:vs=[]:=hv
  subst this
  exact ⟨[],.nil,by simp⟩
 | c::cs,ps,vs,hc,hp,⟨v,r,e,hv1,hv2⟩=>by
  subst e
  simp only [xaI] at hp
  split at hp
  case h_2=>cases hp
  rename_i p ps' e1 e2
  injection hp with hp
  subst hp
  obtain ⟨N2,g1,g2⟩:=xn7 (fun c h=>hc c (List.mem_cons_of_mem _ h)) e2 hv2
  obtain ⟨N1,h1,h2⟩:=xpV (hc c (by simp)) e1 hv1
  exact ⟨_,h1.cons g1,fun x hx=>by rcases List.mem_append.1 hx with hx | hx;exact h2 x hx;exact g2 x hx⟩
theorem xmv {F:Fr} {G:Gh} {w:World}:∀{zs cs:List Cell} {ps:List PV} {vs:List Value} {used:List Nat},(∀z∈zs,(∃q,z=.pv q)∨∃e s,z=.nil e s)→(∀c∈cs,xfL c=true)→xaP F zs cs used=true→xae zs cs→xaI F cs=some ps→xaN G w cs vs→xak w ps vs []
 | [],[],ps,vs,_,_,_,_,_,hp,hv=>by
  simp only [xaI] at hp;injection hp with hp;subst hp
  have:vs=[]:=hv
  subst this
  exact .nil
 | z::zs,c::cs,ps,vs,used,hz,hc,hl,hf,hp,⟨v,r,e,hv1,hv2⟩=>by
  subst e
  simp only [xaI] at hp
  split at hp
  case h_2=>cases hp
  rename_i p ps' e1 e2
  injection hp with hp
  subst hp
  unfold xaP at hl
  rw [Bool.and_eq_true] at hl
  have hc1:=hc c (by simp)
  have hl2:∃u,xaP F zs cs u=true:=by
   have h2:=hl.2
   cases c<;>first | exact ⟨_,h2⟩ | (simp [xfL] at hc1;done)
  obtain ⟨u,hl2⟩:=hl2
  have ih:=xmv (fun z h=>hz z (List.mem_cons_of_mem _ h)) (fun c h=>hc c (List.mem_cons_of_mem _ h)) hl2 (fun x hx=>hf x (List.mem_cons_of_mem _ hx)) e2 hv2
  have hl1:=hl.1
  rcases hz z (by simp) with ⟨q,rfl⟩ | ⟨e,s,rfl⟩
  ·have hf1:=hf (.pv q,c) (by simp)
   cases c<;>try (simp [xdu] at hl1;done)
   case pv p' =>
    simp only [xa5] at e1;injection e1 with e1;subst e1
    have hfl:p'.flat=true:=hf1
    have hv:xbp G.S w [p'] [v]:=hv1
    cases p' with
    | int k n=>have:=hv.int_inv;subst this;exact .int ih
    | bool b=>have:=hv.bool_inv;subst this;exact .bool ih
    | str s=>have:=hv.str_inv;subst this;exact .str ih
    | list a b=>cases hfl
   case kb b =>
    simp only [xa5] at e1;injection e1 with e1;subst e1
    have:v=.bool b:=hv1
    subst this
    exact .bool ih
  ·cases c<;>try (first | (simp [xdu] at hl1;done) | (simp [xfL] at hc1;done))
   case nil e' s' =>
    simp only [xa5] at e1;injection e1 with e1;subst e1
    have:v=.slice none 0 0:=hv1
    subst this
    exact .lnil ih
 | [],_::_,_,_,_,_,_,hl,_,_,_=>by simp [xaP] at hl
 | _::_,[],_,_,_,_,_,hl,_,_,_=>by simp [xaP] at hl
theorem xmw {F:Fr} {zs:List Cell} (hz:∀z∈zs,(∃q,z=.pv q)∨∃e s,z=.nil e s):∀{ps:List (Nat×List Cell)} {j:Nat} {k:List (List PV)→Bool→Fr→Prop},(∀x∈ps,∀c∈x.2,xfL c=true)→xgn F zs j ps k →
 ∃rows deep,k rows deep F∧rows.length=ps.length∧∀{G:Gh} {w:World} {vl:List (Nat×Value)},xmr G w ps vl→∃cells N,Dense zs.length j vl cells∧xak w rows.flatten cells N∧(∀q∈rows,q.length=zs.length)∧vl.length=ps.length∧(deep=true→N=[])∧∀x∈N,G.S x
 | [],j,k,_,hk=>⟨[],true,hk,rfl,fun {G w vl} h=>by have:vl=[]:=h;subst this;exact ⟨[],[],rfl,.nil,by simp,rfl,fun _=>rfl,by simp⟩⟩
 | (i,cs)::r,j,k,hc,hk=>by
  obtain ⟨hij,hl,hk⟩:=hk
  have hcs:∀c∈cs,xfL c=true:=hc (i,cs) (by simp)
  unfold xs8 at hk
  split at hk
  case h_2=>exact hk.elim
  rename_i ps0 hps
  have key:∃d,xgn F zs (j+1) r (fun rows e F=>k (ps0::rows) (d&&e) F)∧∀{G:Gh} {w:World} {vs:List Value},xaN G w cs vs→∃N,xak w ps0 vs N∧(d=true→N=[])∧∀x∈N,G.S x:=by
   split at hk
   ·rename_i hd
    rw [xko hcs] at hk
    exact ⟨true,hk.2,fun hv=>⟨[],xmv hz hcs hd hk.1 hps hv,fun _=>rfl,by simp⟩⟩
   ·rw [xiU hcs] at hk
    refine ⟨false,hk,fun hv=>?_⟩
    obtain ⟨N,h1,h2⟩:=xn7 hcs hps hv
    exact ⟨N,h1,⟨fun h=>(nomatch h),h2⟩⟩
  obtain ⟨d,hk,hkr⟩:=key
  obtain ⟨rows,deep,h1,h2,h3⟩:=xmw hz (fun x hx=>hc x (List.mem_cons_of_mem _ hx)) hk
  refine ⟨ps0::rows,d&&deep,h1,by simp [h2],fun {G w vl} h=>?_⟩
  obtain ⟨v,q,vs,e,g1,g2,g3⟩:=h
  subst e
  obtain ⟨cells,N2,m1,m2,m3,m4,m5,m6⟩:=h3 g3
  obtain ⟨N1,hr,hr1,hr2⟩:=hkr g2
  have hvl:vs.length=zs.length:=by rw [←g2.len,hl]
  refine ⟨vs++cells,N1++N2,⟨vs,cells,hij,g1,hvl,rfl,m1⟩,?_,?_,by simp [m4],?_,?_⟩
  ·rw [List.flatten_cons];exact hr.append m2
  ·intro q' hq'
   rcases List.mem_cons.1 hq' with rfl | hq'
   ·rw [hr.len,hvl]
   ·exact m3 q' hq'
  ·intro hd
   rw [Bool.and_eq_true] at hd
   rw [hr1 hd.1,m5 hd.2];rfl
  ·intro x hx
   rcases List.mem_append.1 hx with hx | hx
   ·exact hr2 x hx
   ·exact m6 x hx
section
variable {P : Program} {T : Tab} {o : Oper} {F : Fr}
theorem xkf {t:TypeId} {n:Nat} {parts:Array (Nat×Operand)} {i e:TI} {ps:List (Nat×List Cell)} {ty:Nat→TypeId} (hT:xaz P T) (hop:o.op=.buildSlice t n parts) (hi:lk T.ti t=some i) (he:lk T.ti i.elem=some e)
 (hps:xdR T F ty parts.toList=some ps) (hpl:ps.length=n) (hbig:n*e.size≤16777216) (hzl:e.zero.length=e.size)
 {rows:List (List PV)} {deep:Bool} (hrl0:rows.length=ps.length) (hrows:∀{G:Gh} {w:World} {vl:List (Nat×Value)},xmr G w ps vl→∃cells N,Dense e.zero.length 0 vl cells∧xak w rows.flatten cells N∧(∀q∈rows,q.length=e.zero.length)∧vl.length=ps.length∧(deep=true→N=[])∧∀x∈N,G.S x) :
 Yields P o F ⟨[(F.next,⟨if deep then .deep else .flat,i.elem,e.size,.list e.size rows⟩)],[],1⟩ (.one (.own F.next)):=by
 intro w0 G F2 a w K Q hL hR hF hK
 have hpr:=xeP hR (xhF hL (fun t ht=>by simpa [looks,hop,Op.operands] using ht) hps)
 obtain ⟨cells,N,m4,m5,m6,hvl,hN1,hN2⟩:=hrows hpr
 have he0:i.elem≠0:=by intro h;rw [h,hT.zero] at he;cases he
 have hty:=hT.ty _ _ he
 obtain ⟨inf,e1,e2,e3,z,e4,e5⟩:=hty.info
 rw [hzl] at m4 m6
 have hcl:=xib m4
 rw [hvl,hpl] at hcl
 have hsz:=hty.size
 have hrun:(Instr.buildSlice t n (parts.map fun x=>(x.1,a.eval x.2))).run P w=.ok (.slice (some ⟨w.heap.size,0,none⟩) n n) (w.alloc (.cells cells.toArray i.elem)):=by
  by_cases hn0:n=0
  ·subst hn0
   have hp0:parts=#[]:=by
    have:ps=[]:=List.eq_nil_of_length_eq_zero hpl
    subst this
    have h1:(parts.toList.map fun x=>(x.1,a.eval x.2))=[]:=hpr
    have h2:parts.toList=[]:=List.map_eq_nil_iff.1 h1
    exact Array.toList_eq_nil_iff.1 h2
   have hc0:cells=[]:=List.eq_nil_of_length_eq_zero (by simpa using hcl)
   subst hp0;subst hc0
   simp [Instr.buildSlice,run_underlying ((hT.ty t i hi).slice he0),xa3 hty,Instr.fill,Go.newRow,Array.range_zero']
  ·refine Go.run_buildSlice w t i.elem n _ cells.toArray inf z ((hT.ty t i hi).slice he0) e1 e4 (by rw [e2];omega) (by rw [e2];exact Nat.ne_of_gt (Nat.mul_pos (Nat.pos_of_ne_zero hn0) hsz)) ?_
   rw [e2]
   have hacc:=xfv (acc:=((Array.range (n*e.size)).map (z.cells[· % z.cells.size]!)).toList) m4 (by simp [hvl,hpl])
   simp only [Nat.zero_mul,List.take_zero,List.nil_append,Array.toArray_toList] at hacc
   rw [←hacc]
   congr 1
   simp
 have hrl:rows.length=n:=by rw [hrl0,hpl]
 let v:Value:=.slice (some ⟨w.heap.size,0,none⟩) n n
 have hsz':(w.alloc (.cells cells.toArray i.elem)).heap.size=w.heap.size+1:=by simp
 have hB:Below w.heap.size w (w.alloc (.cells cells.toArray i.elem)):=⟨rfl,rfl,rfl,by simp,fun k hk=>heap_alloc_old w _ k hk⟩
 have hok:∀kd:RK,kd=(if deep=true then RK.deep else RK.flat)→xbk (G.rowed F.next w.heap.size v) (w.alloc (.cells cells.toArray i.elem)) F.next ⟨kd,i.elem,e.size,.list e.size rows⟩ v:=by
  intro kd hkd
  have h1:xak (w.alloc (.cells cells.toArray i.elem)) rows.flatten cells N:=m5.stable (fun x hx=>heap_alloc_old w _ x (m5.bound x hx))
  have h2:(w.alloc (.cells cells.toArray i.elem)).ownsRow 0 i.elem e.size v rows.length cells:=by
   rw [hrl]
   have:=World.ownsRow_lit (base:=0) (e:=i.elem) (size:=e.size) w cells.toArray n (Nat.zero_le _) (by simp [maxLen];have:=Nat.le_mul_of_pos_right n hsz;omega) (by simpa using hcl)
   simpa using this
  have h3:∀b,v.ownBlock=some b→(G.rowed F.next w.heap.size v).own b=some F.next:=by
   intro b hb
   have:w.heap.size=b:=by simpa [v,Value.ownBlock] using hb
   subst this
   show (if w.heap.size=w.heap.size then _ else _)=_
   rw [if_pos rfl]
  cases deep with
  | true =>
   rw [if_pos rfl] at hkd;subst hkd
   refine ⟨hsz,rows,cells,N,rfl,m6,h1,h2,h3,?_⟩
   rw [hN1 rfl];simp
  | false =>
   rw [if_neg (by simp)] at hkd;subst hkd
   exact ⟨hsz,rows,cells,N,rfl,m6,h1,h2,h3,fun x hx=>hN2 x hx⟩
 obtain ⟨k1,k2⟩:=hR.newRow1 hF (v:=v) (r:=⟨if deep then .deep else .flat,i.elem,e.size,.list e.size rows⟩) hB hsz' ⟨_,_,_,rfl⟩ rfl (by cases deep<;>simp) (hok _ rfl)
 refine xbv (v:=v) (w':=w.alloc (.cells cells.toArray i.elem)) ?_ (hK _ _ _ k1 ?_ k2)
 ·simp only [execOp,hop]
  rw [Sem.run_bind,hrun]
  rfl
 ·show (if F.next=F.next then _ else _)=_
  rw [if_pos rfl]
end
end Go.Ev
/- An empty literal that is appended to where it stands: what comes of it is shared, and nobody's. -/
namespace Go.Ev
open Go.RowKit
section
variable {P : Program} {T : Tab} {o : Oper} {F : Fr} {w0 : Base} {G : Gh} {a : Act} {w : World}
theorem xfQ {S:Nat→Prop} {sz:Nat} {rows:List (List PV)} {v:Value} (h:xbp S w [.list sz rows] [v]) :
 ∃ad c news NY,v=.slice ad rows.length c∧xak w rows.flatten news NY∧(∀q∈rows,q.length=sz)∧(∀aa,ad=some aa→∀j u,news[j]? = some u→w.cell? (aa.add j)=some u)∧(ad=none→rows.length=0)∧∀x∈NY,S x:=by
 obtain ⟨N,h,hS⟩:=h
 cases h with
 | @lnil _ ad cap _ _ _ hn=>exact ⟨ad,cap,[],[],rfl,.nil,by simp,by simp,by simp,by simp⟩
 | @list _ _ b off cap xs N1 _ _ N2 hs h0 hl hc cells hv hn =>
  refine ⟨some ⟨b,off,none⟩,cap,xs,N1,rfl,hv,hl,fun aa e j u hj=>?_,(fun e=>by cases e),fun x hx=>hS x (by simp [hx])⟩
  injection e with e
  subst e
  rw [xeL]
  exact cells j u hj
theorem xij {w:World}:∀{rows:List (List PV)} {l:List UInt8} {news:List Value} {N:List Nat},xjs rows=some l→xak w rows.flatten news N→∃ns:List Int,news=ns.map (Value.int .u8)∧ns.map (fun n=>UInt8.ofNat n.toNat)=l∧rows.length=ns.length
 | [],l,news,N,h,hv=>by
  simp only [xjs] at h;injection h with h;subst h
  cases hv
  exact ⟨[],rfl,rfl,rfl⟩
 | [.int .u8 n]::r,l,news,N,h,hv=>by
  simp only [xjs] at h
  split at h
  ·rename_i m hm
   injection h with h
   subst h
   simp only [List.flatten_cons,List.cons_append,List.nil_append] at hv
   cases hv with
   | int hv' =>
    obtain ⟨ns,rfl,rfl,h3⟩:=xij hm hv'
    exact ⟨n::ns,rfl,rfl,by simp [h3]⟩
  ·cases h
theorem xmH:∀(ns:List Int) (s:ByteArray),ns.foldl (fun r n=>r.push (UInt8.ofNat n.toNat)) s=⟨(s.data.toList++ns.map (fun n=>UInt8.ofNat n.toNat)).toArray⟩
 | [],s=>by simp
 | n::ns,s=>by
  rw [List.foldl_cons,xmH ns]
  simp [ByteArray.push]
theorem xpu {s d:TypeId} {x:Operand} {c:Cell} {rows:List (List PV)} {l:List UInt8} {i j:TI} (hT:xaz P T) (hop:o.op=.convert s d x) (ex:opnd T F 0 x=some (.one c)) (hp:xa5 F c=some (.list 1 rows)) (hl:xjs rows=some l) (hi:lk T.ti d=some i) (hj:lk T.ti s=some j) (hk:i.tag=1) (hk':j.tag=2) :
 Yields P o F .none (.one (.pv (.str ⟨l.toArray⟩))):=by
 refine xay fun w0 G F2 a w hL hR=>?_
 have h1:=xde hR (xf3 hL hp) (hR.eval T 0 x _ (xaF hL (fun t ht=>by simp [looks,hop,Op.operands,ht]) ex))
 obtain ⟨q1,q2⟩:=(hT.ty s j hj).tag2 hk'
 have hs:=(hT.ty s j hj).slice q2
 have hd:=(hT.ty d i hi).tag1 hk
 obtain ⟨ad,cap,news,NY,h2,h3,_,h5,h6,_⟩:=xfQ h1
 obtain ⟨ns,rfl,rfl,h7⟩:=xij hl h3
 refine ⟨.string ⟨(ns.map fun n:Int=>UInt8.ofNat n.toNat).toArray⟩,?_,xbp.str⟩
 simp only [execOp,hop,h2]
 have hconv:(convert s d (.slice ad rows.length cap)).run P w=.ok (.string ⟨(ns.map fun n:Int=>UInt8.ofNat n.toNat).toArray⟩) w:=by
  rw [run_convert_bytes_string w s d j.elem ad rows.length cap hs q1 hd]
  cases ad with
  | none =>
   have:ns=[]:=List.eq_nil_of_length_eq_zero (by rw [←h7];exact h6 rfl)
   subst this
   rfl
  | some aa =>
   have hr:=run_loadCells_list (P:=P) w aa (ns.map (Value.int .u8)) (fun j u hu=>h5 aa rfl j u hu)
   rw [List.length_map,←h7] at hr
   rw [run_bytesToString w aa rows.length cap ns hr,xmH]
   rfl
 rw [Sem.run_bind,hconv]
 rfl
theorem xuQ {all:List Oper} (hT:xaz P T) (h:mtB T all o=true):Yields P o F .none .mt:=by
 unfold mtB at h
 split at h
 ·rename_i t n parts d hop hd
  simp only [Bool.and_eq_true] at h
  obtain ⟨⟨⟨h1,h2⟩,h3⟩,_⟩:=h
  have hn:n=0:=by simpa using h1
  have hp:parts=#[]:=by simpa using h2
  subst hn;subst hp
  split at h3
  ·rename_i i hi
   split at h3
   ·rename_i e he
    intro w0 G F2 a w K Q hL hR hF hK
    have he0:i.elem≠0:=by intro h;rw [h,hT.zero] at he;cases he
    have hty:=hT.ty _ _ he
    have hrun:(Instr.buildSlice t 0 ((#[]:Array (Nat×Operand)).map fun x=>(x.1,a.eval x.2))).run P w=.ok (.slice (some ⟨w.heap.size,0,none⟩) 0 0) (w.alloc (.cells #[] i.elem)):=by
     simp [Instr.buildSlice,run_underlying ((hT.ty t i hi).slice he0),xa3 hty,Instr.fill,Go.newRow,Array.range_zero']
    have hB:Below w.heap.size w (w.alloc (.cells #[] i.elem)):=⟨rfl,rfl,rfl,by simp,fun k hk=>heap_alloc_old w _ k hk⟩
    have k1:=hR.newShared hB (by simp) w.heap.size ⟨Nat.le_refl _,by simp⟩
    refine xbv (v:=.slice (some ⟨w.heap.size,0,none⟩) 0 0) (w':=w.alloc (.cells #[] i.elem)) ?_ (hK { G with S:=fun x=>G.S x∨x=w.heap.size } _ _ (by rw [Fr.plus_none];exact k1) ⟨_,rfl⟩ ⟨fun _ _=>rfl,fun _ _=>rfl,fun _ _ _=>Iff.rfl⟩)
    simp only [execOp,hop]
    rw [Sem.run_bind,hrun]
    rfl
   ·cases h3
  ·cases h3
 ·cases h
theorem xsk {t:TypeId} {x y:Operand} {i e:TI} {rows:List (List PV)} (hT:xaz P T) (hop:o.op=.call { callee:=.builtin .append,args:=#[x,y],argTypes:=#[t,t] }) (hi:lk T.ti t=some i) (he:lk T.ti i.elem=some e)
 (ex:opnd T F t x=some .mt) (ey:opnd T F t y=some (.one (.pv (.list e.size rows)))) (hb:rows.length<1073741824):Yields P o F .none (.one (.pv (.list e.size rows))):=by
 intro w0 G F2 a w K Q hL hR hF hK
 obtain ⟨ad,hx⟩:∃ad,a.eval x=.slice (some ad) 0 0:=hR.eval T t x _ (xaF hL (fun t ht=>by simp [looks,hop,Op.operands,Call.operands,ht]) ex)
 have hy:xbp G.S w [.list e.size rows] [a.eval y]:=hR.eval T t y _ (xaF hL (fun t ht=>by simp [looks,hop,Op.operands,Call.operands,ht]) ey)
 obtain ⟨ad2,c,news,NY,hv,hrep,hlen,hcells,hnone,hN⟩:=xfQ hy
 have he0:i.elem≠0:=by intro h;rw [h,hT.zero] at he;cases he
 have hty:=hT.ty _ _ he
 have hsz:=hty.size
 obtain ⟨inf,e1,e2,e3,z,e4,e5⟩:=hty.info
 have ht:=(hT.ty t i hi).slice he0
 have hnl:news.length=rows.length*inf.size:=by rw [e2,←hrep.len,xcx hlen]
 have hby:rows.length*inf.bytes≤140737488355328:=by
  have:=Nat.mul_le_mul (Nat.le_of_lt hb) e3
  omega
 have hexec:(execOp a.eval o).run P w=((do pure (Next.value (←Builtin.append_ #[t,t] o.type #[.slice (some ad) 0 0,.slice ad2 rows.length c])):Sem Next)).run P w:=by
  simp [execOp,hop,resolve,invoke,builtin,hx,hv]
 by_cases h0:rows.length=0
 ·have hr0:rows=[]:=List.eq_nil_of_length_eq_zero h0
  subst hr0
  have hn0:news=[]:=List.eq_nil_of_length_eq_zero (by simpa using hnl)
  subst hn0
  have hrun:(Builtin.append_ #[t,t] o.type #[.slice (some ad) 0 0,.slice ad2 0 c]).run P w=.ok (.slice (some ad) 0 0) w:=by
   cases ad2 with
   | none=>simp [Builtin.append_,run_underlying ht,sizeOf,typeInfo,e1,Builtin.lenOf,Builtin.firstCells,storeCells]
   | some aa =>
    have hf:=run_firstCells_some (P:=P) w inf.size 0 aa 0 c [] (by simp) (by simp)
    simp [Builtin.append_,run_underlying ht,sizeOf,typeInfo,e1,Builtin.lenOf,hf,storeCells]
  refine xbv (v:=.slice (some ad) 0 0) (w':=w) ?_ (hK G _ _ (by rw [Fr.plus_none];exact hR) ⟨[],.lnil .nil,by simp⟩ (Apart.refl _ _ _))
  rw [hexec,Sem.run_bind]
  simp only [List.length_nil,hrun]
  rfl
 ·cases ad2 with
  | none=>exact absurd (hnone rfl) h0
  | some aa =>
   have hrun:=run_append_grow (P:=P) w t o.type i.elem inf z ht e1 e4 ad 0 0 [] (by simp) (by simp) aa rows.length c news hnl (hcells aa rfl) (by omega) (by omega) (growslice_fits (by omega) (by simpa using hby))
   rw [Nat.zero_add] at hrun
   let w':=w.drew.alloc (.cells (([]:List Value).toArray++news.toArray++Builtin.zeroCells z.cells (grownCap w rows.length 0 i.elem-rows.length)) i.elem)
   have hB:Below w.heap.size w w':=⟨rfl,rfl,rfl,by simp [w'],fun k hk=>heap_alloc_old w.drew _ k hk⟩
   have k1:=hR.newShared hB (by simp [w']) w.heap.size ⟨Nat.le_refl _,by simp [w']⟩
   have hh:w'.heap[w.heap.size]? = some (.cells (([]:List Value).toArray++news.toArray++Builtin.zeroCells z.cells (grownCap w rows.length 0 i.elem-rows.length)) i.elem (0,0)):=heap_alloc_new w.drew _
   refine xbv (v:=.slice (some ⟨w.heap.size,0,none⟩) rows.length (grownCap w rows.length 0 i.elem)) (w':=w') ?_ (hK { G with S:=fun x=>G.S x∨x=w.heap.size } _ _ (by rw [Fr.plus_none];exact k1) ?_ ⟨fun _ _=>rfl,fun _ _=>rfl,fun _ _ _=>Iff.rfl⟩)
   ·rw [hexec,Sem.run_bind,hrun]
    rfl
   ·refine ⟨w.heap.size::(NY++[]),.list hsz (fun h=>h0 (by rw [h];rfl)) hlen (grownCap_ge w rows.length 0 i.elem) (fun j u hu=>?_) (hrep.stable fun x hx=>heap_alloc_old w.drew _ x (hrep.bound x hx)) .nil,?_⟩
    ·rw [Nat.zero_add,cell_of_row w' _ j _ i.elem (0,0) hh]
     have hj:j<news.length:=by
      rcases Nat.lt_or_ge j news.length with h' | h'
      ·exact h'
      ·rw [List.getElem?_eq_none h'] at hu;cases hu
     rw [Array.getElem?_append_left (by simpa using hj)]
     simpa using hu
    ·intro x hx
     simp only [List.append_nil,List.mem_cons] at hx
     rcases hx with rfl | hx
     ·exact .inr rfl
     ·exact .inl (hN x hx)
end
end Go.Ev
