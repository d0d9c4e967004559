/- The evaluator: values, heap, operations; what its values stand for in memory. -/
import Derived.Calls
import Derived.Laws.Sem
import Derived.Laws.World
import Derived.Laws.Cells
namespace Go.Ag
theorem cT.{u} {α:Sort u} (a b:α):cond true a b=a:=rfl
theorem cF.{u} {α:Sort u} (a b:α):cond false a b=b:=rfl
theorem bS.{u} {α:Type u} [BEq α] [ReflBEq α] (a:α):(a==a)=true:=beq_self_eq_true a
theorem tA(p:Prop):(True∧p)=p:=true_and p
theorem dT(h:Decidable True):@decide True h=true:=decide_true h
open _root_.Array renaming getElem?_eq_none→ue,getElem?_setIfInBounds→wh
open _root_.Bool renaming and_eq_true→cU,rec→mM
open _root_.List renaming length_cons→aK
open _root_.Nat renaming beq→aY,ble→cr,blt→bP,eq_of_beq_eq_true→ib,le_refl→bv,le_trans→fX,lt_of_lt_of_le→gn
open Op renaming bytesLess→jS
noncomputable section
inductive fC where
 |full
 |own (n:Nat)
 |no
 deriving Inhabited
inductive ai where
 |bool (b:Bool)
 |int (k:IntKind) (n:Int)
 |str (s:List UInt8)
 |agg (cs:List ai)
 |tup (vs:List ai)
 |nilp
 |ptr (n off:Nat)
 |lref (t g off:Nat)
 |ro (cs:List ai)
 |nils
 |list (sz:Nat) (xs:List ai) (r:fC)
 |arr (sz n off len lcap:Nat)
 |nilm
 |map (n:Nat)
 |nilf
 |func (fn:Fn) (first captured:List ai)
 |nili
 |iface (t:TypeId) (v:ai)
 |yld (n:Nat)
 |roz (cs:List ai)
 deriving Inhabited
def ai.cells:ai→List ai
 | .agg cs=>cs
 |v=>[v]
def ai.clean:ai→Bool
 | .lref _ _ _=>false
 | .tup _=>false
 |_=>true
def gX:ai:=.tup []
structure cV where
 key:ai
 val:ai
 born:Nat
 deriving Inhabited
inductive bq (α:Type) where
 |nil
 |node (l:bq α) (v:Option α) (r:bq α)
 deriving Inhabited
inductive Ex where
 |normal
 |exit (id:Nat)
 |ret
 deriving Inhabited
inductive bE where
 |cells (cs:List ai)
 |tok
 |map (es:List cV) (clock:Nat)
 |iter (m:Option Nat) (since:Nat) (seen:List Nat) (stepped:Nat)
 |loop (f:FuncId) (env:bq ai) (size:Nat) (ps:List Tmp) (a b:Code) (p:Option Ex)
 deriving Inhabited
namespace bq
variable {α:Type}
def get (t:bq α):Nat→Option α:=
 @bq.rec α (fun _=>Nat→Option α) (fun _=>none)
  (fun _ v _ il ir n=> @mM (fun _=>Option α) (@mM (fun _=>Option α) (ir (n / 2-1)) (il (n / 2)) (aY (n % 2) 1)) v (aY n 0)) t
def one (x:Option α) (f:Nat):Nat→bq α:=
 @Nat.rec (fun _=>Nat→bq α) (fun _=>.node .nil x .nil)
  (fun _ ih n=> @mM (fun _=>bq α) (@mM (fun _=>bq α) (.node .nil none (ih (n / 2-1))) (.node (ih (n / 2)) none .nil) (aY (n % 2) 1)) (.node .nil x .nil) (aY n 0)) f
def set (t:bq α) (n:Nat) (x:Option α):bq α:=
 @bq.rec α (fun _=>Nat→bq α) (fun n=>one x n n)
  (fun l v r il ir n=> @mM (fun _=>bq α) (@mM (fun _=>bq α) (.node l v (ir (n / 2-1))) (.node (il (n / 2)) v r) (aY (n % 2) 1)) (.node l x r) (aY n 0)) t n
def all (p:α→Bool) (t:bq α):Bool:=
 @bq.rec α (fun _=>Bool) true (fun _ v _ il ir=>(match v with|none=>true|some x=>p x)&&(il&&ir)) t
end bq
structure St where
 heap:bq bE
 next:Nat
 minw:Nat
 ci:Nat
 deriving Inhabited
abbrev bj:=List (Nat×Nat)
def dF:bj→Nat→Bool
 | [],_=>false
 |(a,b)::m,n=>(cr a n&&bP n b)||dF m n
def St.get (s:St) (mk:bj) (n:Nat):Option bE:=bif dF mk n then none else s.heap.get n
def St.put (s:St) (n:Nat) (o:Option bE):St:= {heap:=s.heap.set n o,next:=s.next,minw:=bif cr s.minw n then s.minw else n,ci:=s.ci }
def St.new (s:St) (o:bE):St:= {heap:=s.heap.set s.next (some o),next:=s.next+1,minw:=s.minw,ci:=s.ci }
abbrev Loc:=List (Nat×Nat×List ai)
def Loc.gen:Loc→Nat→Nat
 | [],_=>0
 |(k,g,_)::l,n=>bif aY k n then g else Loc.gen l n
def Loc.get:Loc→Nat→Nat→Option (List ai)
 | [],_,_=>none
 |(k,g,c)::l,n,h=>bif aY k n then bif aY g h then some c else none else Loc.get l n h
def Loc.set:Loc→Nat→Nat→List ai→Loc
 | [],n,h,c=>[(n,h,c)]
 |(k,g,d)::l,n,h,c=>bif aY k n then(k,h,c)::l else(k,g,d)::Loc.set l n h c
abbrev bc:=bq ai
structure Fr where
 env:bc
 size:Nat
 loc:Loc
 deriving Inhabited
def E6:Option ai→ai
 |some v=>v
 |none=>gX
def aq (e:bc) (t:Nat):ai:=E6 (e.get t)
def iu:List ai→Nat→ai
 | [],_=>gX
 |x::_,0=>x
 |_::l,n+1=>iu l n
def cM:Nat→List ai→bc
 |_,[]=>.nil
 |n,v::l=>(cM (n+1) l).set n (some v)
def fk:Value→Option ai
 | .bool b=>some (.bool b)
 | .int k n=>some (.int k n)
 | .string s=>some (.str s.data.toList)
 | .pointer none=>some .nilp
 | .slice none 0 0=>some .nils
 | .map none=>some .nilm
 | .nilFunc=>some .nilf
 | .nilIface=>some .nili
 |_=>none
def xF:List Value→Option (List ai)
 | []=>some []
 |v::l=>(fk v).bind fun a=>(xF l).bind fun r=>some (a::r)
def ofValue:Value→Option ai
 | .agg cs=>(xF cs.toList).bind fun l=>some (.agg l)
 |v=>fk v
def ev (env:bc):Operand→Option ai
 | .tmp t=>some (aq env t)
 | .const v=>ofValue v
 | .func f=>some (.func (.func f) [] [])
 | .global _=>none
def evc (env:bc) (x:Operand):Option ai:=(ev env x).bind fun v=>bif v.clean then some v else none
def evcs (env:bc):List Operand→Option (List ai)
 | []=>some []
 |x::l=>(evc env x).bind fun v=>(evcs env l).bind fun r=>some (v::r)
section
variable (P:Program)
def w5 (t:TypeId):Option Bool:=
 (P.underlying t).bind fun
  | .struct _=>some true
  | .array _ _=>some true
  |_=>some false
def eX (t:TypeId):Option Nat:=(P.info? t).bind fun i=>some i.size
def BD (t:TypeId):Option Nat:=(P.info? t).bind fun i=>some i.bytes
def eK (t:TypeId):Option ai:=(P.info? t).bind fun i=>i.zero.bind ofValue
def cut (cs:List ai) (off n:Nat):Option (List ai):=
 let r:=(cs.drop off).take n
 bif aY r.length n then some r else none
def eN (t:TypeId) (cs:List ai) (off:Nat):Option ai:=
 (w5 P t).bind fun b=>bif b then(eX P t).bind fun n=>(cut cs off n).bind fun r=>some (.agg r)
  else match cs.drop off with
   |v::_=>some v
   | []=>none
def cI (cs:List ai) (off:Nat) (new:List ai):Option (List ai):=
 bif cr (off+new.length) cs.length then some (cs.take off++(new++cs.drop (off+new.length))) else none
end
section
variable (P:Program) (mk:bj) (ch:Nat→Nat) (kmax:Nat→Nat)
def kK (t:TypeId) (a:ai) (loc:Loc) (s:St):Option ai:=
 match a with
 | .lref l g off=>(loc.get l g).bind fun cs=>eN P t cs off
 | .ptr n off=>(s.get mk n).bind fun
   | .cells cs=>eN P t cs off
   |_=>none
 | .ro cs=>eN P t cs 0
 |_=>none
def pq (t:TypeId) (a v:ai) (loc:Loc) (s:St):Option (Loc×St):=
 (eX P t).bind fun n=>bif aY v.cells.length n&&bP 0 n then
  match a with
  | .lref l g off=>(loc.get l g).bind fun cs=>(cI cs off v.cells).bind fun cs'=>some (loc.set l g cs',s)
  | .ptr m off=>(s.get mk m).bind fun
    | .cells cs=>(cI cs off v.cells).bind fun cs'=>some (loc,s.put m (some (.cells cs')))
    |_=>none
  |_=>none
 else none
def dL (place:Nat→Option (Nat×Nat)) (env:bc) (cells:List ai):List (Nat×Operand)→Option (List ai)
 | []=>some cells
 |(i,x)::rest=>(evc env x).bind fun v=>(place i).bind fun(off,size)=>
  bif aY v.cells.length size then(cI cells off v.cells).bind fun c=>dL place env c rest else none
def xJ:List Field→Option (List (Nat×Nat))
 | []=>some []
 |f::fs=>(eX P f.type).bind fun n=>(xJ fs).bind fun r=>some ((f.offset,n)::r)
def fY (t:TypeId) (parts:List (Nat×Operand)) (env:bc):Option ai:=
 (eK P t).bind fun z=>(P.underlying t).bind fun
  | .struct fields=>(xJ P fields.toList).bind fun pl=>(dL (fun i=>pl[i]?) env z.cells parts).bind fun c=>some (.agg c)
  | .array _ e=>(eX P e).bind fun n=>(dL (fun i=>some (i*n,n)) env z.cells parts).bind fun c=>some (.agg c)
  |_=>none
def ie (agg:Bool) (size:Nat):Nat→List ai→Option (List ai)
 |0,[]=>some []
 |0,_=>none
 |n+1,cs=>
  bif agg then(cut cs 0 size).bind fun e=>(ie agg size n (cs.drop size)).bind fun r=>some (.agg e::r)
  else match cs with
   |v::rest=>(ie agg size n rest).bind fun r=>some (v::r)
   | []=>none
def bO:List ai→List ai
 | []=>[]
 |v::l=>v.cells++bO l
def gg (z:List ai):Nat→List ai
 |0=>[]
 |n+1=>z++gg z n
structure EI where
 n:Nat
 b:Nat
 g:Bool
 z:ai
 deriving Inhabited
def tl (e:TypeId):Option EI:=
 (eX P e).bind fun n=>(BD P e).bind fun b=>(w5 P e).bind fun g=>(eK P e).bind fun z=>
  bif bP 0 n&&aY z.cells.length n&&(g||aY n 1)&&bP 0 b then some ⟨n,b,g,z⟩ else none
def jc (t:TypeId):Option EI:=
 (P.underlying t).bind fun
  | .slice e=>tl P e
  |_=>none
def dR (t:TypeId) (len:Nat) (parts:List (Nat×Operand)) (mu:Bool) (env:bc) (s:St):Option (ai×St):=
 (jc P t).bind fun E=>bif cr (len*E.n) 16777216 then
  (dL (fun i=>some (i*E.n,E.n)) env (gg E.z.cells len) parts).bind fun cs=>
   bif mu then some (.arr E.n s.next 0 len len,s.new (.cells cs))
   else(ie E.g E.n len cs).bind fun xs=>some (.list E.n xs .full,s)
  else none
def fF:ai→Option Nat
 | .int _ (.ofNat n)=>some n
 |_=>none
def jv (env:bc) (x:Option Operand) (d:Nat):Option Nat:=
 match x with
 |none=>some d
 |some x=>(ev env x).bind fF
def iq (loc:Loc) (t:TypeId) (x i:ai):Option ai:=
 (fF i).bind fun i=>(P.underlying t).bind fun
  | .array len e=>(eX P e).bind fun n=>bif bP i len then
   match x with
   | .lref l g off=>bif aY (loc.gen l) g then some (.lref l g (off+i*n)) else none
   | .ptr m off=>some (.ptr m (off+i*n))
   | .ro cs=>some (.ro (cs.drop (i*n)))
   |_=>none
    else none
  | .slice e=>(eX P e).bind fun n=>
   match x with
   | .list sz xs _=>bif aY sz n&&bP i xs.length then some (.ro (iu xs i).cells) else none
   | .arr sz m off len _=>bif aY sz n&&bP i len then some (.ptr m (off+i*n)) else none
   |_=>none
  |_=>none
def fE (loc:Loc) (t:TypeId) (x:ai) (f:Nat):Option ai:=
 (P.underlying t).bind fun
  | .struct fields=>(fields[f]?).bind fun fd=>(eX P fd.type).bind fun n=>bif aY n 0 then none else
   match x with
   | .lref l g off=>bif aY (loc.gen l) g then some (.lref l g (off+fd.offset)) else none
   | .ptr m off=>some (.ptr m (off+fd.offset))
   | .ro cs=>some (.ro (cs.drop fd.offset))
   |_=>none
  |_=>none
def yK (t:TypeId) (x:ai) (f:Nat):Option ai:=
 (P.underlying t).bind fun
  | .struct fields=>(fields[f]?).bind fun fd=>match x with
   | .agg cs=>eN P fd.type cs fd.offset
   |_=>none
  |_=>none
def pR (t:TypeId) (x i:ai):Option ai:=
 (fF i).bind fun i=>(P.underlying t).bind fun
  | .array len e=>(eX P e).bind fun n=>bif bP i len then match x with
   | .agg cs=>eN P e cs (i*n)
   |_=>none
    else none
  | .string=>match x with
   | .str s=>match s.drop i with
     |b::_=>some (.int .u8 b.toNat)
     | []=>none
   |_=>none
  |_=>none
def jH (t:TypeId) (x:ai) (low high max:Option Operand) (env:bc) (s:St):Option ai:=
 (P.underlying t).bind fun
  | .string=>match x,max with
    | .str b,none=>(jv env high b.length).bind fun h=>(jv env low 0).bind fun l=>
     bif cr l h&&cr h b.length then some (.str ((b.take h).drop l)) else none
    |_,_=>none
  | .slice e=>(eX P e).bind fun n=>
    match x with
    | .nils=>(jv env high 0).bind fun h=>(jv env low 0).bind fun l=>(jv env max 0).bind fun m=>
     bif aY h 0&&aY l 0&&aY m 0&&(max.isNone||high.isSome) then some .nils else none
    | .list sz xs r=>(jv env high xs.length).bind fun h=>(jv env low 0).bind fun l=>
     bif aY sz n&&cr l h&&cr h xs.length then
      match max with
      |none=>some (.list sz ((xs.take h).drop l) (bif aY h xs.length&&(bP l h||aY l 0) then r else .no))
      |some _=>(jv env max 0).bind fun m=>bif aY m h&&high.isSome then some (.list sz ((xs.take h).drop l) .full) else none
     else none
    | .arr sz m off len lcap=>(jv env high len).bind fun h=>(jv env low 0).bind fun l=>
     bif aY sz n&&cr l h&&cr h len&&max.isNone then some (.arr sz m (off+l*n) (h-l) (lcap-l)) else none
    |_=>none
  | .array len e=>(eX P e).bind fun n=>
    match x with
    | .ptr m off=>(jv env high len).bind fun h=>(jv env low 0).bind fun l=>(s.get mk m).bind fun
      | .cells cs=>bif cr l h&&cr h len&&max.isNone&&bP 0 (len*n)&&cr (off+len*n) cs.length then some (.arr n m (off+l*n) (h-l) (len-l)) else none
      |_=>none
    |_=>none
  |_=>none
def du (a b:Int):Bool:=decide (a<b)
def ig (a b:Int):Bool:=decide (a≤b)
def bL (a b:Int):Bool:=a==b
def leBytes:List UInt8→List UInt8→Bool:=fun x y=>jS x y||x==y
def vV:ai→ai→Bool
 | .bool a,.bool b=>a==b
 | .int k a,.int k' b=>k==k'&&bL a b
 | .str a,.str b=>a==b
 |_,_=>false
def tj:List ai→List ai→Bool
 | [],[]=>true
 |a::x,b::y=>vV a b&&tj x y
 |_,_=>false
def r9:ai→ai→Bool
 | .agg a,.agg b=>tj a b
 |x,y=>vV x y
def uN (rec:TypeId→ai→ai→Option Bool) (xs ys:List ai):List Field→Option Bool
 | []=>some true
 |f::fs=>bif f.name== "_" then uN rec xs ys fs else
  (eN P f.type xs f.offset).bind fun a=>(eN P f.type ys f.offset).bind fun b=>(rec f.type a b).bind fun r=>
   bif r then uN rec xs ys fs else some false
def wQ (rec:TypeId→ai→ai→Option Bool) (e:TypeId) (n:Nat) (xs ys:List ai):Nat→Nat→Option Bool
 |0,_=>some true
 |k+1,i=>(eN P e xs (i*n)).bind fun a=>(eN P e ys (i*n)).bind fun b=>(rec e a b).bind fun r=>
   bif r then wQ rec e n xs ys k (i+1) else some false
def jX:Nat→TypeId→ai→ai→Option Bool
 |0,_,_,_=>none
 |d+1,t,x,y=>(P.underlying t).bind fun D=>match D,x,y with
  | .bool,.bool a,.bool b=>some (a==b)
  | .int _,.int k a,.int k' b=>bif k==k' then some (bL a b) else none
  | .string,.str a,.str b=>some (a==b)
  | .struct fs,.agg xs,.agg ys=>bif P.stoodInHeld t then none else uN P (jX d) xs ys fs.toList
  | .array len e,.agg xs,.agg ys=>(eX P e).bind fun n=>wQ P (jX d) e n xs ys len 0
  | .slice _,.nils,.nils=>some true
  | .slice _,.nils,.list _ _ _=>some false
  | .slice _,.list _ _ _,.nils=>some false
  | .slice _,.nils,.arr _ _ _ _ _=>some false
  | .slice _,.arr _ _ _ _ _,.nils=>some false
  | .map _ _,.nilm,.nilm=>some true
  | .map _ _,.nilm,.map _=>some false
  | .map _ _,.map _,.nilm=>some false
  | .func _ _ _,.nilf,.nilf=>some true
  | .func _ _ _,.nilf,.func _ _ _=>some false
  | .func _ _ _,.func _ _ _,.nilf=>some false
  | .pointer _,.nilp,.nilp=>some true
  | .pointer _,.nilp,.ptr _ _=>some false
  | .pointer _,.ptr _ _,.nilp=>some false
  |_,_,_=>none
def rI (t:TypeId) (x y:ai):Option Bool:=
 match x,y with
 | .agg _,.agg _=>bif P.eqGuardType P.depth t then none else jX P 8 t x y
 |_,_=>jX P 8 t x y
def xn (rec:TypeId→ai→Bool) (xs:List ai):List Field→Bool
 | []=>true
 |f::fs=>bif f.name== "_" then xn rec xs fs else
  match eN P f.type xs f.offset with
  |some a=>rec f.type a&&xn rec xs fs
  |none=>false
def zJ (rec:TypeId→ai→Bool) (e:TypeId) (n:Nat) (xs:List ai):Nat→Nat→Bool
 |0,_=>true
 |k+1,i=>match eN P e xs (i*n) with
  |some a=>rec e a&&zJ rec e n xs k (i+1)
  |none=>false
def r0:Nat→TypeId→ai→Bool
 |0,_,_=>false
 |d+1,t,x=>match P.underlying t,x with
  |some .bool,.bool _=>true
  |some (.int _),.int _ _=>true
  |some .string,.str _=>true
  |some (.struct fs),.agg xs=>xn P (r0 d) xs fs.toList
  |some (.array len e),.agg xs=>match eX P e with
   |some n=>zJ P (r0 d) e n xs len 0
   |none=>false
  |_,_=>false
def CR (op:BinOp) (k:IntKind) (a b:Int):Option ai:=
 match op with
 | .add=>some (.int k (k.wrap (a+b)))
 | .sub=>some (.int k (k.wrap (a-b)))
 | .mul=>some (.int k (k.wrap (a*b)))
 | .quo=>bif bL b 0 then none else some (.int k (k.wrap (a.tdiv b)))
 | .rem=>bif bL b 0 then none else some (.int k (a.tmod b))
 | .and=>some (.int k (k.wrap ((BitVec.ofInt k.bits a) &&& (BitVec.ofInt k.bits b)).toNat))
 | .or=>some (.int k (k.wrap ((BitVec.ofInt k.bits a) ||| (BitVec.ofInt k.bits b)).toNat))
 | .xor=>some (.int k (k.wrap ((BitVec.ofInt k.bits a) ^^^ (BitVec.ofInt k.bits b)).toNat))
 | .andNot=>some (.int k (k.wrap ((BitVec.ofInt k.bits a) &&& ~~~(BitVec.ofInt k.bits b)).toNat))
 | .eql=>some (.bool (bL a b))
 | .neq=>some (.bool (!bL a b))
 | .lss=>some (.bool (du a b))
 | .leq=>some (.bool (ig a b))
 | .gtr=>some (.bool (du b a))
 | .geq=>some (.bool (ig b a))
 |_=>none
def FD (op:BinOp) (a b:List UInt8):Option ai:=
 match op with
 | .add=>bif cr (a.length+b.length) 1073741824 then some (.str (a++b)) else none
 | .eql=>some (.bool (a==b))
 | .neq=>some (.bool (!(a==b)))
 | .lss=>some (.bool (jS a b))
 | .leq=>some (.bool (leBytes a b))
 | .gtr=>some (.bool (!leBytes a b))
 | .geq=>some (.bool (!jS a b))
 |_=>none
def fR (op:BinOp) (t:TypeId) (x y:ai):Option ai:=
 match x,y with
 | .int k a,.int k' b=>match op with
   | .shl=>bif du b 0 then none else some (.int k (k.wrap (a*2 ^ (min b.toNat k.bits))))
   | .shr=>bif du b 0 then none else some (.int k (a.fdiv (2 ^ (min b.toNat k.bits))))
   |_=>bif k==k' then CR op k a b else none
 | .str a,.str b=>FD op a b
 |x,y=>match op with
  | .eql=>(rI P t x y).bind fun b=>some (.bool b)
  | .neq=>(rI P t x y).bind fun b=>some (.bool (!b))
  |_=>none
def wd (op:UnOp) (x:ai):Option ai:=
 match op,x with
 | .neg,.int k n=>some (.int k (k.wrap (0-n)))
 | .not,.bool b=>some (.bool !b)
 |_,_=>none
def yD (src dst:TypeId) (x:ai):Option ai:=
 (P.underlying src).bind fun _=>(P.underlying dst).bind fun d=>match d,x with
  | .int k,.int _ n=>some (.int k (k.wrap n))
  | .string,.str s=>some (.str s)
  |_,_=>none
def jZ (kt:TypeId) (k:ai):List cV→Nat→Option (Option (Nat×cV))
 | [],_=>some none
 |e::es,i=>(jX P 8 kt k e.key).bind fun b=>bif b then some (some (i,e)) else jZ kt k es (i+1)
def nl (t:TypeId) (k:ai):Option (TypeId×TypeId):=
 (P.underlying t).bind fun
  | .map kt e=>bif r0 P 8 kt k then some (kt,e) else none
  |_=>none
def xu (kt:TypeId) (m k:ai) (s:St):Option (Option (Nat×cV)):=
 match m with
 | .nilm=>some none
 | .map n=>(s.get mk n).bind fun
   | .map es _=>jZ P kt k es 0
   |_=>none
 |_=>none
def lk (t:TypeId) (m k:ai) (ok:Bool) (s:St):Option ai:=
 (nl P t k).bind fun ke=>(eK P ke.2).bind fun z=>(xu P mk ke.1 m k s).bind fun
  |some x=>some (bif ok then .tup [x.2.val,.bool true] else x.2.val)
  |none=>some (bif ok then .tup [z,.bool false] else z)
def lB (t:TypeId) (m k v:ai) (s:St):Option St:=
 (nl P t k).bind fun ke=>match m with
  | .map n=>(s.get mk n).bind fun
    | .map es clock=>(jZ P ke.1 k es 0).bind fun
      |some x=>bif r9 x.2.key k then some (s.put n (some (.map (es.set x.1 ⟨k,v,x.2.born⟩) clock))) else none
      |none=>some (s.put n (some (.map (es++[⟨k,v,clock⟩]) (clock+1))))
    |_=>none
  |_=>none
def tH (t:TypeId) (m k:ai) (s:St):Option (ai×St):=
 (nl P t k).bind fun ke=>(eK P ke.2).bind fun z=>match m with
  | .map n=>(s.get mk n).bind fun
    | .map es clock=>(jZ P ke.1 k es 0).bind fun
      |some x=>bif r9 x.2.key k then some (.tup [x.2.val,.int .i64 x.2.born],s.put n (some (.map (es.set x.1 ⟨k,x.2.val,x.2.born⟩) clock))) else none
      |none=>some (.tup [z,.int .i64 clock],s.put n (some (.map (es++[⟨k,z,clock⟩]) (clock+1))))
    |_=>none
  |_=>none
def xT (b:Nat) (v:ai):List cV→Option (List cV)
 | []=>none
 |e::es=>bif aY e.born b then some (⟨e.key,v,e.born⟩::es) else(xT b v es).bind fun r=>some (e::r)
def uL (m stamp v:ai) (s:St):Option St:=
 (fF stamp).bind fun b=>match m with
  | .map n=>(s.get mk n).bind fun
    | .map es clock=>(xT b v es).bind fun es'=>some (s.put n (some (.map es' clock)))
    |_=>none
  |_=>none
def kO (t:TypeId) (x:ai) (s:St):Option (ai×St):=
 (P.underlying t).bind fun
  | .map _ _=>match x with
    | .nilm=>some (.ptr s.next 0,s.new (.iter none 0 [] 0))
    | .map m=>(s.get mk m).bind fun
      | .map _ clock=>some (.ptr s.next 0,s.new (.iter (some m) clock [] clock))
      |_=>none
    |_=>none
  |_=>none
def dq (seen:List Nat) (es:List cV):List cV:=es.filter (fun e=> !seen.any (aY e.born))
def oD (n m since clock:Nat) (seen:List Nat) (e:cV) (s:St):ai×St:=
 (.tup [.bool true,e.key,e.val],s.put n (some (.iter (some m) since (seen++[e.born]) clock)))
def my (n m since:Nat) (seen:List Nat) (clock:Nat) (l:List cV) (s:St):Option (ai×St):=
 match l with
 | []=>some (.tup [.bool false],s)
 |e::r=>bif(e::r).all (fun e=>bP e.born since) then
   match r with
   | []=>some (oD n m since clock seen e s)
   |_::_=>bif cr (e::r).length (kmax s.ci) then
     ((e::r)[ch s.ci % (e::r).length]?).bind fun e=>some ((oD n m since clock seen e s).1, { (oD n m since clock seen e s).2 with ci:=s.ci+1 })
    else none
  else none
def j5 (it:ai) (isString:Bool) (s:St):Option (ai×St):=
 match it with
 | .ptr n 0=>(s.get mk n).bind fun
   | .iter none _ _ _=>bif isString then none else some (.tup [.bool false],s)
   | .iter (some m) since seen stepped=>bif isString then none else(s.get mk m).bind fun
     | .map es clock=>bif !seen.isEmpty&& !es.isEmpty&&es.all (fun e=>cr stepped e.born) then none
       else my ch kmax n m since seen clock (dq seen es) s
     |_=>none
   |_=>none
 |_=>none
def qG (b:Nat):List cV→Option cV
 | []=>none
 |e::es=>bif aY e.born b then some e else qG b es
def oS (it:ai) (s:St):Option ai:=
 match it with
 | .ptr n 0=>(s.get mk n).bind fun
   | .iter (some m) _ seen stepped=>(s.get mk m).bind fun
     | .map es clock=>bif aY clock stepped then
      (seen.getLast?).bind fun b=>(qG b es).bind fun e=>some (.tup [e.key,e.val])
       else none
     |_=>none
   |_=>none
 |_=>none
def sf (t:TypeId) (l c:ai) (mu:Bool) (s:St):Option (ai×St):=
 (jc P t).bind fun E=>(fF l).bind fun l=>(fF c).bind fun c=>
  bif cr l c&&cr (c*E.b) 1099511627776&&cr c 1099511627776 then
   bif aY l 0&& !mu then some (.list E.n [] (.own s.next),s.new .tok)
   else some (.arr E.n s.next 0 l l,s.new (.cells (gg E.z.cells l)))
  else none
def jO (agg:Bool) (n:Nat) (x:ai) (s:St):Option (List ai):=
 match x with
 | .nils=>some []
 | .list sz xs _=>bif aY sz n then some xs else none
 | .arr sz m off len _=>bif aY sz n then(s.get mk m).bind fun
   | .cells cs=>(cut cs off (len*n)).bind fun c=>ie agg n len c
   |_=>none
   else none
 |_=>none
def kP (need bytes:Nat):Bool:=cr ((need*2+1024)*bytes) 140737488355328
def j2 (E:EI) (mu:Bool) (xs:List ai) (s:St):Option (ai×St):=
 bif kP xs.length E.b then
  bif mu then some (.arr E.n s.next 0 xs.length xs.length,s.new (.cells (bO xs)))
  else some (.list E.n xs (.own s.next),s.new .tok)
 else none
def kY (E:EI) (x:ai) (ys:List ai) (mu:Bool) (s:St):Option (ai×St):=
 match x with
 | .nils=>j2 E mu ys s
 | .list sz xs .full=>bif aY sz E.n then j2 E mu (xs++ys) s else none
 | .list sz xs (.own k)=>(s.get mk k).bind fun
   | .tok=>bif kP (xs.length+ys.length) E.b&&aY sz E.n then some (.list E.n (xs++ys) (.own s.next),(s.put k none).new .tok) else none
   |_=>none
 | .arr sz m off len lcap=>(s.get mk m).bind fun
   | .cells cs=>bif kP (len+ys.length) E.b&&aY sz E.n then
    bif aY (off+len*E.n) cs.length then
     some (.arr E.n s.next 0 (len+ys.length) (len+ys.length),(s.put m none).new (.cells (cs.drop off++bO ys)))
    else bif cr (len+ys.length) lcap then
     (cI cs (off+len*E.n) (bO ys)).bind fun cs'=>some (.arr E.n m off (len+ys.length) lcap,s.put m (some (.cells cs')))
    else none
     else none
   |_=>none
 |_=>none
def w7:ai→Bool
 | .nils=>true
 | .list _ _ _=>true
 | .arr _ _ _ _ _=>true
 |_=>false
def jD (t:TypeId) (x y:ai) (mu:Bool) (s:St):Option (ai×St):=
 (jc P t).bind fun E=>(jO mk E.g E.n y s).bind fun ys=>
  match ys with
  | []=>bif w7 x then some (x,s) else none
  |_::_=>kY mk E x ys mu s
def wK (t:TypeId) (x y:ai) (s:St):Option (ai×St):=
 (jc P t).bind fun E=>(jO mk E.g E.n y s).bind fun ys=>
  match x with
  | .nils=>some (.int .i64 0,s)
  | .list _ [] _=>some (.int .i64 0,s)
  | .arr sz m off len _=>bif aY sz E.n then(s.get mk m).bind fun
    | .cells cs=>(cI cs off (bO (ys.take len))).bind fun cs'=>some (.int .i64 (ys.take len).length,s.put m (some (.cells cs')))
    |_=>none
    else none
  |_=>none
def gG (t:TypeId) (x:ai) (s:St):Option ai:=
 (P.underlying t).bind fun d=>match d,x with
  | .string,.str b=>some (.int .i64 b.length)
  | .array n _,_=>some (.int .i64 n)
  | .slice _,.nils=>some (.int .i64 0)
  | .slice _,.list _ xs _=>some (.int .i64 xs.length)
  | .slice _,.arr _ _ _ len _=>some (.int .i64 len)
  | .map _ _,.nilm=>some (.int .i64 0)
  | .map _ _,.map n=>(s.get mk n).bind fun
    | .map es _=>some (.int .i64 es.length)
    |_=>none
  |_,_=>none
def rE (t:TypeId) (x:ai) (s:St):Option St:=
 match x with
 | .nilm=>some s
 | .nils=>some s
 | .map n=>(s.get mk n).bind fun
   | .map _ clock=>some (s.put n (some (.map [] clock)))
   |_=>none
 | .list _ [] _=>some s
 | .arr sz m off len _=>bif aY len 0 then some s else(jc P t).bind fun E=>
   bif aY sz E.n then(s.get mk m).bind fun
    | .cells cs=>(cI cs off (gg E.z.cells len)).bind fun cs'=>some (s.put m (some (.cells cs')))
    |_=>none
   else none
 |_=>none
def qS (isMax:Bool):ai→List ai→Option ai
 | .int k a,[]=>some (.int k a)
 | .int k a,.int k' b::l=>bif k==k' then qS isMax (.int k (bif isMax then bif du a b then b else a else bif du b a then b else a)) l else none
 | .str a,[]=>some (.str a)
 | .str a,.str b::l=>qS isMax (.str (bif isMax then bif jS a b then b else a else bif leBytes a b then a else b)) l
 |_,_=>none
def lj (t:TypeId):Bool:=
 match P.underlying t with
 |some (.slice _)=>true
 |_=>false
def ld (b:Builtin) (argTypes:List TypeId) (mu:Bool) (args:List ai) (s:St):Option (ai×St):=
 match b,argTypes,args with
 | .len,[t],[x]=>(gG P mk t x s).bind fun v=>some (v,s)
 | .append,[t,t2],[x,y]=>bif lj P t2 then jD P mk t x y mu s else none
 | .copy,[t,_],[x,y]=>wK P mk t x y s
 | .clear,[t],[x]=>(P.underlying t).bind fun _=>(rE P mk t x s).bind fun s'=>some (.tup [],s')
 | .min,_,x::l=>(qS false x l).bind fun v=>some (v,s)
 | .max,_,x::l=>(qS true x l).bind fun v=>some (v,s)
 |_,_,_=>none
def n7 (h:Nat) (dst:Option Tmp) (cs:List ai) (loc:Loc) (s:St):Option (ai×Loc×St):=
 bif aY h 1 then dst.bind fun t=>some (.lref t (loc.gen t+1) 0,loc.set t (loc.gen t+1) cs,s)
 else some (.ptr s.next 0,loc,s.new (.cells cs))
def fJ (x:Option ai) (l:Loc) (s:St):Option (ai×Loc×St):=x.bind fun a=>some (a,l,s)
def gR (x:Option (ai×St)) (l:Loc):Option (ai×Loc×St):=x.bind fun r=>some (r.1,l,r.2)
def lr (x:Option St) (l:Loc):Option (ai×Loc×St):=x.bind fun s=>some (gX,l,s)
def mn (hint:Tmp→Nat):Option Tmp→Nat
 |some t=>hint t
 |none=>0
def sl (env:bc) (c a b:Operand):Option ai:=
 (ev env c).bind fun
  | .bool true=>ev env a
  | .bool false=>ev env b
  |_=>none
def si (loc:Loc):ai→Option ai
 | .lref a g b=>bif aY (loc.gen a) g then some (.lref a g b) else none
 | .ptr a b=>some (.ptr a b)
 | .ro c=>some (.ro c)
 | .func (.func f) a b=>some (.func (.func f) a b)
 |_=>none
def gu (i:Nat):ai→Option ai
 | .tup l=>l[i]?
 |_=>none
def oe (env:bc) (fn:Fn) (first captured:Array Operand):Option ai:=
 match fn with
 | .func f=>(evcs env first.toList).bind fun a=>(evcs env captured.toList).bind fun b=>some (.func (.func f) a b)
 |_=>none
def lX (t:TypeId) (env:bc) (r:Option Operand) (s:St):Option (ai×St):=
 match r with
 |none=>some (.map s.next,s.new (.map [] 0))
 |some x=>(P.underlying t).bind fun
  | .map _ _=>(ev env x).bind fun
    | .int _ _=>some (.map s.next,s.new (.map [] 0))
    |_=>none
  |_=>none
def z7 (hint:Tmp→Nat) (dst:Option Tmp) (e:TypeId) (fr:Fr) (s:St):Option (ai×Loc×St):=
 (eK P e).bind fun z=>n7 (mn hint dst) dst z.cells fr.loc s
def Aa (hint:Tmp→Nat) (dst:Option Tmp) (x:Operand) (fr:Fr) (s:St):Option (ai×Loc×St):=
 (evc fr.env x).bind fun a=>n7 (mn hint dst) dst a.cells fr.loc s
def vC (t:TypeId) (a:Operand) (fr:Fr) (s:St):Option (ai×Loc×St):=
 (ev fr.env a).bind fun a=>fJ (kK P mk t a fr.loc s) fr.loc s
def vD (t:TypeId) (a x:Operand) (fr:Fr) (s:St):Option (ai×Loc×St):=
 (ev fr.env a).bind fun a=>(evc fr.env x).bind fun x=>(pq P mk t a x fr.loc s).bind fun r=>some (gX,r.1,r.2)
def z8 (op:BinOp) (t:TypeId) (x y:Operand) (fr:Fr) (s:St):Option (ai×Loc×St):=
 (evc fr.env x).bind fun x=>(evc fr.env y).bind fun y=>fJ (fR P op t x y) fr.loc s
def xH (t:TypeId) (m k x:Operand) (fr:Fr) (s:St):Option (ai×Loc×St):=
 (evc fr.env m).bind fun m=>(evc fr.env k).bind fun k=>(evc fr.env x).bind fun x=>lr (lB P mk t m k x s) fr.loc
def Ad (t:TypeId) (x i:Operand) (ok:Bool) (fr:Fr) (s:St):Option (ai×Loc×St):=
 (evc fr.env x).bind fun x=>(evc fr.env i).bind fun i=>fJ (lk P mk t x i ok s) fr.loc s
def Ae (hint:Tmp→Nat) (dst:Option Tmp) (t:TypeId) (l c:Operand) (fr:Fr) (s:St):Option (ai×Loc×St):=
 (ev fr.env l).bind fun l=>(ev fr.env c).bind fun c=>gR (sf P t l c (aY (mn hint dst) 2) s) fr.loc
def vB (t:TypeId) (x i:Operand) (fr:Fr) (s:St):Option (ai×Loc×St):=
 (ev fr.env x).bind fun x=>(ev fr.env i).bind fun i=>fJ (iq P fr.loc t x i) fr.loc s
def Ac (t:TypeId) (x i:Operand) (fr:Fr) (s:St):Option (ai×Loc×St):=
 (evc fr.env x).bind fun x=>(ev fr.env i).bind fun i=>fJ (pR P t x i) fr.loc s
def Af (t:TypeId) (m k:Operand) (fr:Fr) (s:St):Option (ai×Loc×St):=
 (evc fr.env m).bind fun m=>(evc fr.env k).bind fun k=>gR (tH P mk t m k s) fr.loc
def Ab (m st x:Operand) (fr:Fr) (s:St):Option (ai×Loc×St):=
 (evc fr.env m).bind fun m=>(evc fr.env st).bind fun st=>(evc fr.env x).bind fun x=>lr (uL mk m st x s) fr.loc
def pY (hint:Tmp→Nat) (dst:Option Tmp) (c:Call) (fr:Fr) (s:St):Option (ai×Loc×St):=
 match c.callee with
 | .builtin b=>(evcs fr.env c.args.toList).bind fun args=>gR (ld P mk b c.argTypes.toList (aY (mn hint dst) 2) args s) fr.loc
 |_=>none
def nq (x:Operand) (g:ai→Option ai) (fr:Fr) (s:St):Option (ai×Loc×St):=
 (ev fr.env x).bind fun a=>fJ (g a) fr.loc s
def ky (x:Operand) (g:ai→Option ai) (fr:Fr) (s:St):Option (ai×Loc×St):=
 (evc fr.env x).bind fun a=>fJ (g a) fr.loc s
def jV (hint:Tmp→Nat) (dst:Option Tmp) (op:Op) (fr:Fr) (s:St):Option (ai×Loc×St):=
 match op with
 | .move x=>fJ (ev fr.env x) fr.loc s
 | .assign x=>fJ (ev fr.env x) fr.loc s
 | .pick c a b=>fJ (sl fr.env c a b) fr.loc s
 | .alloc e=>z7 P hint dst e fr s
 | .box _ x=>Aa hint dst x fr s
 | .build t parts=>fJ (fY P t parts.toList fr.env) fr.loc s
 | .buildSlice t len parts=>gR (dR P t len parts.toList (aY (mn hint dst) 2) fr.env s) fr.loc
 | .load t a=>vC P mk t a fr s
 | .store t a x=>vD P mk t a x fr s
 | .nilCheck x=>nq x (si fr.loc) fr s
 | .binOp op t x y _=>z8 P op t x y fr s
 | .unOp op _ x=>ky x (wd op) fr s
 | .convert src dst x=>ky x (yD P src dst) fr s
 | .makeFunc fn first captured=>fJ (oe fr.env fn first captured) fr.loc s
 | .makeMap t r=>gR (lX P t fr.env r s) fr.loc
 | .makeSlice t l c=>Ae P hint dst t l c fr s
 | .slice t x lo hi mx=>ky x (fun x=>jH P mk t x lo hi mx fr.env s) fr s
 | .fieldAddr t x f=>nq x (fun x=>fE P fr.loc t x f) fr s
 | .field t x f=>ky x (fun x=>yK P t x f) fr s
 | .indexAddr t x i=>vB P t x i fr s
 | .index t x i=>Ac P t x i fr s
 | .lookup t x i ok=>Ad P mk t x i ok fr s
 | .mapUpdate t m k x=>xH P mk t m k x fr s
 | .insert t m k x=>xH P mk t m k x fr s
 | .mapEntry t m k=>Af P mk t m k fr s
 | .entryStore _ m st x=>Ab mk m st x fr s
 | .range t x=>(evc fr.env x).bind fun x=>gR (kO P mk t x s) fr.loc
 | .next it isString=>(evc fr.env it).bind fun it=>gR (j5 mk ch kmax it isString s) fr.loc
 | .entry it=>ky it (fun it=>oS mk it s) fr s
 | .extract x i=>nq x (gu i) fr s
 | .call c=>pY P mk hint dst c fr s
 |_=>none
end
def callee (env:bc) (c:Call):Option (FuncId×List ai):=
 match c.callee with
 | .value f=>(ev env f).bind fun
   | .func (.func f) first captured=>(evcs env c.args.toList).bind fun args=>some (f,first++(args++captured))
   |_=>none
 |_=>none
inductive fM where
 |all
 |obj (n:Nat)
 |loc (t:Nat)
 |none
 deriving Inhabited
def rN (env:bc) (a:Operand):fM:=
 match ev env a with
 |some (.lref t _ _)=>.loc t
 |some (.ptr n _)=>.obj n
 |some (.ro _)=>.none
 |_=>.all
def oW (env:bc) (a:Operand):fM:=
 match ev env a with
 |some (.lref t _ _)=>.loc t
 |_=>.none
def wV (hint:Tmp→Nat) (dst:Option Tmp):fM:=
 match dst with
 |some t=>bif aY (hint t) 1 then .loc t else .none
 |none=>.none
def dr (hint:Tmp→Nat) (dst:Option Tmp) (env:bc):Op→fM
 | .load _ a=>rN env a
 | .store _ a _=>rN env a
 | .fieldAddr _ x _=>oW env x
 | .indexAddr _ x _=>oW env x
 | .nilCheck x=>oW env x
 | .move _| .assign _| .pick .. | .build .. | .field .. | .index .. | .binOp .. | .unOp .. | .convert .. | .makeFunc .. | .extract .. =>.none
 | .slice _ x _ _ _=>match ev env x with
   |some (.ptr n _)=>.obj n
   |_=>.none
 | .alloc _=>wV hint dst
 | .box _ _=>wV hint dst
 | .buildSlice .. | .makeMap .. | .makeSlice .. =>.none
 | .call {callee:=.builtin .min, .. }=>.none
 | .call {callee:=.builtin .max, .. }=>.none
 | .call {callee:=.builtin .len,args, .. }=>match args[0]? with
   |some x=>match ev env x with
    |some (.map _)=>.all
    |_=>.none
   |none=>.none
 |_=>.all
def isStore:Op→Bool
 | .store .. =>true
 | .alloc _=>true
 | .box _ _=>true
 |_=>false
def fM.meets:fM→fM→Bool
 | .none,_=>false
 |_,.none=>false
 | .all,.all=>true
 | .all,.obj _=>true
 | .obj _,.all=>true
 | .obj n,.obj m=>aY n m
 | .loc t,.loc u=>aY t u
 |_,_=>false
structure dQ where
 i:Nat
 c0:Nat
 c1:Nat
 foot:fM
 loud:Bool
 deriving Inhabited
inductive Rd where
 |ret (v:Option ai)
 |ask (n:Nat) (k:bE→Rd)
def mF (g:Nat→Option bE):Rd→Option ai
 | .ret v=>v
 | .ask n k=>(g n).bind fun o=>mF g (k o)
abbrev s9:=Option (Nat×(List ai→Option (List ai)))
structure ck where
 P:Program
 hint:FuncId→Tmp→Nat
 spec:FuncId→Option (List ai→Option ai)
 ch:Nat→Nat
 kmax:Nat→Nat
 specH:FuncId→Option (List ai→Rd):=fun _=>none
 specW:FuncId→Option (List ai→Option s9):=fun _=>none
def eJ (ops:Array Oper) (env:bc) (o:Oper):Bool:=
 match o.guard with
 |none=>true
 |some (j,want)=>match(ops[j]?).bind (·.dst) with
  |some d=>match aq env d with
   | .bool b=>b==want
   |_=>false
  |none=>false
def d7 (fr:Fr) (dst:Option Tmp) (v:ai) (loc:Loc):Option Fr:=
 match dst with
 |some d=>bif bP d fr.size then some ⟨fr.env.set d (some v),fr.size,loc⟩ else none
 |none=>some ⟨fr.env,fr.size,loc⟩
def aly:Operand→Option Nat
 | .tmp t=>some t
 |_=>none
def tG (ops:Array Oper) (o:Oper):List Nat:=
 o.op.operands.toList.filterMap aly++(match o.guard with
  |some (g,_)=>match(ops[g]?).bind (·.dst) with|some d=>[d]|none=>[]
  |none=>[])
def wN (ops:Array Oper) (x y:Oper):Bool:=
 (match x.dst with
  |some d=> !(tG ops y).any (aY d)&&(match y.dst with|some e=> !aY d e|none=>true)
  |none=>true)&&
 (match y.dst with
  |some d=> !(tG ops x).any (aY d)
  |none=>true)
def yy (ops:Array Oper) (x:Oper) (i:Nat):List Oper→List Nat→Bool
 | [],_=>true
 |y::l,bs=>((bs.headD 0).testBit i||wN ops x y)&&yy ops x i l bs.tail
def kE (ops:Array Oper):Nat→List Oper→List Nat→Bool
 |_,[],_=>true
 |i,x::l,bs=>x.after.toList.all (fun e=> !Region.binds .any e||bP e.on i)&&(yy ops x i l bs.tail&&kE ops (i+1) l bs.tail)
def iU (bi:Nat) (rs:List dQ) (mk:bj):bj:=
 match rs with
 | []=>mk
 |r::rs=>bif bi.testBit r.i||aY r.c0 r.c1 then iU bi rs mk else(r.c0,r.c1)::iU bi rs mk
def fits (bi:Nat) (foot:fM) (loud:Bool) (rs:List dQ):Bool:=
 rs.all fun r=>bi.testBit r.i|| !((loud||r.loud)&&foot.meets r.foot)
section
variable (Q:ck)
def vQ (mk:bj) (fr:Fr) (s:St):ResultVar→Option ai
 | .tmp t=>evc fr.env (.tmp t)
 | .cell a t=>kK Q.P mk t (aq fr.env a) fr.loc s
def gh (mk:bj) (fr:Fr) (s:St):List ResultVar→Option (List ai)
 | []=>some []
 |r::l=>(vQ Q mk fr s r).bind fun v=>(gh mk fr s l).bind fun vs=>bif v.clean then some (v::vs) else none
def jw:List ai→ai
 | [v]=>v
 |vs=>.tup vs
structure kX where
 ops:FuncId→Array Oper→bj→List Oper→Fr→St→Option (Fr×St)
 draw:FuncId→Array Oper→List Nat→bj→List dQ→Nat→List Oper→Fr→St→Option (Fr×St)
 code:FuncId→Code→bj→Fr→St→Option (Ex×Fr×St)
 call:FuncId→List ai→bj→St→Option (ai×St)
def kX.none:kX:=⟨fun _ _ _ _ _ _=>.none,fun _ _ _ _ _ _ _ _ _=>.none,fun _ _ _ _ _=>.none,fun _ _ _ _=>.none⟩
variable (r:kX)
def lf (c:Call) (mk:bj) (fr:Fr) (s:St):Option (ai×Loc×St):=
 (callee fr.env c).bind fun g=>(r.call g.1 g.2 mk s).bind fun v=>some (v.1,fr.loc,v.2)
def xU:List Tmp→List ai→bc→Option bc
 | [],[],e=>some e
 |t::ts,v::vs,e=>xU ts vs (e.set t (some v))
 |_,_,_=>none
def ub (f:FuncId) (env:bc) (size:Nat) (ps:List Tmp) (a b:Code):Ex×Fr×St→Option (ai×bE×St)
 |(.normal,_,s)=>some (.bool true,.loop f env size ps a b none,s)
 |(x,_,s)=>some (.bool false,.loop f env size ps a b (some x),s)
def sN (f:FuncId) (env:bc) (size:Nat) (ps:List Tmp) (a b:Code) (mk:bj):Ex×Fr×St→Option (ai×bE×St)
 |(.normal,fr,s)=>(r.code f b mk fr s).bind (ub f env size ps a b)
 |_=>none
def uc (o:bE) (args:List ai) (mk:bj) (s:St):Option (ai×bE×St):=
 match o with
 | .loop f env size ps a b none=>bif ps.all (fun t=>bP t size) then
  (xU ps args env).bind fun env'=>(r.code f a mk ⟨env',size,[]⟩ s).bind (sN r f env size ps a b mk)
   else none
 |_=>none
def kR (n:Nat) (args:List ai) (mk:bj) (s:St):Option (ai×St):=
 (s.get mk n).bind fun o=>(uc r o args mk (s.put n none)).bind fun x=>some (x.1,x.2.2.put n (some x.2.1))
def yieldee (env:bc) (c:Call):Option (Nat×List ai):=
 match c.callee with
 | .value f=>(ev env f).bind fun
   | .yld n=>(evcs env c.args.toList).bind fun args=>some (n,args)
   |_=>none
 |_=>none
def oG (c:Call) (mk:bj) (fr:Fr) (s:St):Option (ai×Loc×St):=
 (yieldee fr.env c).bind fun g=>(kR r g.1 g.2 mk s).bind fun v=>some (v.1,fr.loc,v.2)
def lS (env:bc) (c:Call):Bool:=
 match c.callee with
 | .value f=>match ev env f with
   |some (.yld _)=>true
   |_=>false
 |_=>false
def fp (f:FuncId) (o:Oper) (mk:bj) (fr:Fr) (s:St):Option (ai×Loc×St):=
 match o.op with
 | .call c=>match c.callee with
   | .builtin _=>pY Q.P mk (Q.hint f) o.dst c fr s
   |_=>bif lS fr.env c then oG r c mk fr s else lf r c mk fr s
 |op=>jV Q.P mk Q.ch Q.kmax (Q.hint f) o.dst op fr s
def kz (f:FuncId) (all:Array Oper) (mk:bj) (l:List Oper) (fr:Fr) (s:St):Option (Fr×St):=
 match l with
 | []=>some (fr,s)
 |o::rest=>
  bif eJ all fr.env o then
   (fp Q r f o mk fr s).bind fun x=>(d7 fr o.dst x.1 x.2.1).bind fun fr'=>r.ops f all mk rest fr' x.2.2
  else(d7 fr o.dst gX fr.loc).bind fun fr'=>r.ops f all mk rest fr' s
def St.least (s s':St):St:=⟨s'.heap,s'.next,bif cr s.minw s'.minw then s.minw else s'.minw,s'.ci⟩
def lh (f:FuncId) (all:Array Oper) (bs:List Nat) (mk:bj) (rs:List dQ) (i:Nat) (l:List Oper) (fr:Fr) (s:St):Option (Fr×St):=
 match l with
 | []=>some (fr,s)
 |o::rest=>
  bif eJ all fr.env o then
   (fp Q r f o (iU (bs.headD 0) rs mk) fr ⟨s.heap,s.next,s.next,s.ci⟩).bind fun x=>
    bif fits (bs.headD 0) (dr (Q.hint f) o.dst fr.env o.op) (bP x.2.2.minw s.next||isStore o.op) rs&&aY s.ci x.2.2.ci then
     (d7 fr o.dst x.1 x.2.1).bind fun fr'=>
      r.draw f all bs.tail mk (⟨i,s.next,x.2.2.next,dr (Q.hint f) o.dst fr.env o.op,bP x.2.2.minw s.next||isStore o.op⟩::rs) (i+1) rest fr' (s.least x.2.2)
    else none
  else(d7 fr o.dst gX fr.loc).bind fun fr'=>r.draw f all bs.tail mk rs (i+1) rest fr' s
def mI (f:FuncId) (b:Code) (mk:bj):Ex×Fr×St→Option (Ex×Fr×St)
 |(.normal,fr,s)=>r.code f b mk fr s
 |x=>some x
def uI (f:FuncId) (a b:Code) (mk:bj) (fr:Fr) (s:St):ai→Option (Ex×Fr×St)
 | .bool true=>r.code f a mk fr s
 | .bool false=>r.code f b mk fr s
 |_=>none
def na (id:Nat):Ex×Fr×St→Ex×Fr×St
 |(.exit i,fr,s)=>bif aY i id then(.normal,fr,s) else(.exit i,fr,s)
 |x=>x
def Aq (f:FuncId) (ops:Array Oper) (draw:Bool) (mk:bj) (fr:Fr) (s:St):Option (Ex×Fr×St):=
 (bif draw then bif kE ops 0 ops.toList (Region.before ops).toList then r.draw f ops (Region.before ops).toList mk [] 0 ops.toList fr s else none
  else r.ops f ops mk ops.toList fr s).bind fun x=>some (.normal,x.1,x.2)
def eV:Code→Bool
 | .seq a b=>eV a&&eV b
 | .cond _ a b=>eV a&&eV b
 | .block _ a=>eV a
 | .loop a=>eV a
 | .scope _=>false
 | .rangeFunc _ _ _ _=>false
 |_=>true
def qT:ai→Bool
 | .lref _ _ _=>false
 |_=>true
def tM:Option Ex→Ex
 |none=>.normal
 |some x=>x
def tR (mk:bj) (n:Nat) (fr:Fr) (s:St):Option (Ex×Fr×St):=
 (s.get mk n).bind fun
  | .loop _ _ _ _ _ _ p=>some (tM p,fr,s.put n none)
  |_=>none
def lQ (P:Program) (h:FuncId):Bool:=
 match P.funcs[h]? with
 |some fn=>fn.body.isSome
 |none=>false
def qX (f:FuncId) (ps:List Tmp) (a b:Code) (mk:bj) (fr:Fr) (s:St):ai→Option (Ex×Fr×St)
 | .func (.func h) first captured=>bif lQ Q.P h&&(fr.env.all qT&&(eV a&&eV b)) then
  (r.call h (first++(.yld s.next::captured)) mk (s.new (.loop f fr.env fr.size ps a b none))).bind fun x=>tR mk s.next fr x.2
   else none
 |_=>none
def rG (f:FuncId) (c:Code) (mk:bj) (fr:Fr) (s:St):Option (Ex×Fr×St):=
 match c with
 | .skip=>some (.normal,fr,s)
 | .label _=>some (.normal,fr,s)
 | .ret=>some (.ret,fr,s)
 | .exit id=>some (.exit id,fr,s)
 | .seq a b=>(r.code f a mk fr s).bind (mI r f b mk)
 | .cond x a b=>(ev fr.env x).bind (uI r f a b mk fr s)
 | .block id b=>(r.code f b mk fr s).bind fun x=>some (na id x)
 | .scope b=>r.code f b mk fr s
 | .loop b=>(r.code f b mk fr s).bind (mI r f (.loop b) mk)
 | .region _ ops draw=>Aq r f ops draw mk fr s
 | .rangeFunc g ps a b=>(ev fr.env g).bind (qX Q r f ps.toList a b mk fr s)
 |_=>none
def nh (fn:Func) (mk:bj):Ex×Fr×St→Option (ai×St)
 |(.exit _,_,_)=>none
 |(_,fr,s)=>(gh Q mk fr s fn.results.toList).bind fun vs=>some (jw vs,s)
def vR (s:St) (p:Nat×(List ai→Option (List ai))):bE→Option (ai×St)
 | .cells cs=>(p.2 cs).bind fun cs'=>some (.tup [],s.put p.1 (some (.cells cs')))
 |_=>none
def p8 (mk:bj) (s:St):s9→Option (ai×St)
 |none=>some (.tup [],s)
 |some p=>(s.get mk p.1).bind (vR s p)
def jk (f:FuncId) (args:List ai) (mk:bj) (s:St):Option (ai×St):=
 match Q.spec f with
 |some sp=>(sp args).bind fun v=>some (v,s)
 |none=>match Q.specH f with
  |some sp=>(mF (s.get mk) (sp args)).bind fun v=>some (v,s)
  |none=>match Q.specW f with
  |some sp=>(sp args).bind (p8 mk s)
  |none=>(Q.P.funcs[f]?).bind fun fn=>fn.body.bind fun c=>
   (r.code f c mk ⟨cM 0 args,bif cr args.length fn.ntmps then fn.ntmps else args.length,[]⟩ s).bind (nh Q fn mk)
def Cl:kX:=⟨kz Q r,lh Q r,rG Q r,jk Q r⟩
end
def cG (Q:ck):Nat→kX
 |0=>.none
 |n+1=>Cl Q (cG Q n)
end
namespace bq
variable {α:Type}
theorem get_nil (n:Nat):(bq.nil:bq α).get n=none:=rfl
theorem get_node (l:bq α) (v:Option α) (r:bq α) (n:Nat):
 (bq.node l v r).get n=if n=0 then v else if n % 2=1 then l.get (n / 2) else r.get (n / 2-1):=by
 show @mM (fun _=>Option α) (@mM (fun _=>Option α) (r.get (n / 2-1)) (l.get (n / 2)) (aY (n % 2) 1)) v (aY n 0)=_
 by_cases h0:n=0
 ·subst h0;rfl
 ·have e0:aY n 0=false:=by
   cases h:aY n 0
   ·rfl
   ·exact absurd (ib h) h0
  rw [if_neg h0,e0]
  by_cases h1:n % 2=1
  ·rw [if_pos h1,h1];rfl
  ·have e1:aY (n % 2) 1=false:=by
    cases h:aY (n % 2) 1
    ·rfl
    ·exact absurd (ib h) h1
   rw [if_neg h1,e1]
theorem one_zero (x:Option α) (n:Nat):one x 0 n= .node .nil x .nil:=rfl
theorem one_succ (x:Option α) (f n:Nat):
 one x (f+1) n=if n=0 then .node .nil x .nil else if n % 2=1 then .node (one x f (n / 2)) none .nil else .node .nil none (one x f (n / 2-1)):=by
 show @mM (fun _=>bq α) (@mM (fun _=>bq α) (.node .nil none (one x f (n / 2-1))) (.node (one x f (n / 2)) none .nil) (aY (n % 2) 1)) (.node .nil x .nil) (aY n 0)=_
 by_cases h0:n=0
 ·subst h0;rfl
 ·have e0:aY n 0=false:=by
   cases h:aY n 0
   ·rfl
   ·exact absurd (ib h) h0
  rw [if_neg h0,e0]
  by_cases h1:n % 2=1
  ·rw [if_pos h1,h1];rfl
  ·have e1:aY (n % 2) 1=false:=by
    cases h:aY (n % 2) 1
    ·rfl
    ·exact absurd (ib h) h1
   rw [if_neg h1,e1]
theorem get_one (x:Option α): ∀(f n m:Nat),n≤f→(one x f n).get m=if m=n then x else none:=by
 intro f
 induction f with
 |zero=>
  intro n m h
  obtain rfl:n=0:=by omega
  rw [one_zero,get_node,get_nil,get_nil]
  by_cases h:m=0<;>simp [h]
 |succ f ih=>
  intro n m h
  rw [one_succ]
  by_cases h0:n=0
  ·subst h0
   rw [if_pos rfl,get_node,get_nil,get_nil]
   by_cases h:m=0<;>simp [h]
  ·rw [if_neg h0]
   by_cases h1:n % 2=1
   ·rw [if_pos h1,get_node,ih _ _ (by omega),get_nil]
    by_cases hm:m=n
    ·subst hm;simp [h0,h1]
    ·rw [if_neg hm]
     by_cases m0:m=0
     ·simp [m0]
     ·by_cases m1:m % 2=1
      ·rw [if_neg m0,if_pos m1,if_neg (by omega)]
      ·simp [m0,m1]
   ·rw [if_neg h1,get_node,ih _ _ (by omega),get_nil]
    by_cases hm:m=n
    ·subst hm;simp [h0,h1]
    ·rw [if_neg hm]
     by_cases m0:m=0
     ·simp [m0]
     ·by_cases m1:m % 2=1
      ·simp [m0,m1]
      ·rw [if_neg m0,if_neg m1,if_neg (by omega)]
theorem set_nil (n:Nat) (x:Option α):(bq.nil:bq α).set n x=one x n n:=rfl
theorem set_node (l:bq α) (v:Option α) (r:bq α) (n:Nat) (x:Option α):
 (bq.node l v r).set n x=if n=0 then .node l x r else if n % 2=1 then .node (l.set (n / 2) x) v r else .node l v (r.set (n / 2-1) x):=by
 show @mM (fun _=>bq α) (@mM (fun _=>bq α) (.node l v (r.set (n / 2-1) x)) (.node (l.set (n / 2) x) v r) (aY (n % 2) 1)) (.node l x r) (aY n 0)=_
 by_cases h0:n=0
 ·subst h0;rfl
 ·have e0:aY n 0=false:=by
   cases h:aY n 0
   ·rfl
   ·exact absurd (ib h) h0
  rw [if_neg h0,e0]
  by_cases h1:n % 2=1
  ·rw [if_pos h1,h1];rfl
  ·have e1:aY (n % 2) 1=false:=by
    cases h:aY (n % 2) 1
    ·rfl
    ·exact absurd (ib h) h1
   rw [if_neg h1,e1]
theorem get_set (t:bq α): ∀(n m:Nat) (x:Option α),(t.set n x).get m=if m=n then x else t.get m:=by
 induction t with
 |nil=>intro n m x;rw [set_nil,get_one _ _ _ _ (bv _),get_nil]
 |node l v r il ir=>
  intro n m x
  rw [set_node]
  by_cases h0:n=0
  ·subst h0
   rw [if_pos rfl,get_node,get_node]
   by_cases h:m=0<;>simp [h]
  ·rw [if_neg h0]
   by_cases h1:n % 2=1
   ·rw [if_pos h1,get_node,get_node,il]
    by_cases hm:m=n
    ·subst hm;simp [h0,h1]
    ·rw [if_neg hm]
     by_cases m0:m=0
     ·simp [m0]
     ·by_cases m1:m % 2=1
      ·rw [if_neg m0,if_pos m1,if_neg (by omega),if_neg m0,if_pos m1]
      ·simp [m0,m1]
   ·rw [if_neg h1,get_node,get_node,ir]
    by_cases hm:m=n
    ·subst hm;simp [h0,h1]
    ·rw [if_neg hm]
     by_cases m0:m=0
     ·simp [m0]
     ·by_cases m1:m % 2=1
      ·simp [m0,m1]
      ·rw [if_neg m0,if_neg m1,if_neg (by omega),if_neg m0,if_neg m1]
@[simp] theorem get_set_same (t:bq α) (n:Nat) (x:Option α):(t.set n x).get n=x:=by rw [get_set,if_pos rfl]
end bq
namespace bq
theorem all_get {α:Type} {p:α→Bool}: ∀ {t:bq α},t.all p=true→ ∀ {n:Nat} {x:α},t.get n=some x→p x=true
 | .nil,_,n,x,h=>by cases h
 | .node l v r,h,n,x,hg=>by
   have h:(∀y,v=some y→p y=true)∧l.all p=true∧r.all p=true:=by
    cases v with
    |none=>
     have h:(true&&(l.all p&&r.all p))=true:=h
     simp only [Bool.true_and,cU] at h
     exact⟨fun _ e=>(by cases e),h⟩
    |some z=>
     have h:(p z&&(l.all p&&r.all p))=true:=h
     simp only [cU] at h
     exact⟨fun _ e=>(by injection e with e;subst e;exact h.1),h.2⟩
   have hg:(@mM (fun _=>Option α) (@mM (fun _=>Option α) (r.get (n / 2-1)) (l.get (n / 2)) (aY (n % 2) 1)) v (aY n 0))=some x:=hg
   cases h0:aY n 0 with
   |true=>rw [h0] at hg;exact h.1 x hg
   |false=>
    rw [h0] at hg
    cases h1:aY (n % 2) 1 with
    |true=>rw [h1] at hg;exact all_get h.2.1 hg
    |false=>rw [h1] at hg;exact all_get h.2.2 hg
end bq
structure Gh where
 at_:Nat→Option Addr
 ro:Nat→Nat→Option ai
 dim:Nat→Option Nat
structure Gh.le (G G':Gh):Prop where
 at_: ∀n a,G.at_ n=some a→G'.at_ n=some a
 ro: ∀b o v,G.ro b o=some v→G'.ro b o=some v
 dim: ∀b d,G.dim b=some d→G'.dim b=some d
theorem Gh.le.refl (G:Gh):G.le G:=⟨fun _ _ h=>h,fun _ _ _ h=>h,fun _ _ h=>h⟩
theorem Gh.le.trans {G G' G'':Gh} (h:G.le G') (h':G'.le G''):G.le G'':=
 ⟨fun n a e=>h'.at_ n a (h.at_ n a e),fun b o v e=>h'.ro b o v (h.ro b o v e),fun b d e=>h'.dim b d (h.dim b d e)⟩
def wA (G:Gh) (sz:Nat) (a:Addr) (len cap:Nat):fC→Prop
 | .full=>cap=len
 | .own n=>G.at_ n=some ⟨a.block,a.off+len*sz,none⟩∧ ∃d,G.dim a.block=some d∧a.off+cap*sz≤d
 | .no=>True
theorem wA.mono {G G':Gh} (h:G.le G') {sz len cap:Nat} {a:Addr}: ∀ {r:fC},wA G sz a len cap r→wA G' sz a len cap r
 | .full,e=>e
 | .own _,⟨e,d,hd,hle⟩=>⟨h.at_ _ _ e,d,h.dim _ _ hd,hle⟩
 | .no,_=>trivial
def ai.scal:ai→Bool
 | .agg _=>false
 | .tup _=>false
 | .lref _ _ _=>false
 |_=>true
def dG (l:List ai):Bool:=l.all ai.scal
mutual
inductive VR (G:Gh):ai→Value→Prop
 |bool (b:Bool):VR G (.bool b) (.bool b)
 |int (k:IntKind) (n:Int):VR G (.int k n) (.int k n)
 |str (s:List UInt8):VR G (.str s) (.string ⟨⟨s⟩⟩)
 |agg {cs:List ai} {vs:List Value}:dG cs=true→cg G cs vs→VR G (.agg cs) (.agg ⟨vs⟩)
 |tup {cs:List ai} {vs:List Value}:cg G cs vs→VR G (.tup cs) (.tuple ⟨vs⟩)
 |nilp:VR G .nilp (.pointer none)
 |ptr {n off:Nat} {a:Addr}:G.at_ n=some a→VR G (.ptr n off) (.pointer (some ⟨a.block,a.off+off,none⟩))
 |ro {cs:List ai} {b o:Nat}:(∀i x,cs[i]? =some x→G.ro b (o+i)=some x)→VR G (.ro cs) (.pointer (some ⟨b,o,none⟩))
 |nils:VR G .nils (.slice none 0 0)
 |list {sz:Nat} {xs:List ai} {r:fC} {a:Addr} {cap:Nat}:(cap=0∨a.spot=none)→0<sz→(∀x∈xs,x.cells.length=sz)→xs.length≤cap→
  (∀i x,(bO xs)[i]? =some x→G.ro a.block (a.off+i)=some x)→wA G sz a xs.length cap r→
  VR G (.list sz xs r) (.slice (some a) xs.length cap)
 |arr {sz n off len lcap:Nat} {a b:Addr} {cap d:Nat}:G.at_ n=some b→a.spot=none→0<sz→len≤lcap→lcap≤cap→
  (cap=0∨(a.block=b.block∧a.off=b.off+off))→G.dim b.block=some d→b.off+off+cap*sz≤d→
  VR G (.arr sz n off len lcap) (.slice (some a) len cap)
 |nilm:VR G .nilm (.map none)
 |map {n:Nat} {a:Addr}:G.at_ n=some a→VR G (.map n) (.map (some a.block))
 |nilf:VR G .nilf .nilFunc
 |func {f:FuncId} {first captured:List ai} {fs cs:List Value}:cg G first fs→cg G captured cs→VR G (.func (.func f) first captured) (.func (.func f) ⟨fs⟩ ⟨cs⟩)
 |nili:VR G .nili .nilIface
 |iface {t:TypeId} {v:ai} {x:Value}:VR G v x→VR G (.iface t v) (.iface t x)
 |yld {n:Nat} {a:Addr}:G.at_ n=some a→VR G (.yld n) (.func (.yield a.block) #[] #[])
 |roz {cs:List ai} {b:Nat}:(∀i x,cs[i]? =some x→G.ro b i=some x)→VR G (.roz cs) (.pointer (some ⟨b,0,none⟩))
inductive cg (G:Gh):List ai→List Value→Prop
 |nil:cg G [] []
 |cons {v:ai} {x:Value} {vs:List ai} {xs:List Value}:VR G v x→cg G vs xs→cg G (v::vs) (x::xs)
end
mutual
theorem VR.mono {G G':Gh} (h:G.le G'): ∀ {v:ai} {x:Value},VR G v x→VR G' v x
 |_,_,.bool b=>.bool b
 |_,_,.int k n=>.int k n
 |_,_,.str s=>.str s
 |_,_,.agg hc hs=>.agg hc (cg.mono h hs)
 |_,_,.tup hs=>.tup (cg.mono h hs)
 |_,_,.nilp=>.nilp
 |_,_,.ptr e=>.ptr (h.at_ _ _ e)
 |_,_,.ro e=>.ro fun i x hx=>h.ro _ _ _ (e i x hx)
 |_,_,.nils=>.nils
 |_,_,.list a b c d e f=>.list a b c d (fun i x hx=>h.ro _ _ _ (e i x hx)) (f.mono h)
 |_,_,.arr a b c d e f g i=>.arr (h.at_ _ _ a) b c d e f (h.dim _ _ g) i
 |_,_,.nilm=>.nilm
 |_,_,.map e=>.map (h.at_ _ _ e)
 |_,_,.nilf=>.nilf
 |_,_,.func a b=>.func (cg.mono h a) (cg.mono h b)
 |_,_,.nili=>.nili
 |_,_,.iface e=>.iface (VR.mono h e)
 |_,_,.yld e=>.yld (h.at_ _ _ e)
 |_,_,.roz e=>.roz fun i x hx=>h.ro _ _ _ (e i x hx)
theorem cg.mono {G G':Gh} (h:G.le G'): ∀ {vs:List ai} {xs:List Value},cg G vs xs→cg G' vs xs
 |_,_,.nil=>.nil
 |_,_,.cons a b=>.cons (VR.mono h a) (cg.mono h b)
end
section
variable {G:Gh}
theorem cg.length {vs:List ai} {xs:List Value} (h:cg G vs xs):vs.length=xs.length:=by
 induction vs generalizing xs with
 |nil=>cases h;rfl
 |cons v vs ih=>cases h with|cons a b=>simp [ih b]
theorem cg.get {vs:List ai} {xs:List Value} (h:cg G vs xs) {i:Nat} {v:ai} (hi:vs[i]? =some v): ∃x,xs[i]? =some x∧VR G v x:=by
 induction vs generalizing xs i with
 |nil=>simp at hi
 |cons u vs ih=>
  cases h with
  |cons a b=>
   cases i with
   |zero=>simp at hi;subst hi;exact⟨_,by simp,a⟩
   |succ i=>simp at hi;obtain⟨x,hx,hv⟩:=ih b hi;exact⟨x,by simpa using hx,hv⟩
theorem cg.append {a b:List ai} {x y:List Value} (h:cg G a x) (h':cg G b y):cg G (a++b) (x++y):=by
 induction a generalizing x with
 |nil=>cases h;simpa using h'
 |cons v a ih=>cases h with|cons p q=>exact .cons p (ih q)
theorem cg.drop {a:List ai} {x:List Value} (h:cg G a x) (n:Nat):cg G (a.drop n) (x.drop n):=by
 induction n generalizing a x with
 |zero=>simpa using h
 |succ n ih=>cases h with
  |nil=>simpa using cg.nil
  |cons p q=>simpa using ih q
theorem cg.take {a:List ai} {x:List Value} (h:cg G a x) (n:Nat):cg G (a.take n) (x.take n):=by
 induction n generalizing a x with
 |zero=>simpa using cg.nil
 |succ n ih=>cases h with
  |nil=>simpa using cg.nil
  |cons p q=>simpa using .cons p (ih q)
theorem VR.cells {v:ai} {x:Value} (h:VR G v x):cg G v.cells x.cells.toList:=by
 cases h<;>first
  |(simpa [ai.cells,Value.cells] using ‹cg G _ _›)
  |(refine .cons ?_ .nil;constructor<;>assumption)
theorem VR.scals_cells {v:ai} {x:Value} (h:VR G v x) (ht: ∀l,v≠ .tup l):dG v.cells=true:=by
 cases h<;>first
  |(exact absurd rfl (ht _))
  |assumption
  |rfl
theorem VR.one {v:ai} {x:Value} (h:VR G v x) (hs:v.scal=true):x.oneCell'=true:=by
 cases h<;>first|rfl|(simp [ai.scal] at hs)
end
structure rp (G:Gh) (e:cV) (m:MapEntry):Prop where
 key:VR G e.key m.key
 val:VR G e.val m.val
 born:e.born=m.born
inductive gW (G:Gh):List cV→List MapEntry→Prop
 |nil:gW G [] []
 |cons {e:cV} {m:MapEntry} {es:List cV} {ms:List MapEntry}:rp G e m→gW G es ms→gW G (e::es) (m::ms)
theorem rp.mono {G G':Gh} (h:G.le G') {e:cV} {m:MapEntry} (x:rp G e m):rp G' e m:=⟨x.key.mono h,x.val.mono h,x.born⟩
theorem gW.mono {G G':Gh} (h:G.le G') {es:List cV} {ms:List MapEntry} (x:gW G es ms):gW G' es ms:=by
 induction x with
 |nil=>exact .nil
 |cons a _ ih=>exact .cons (a.mono h) ih
def Ir (G:Gh):Option Nat→Option Nat→Prop
 |none,none=>True
 |some n,some b=> ∃a,G.at_ n=some a∧a.block=b
 |_,_=>False
def Ex.code:Ex→Code
 | .normal=>.skip
 | .exit id=>.exit id
 | .ret=>.ret
structure wy (G:Gh) (r:Loop) (env:bq ai) (size:Nat) (ps:List Tmp) (a b:Code) (p:Option Ex):Prop where
 state:r.state=(match p with|none=>.ready|some _=>.done)
 pending:r.pending=p.map Ex.code
 size:r.tmps.size=size
 env: ∀t,VR G (aq env t) (r.tmps.getD t undef)
 params:r.params.toList=ps
 assign:r.assign=a
 body:r.body=b
 flatA:eV a=true
 flatB:eV b=true
theorem wy.mono {G G':Gh} (h:G.le G') {r:Loop} {env:bq ai} {size:Nat} {ps:List Tmp} {a b:Code} {p:Option Ex} (x:wy G r env size ps a b p):wy G' r env size ps a b p:=
 ⟨x.state,x.pending,x.size,fun t=>(x.env t).mono h,x.params,x.assign,x.body,x.flatA,x.flatB⟩
def nP (G:Gh) (w:World) (a:Addr):bE→Prop
 | .cells cs=> ∃C e,w.heap[a.block]? =some (.cells C e (0,0))∧G.dim a.block=some C.size∧ ∀(i:Nat) v,cs[i]? =some v→v.scal=true∧ ∃x,C[a.off+i]? =some x∧VR G v x
 | .tok=> ∃C e,w.heap[a.block]? =some (.cells C e (0,0))
 | .map es clock=> ∃ES:Array MapEntry,w.heap[a.block]? =some (.map ES clock)∧gW G es ES.toList
 | .iter m since seen stepped=>a.off=0∧ ∃m',w.heap[a.block]? =some (.mapIter m' since ⟨seen⟩ stepped)∧Ir G m m'
 | .loop _ env size ps ca cb p=> ∃r:Loop,w.heap[a.block]? =some (.loop r)∧wy G r env size ps ca cb p
theorem nP.mono {G G':Gh} (h:G.le G') {w:World} {a:Addr}: ∀ {o:bE},nP G w a o→nP G' w a o
 | .cells _,⟨C,e,hb,hd,hc⟩=>⟨C,e,hb,h.dim _ _ hd,fun i v hi=>let⟨hs,x,hx,hv⟩:=hc i v hi;⟨hs,x,hx,hv.mono h⟩⟩
 | .tok,x=>x
 | .map _ _,⟨ES,hb,hs⟩=>⟨ES,hb,hs.mono h⟩
 | .iter m _ _ _,⟨h0,m',hb,hm⟩=>⟨h0,m',hb,by
  cases m<;>cases m'<;>first|exact hm|(obtain⟨a,ha,hb⟩:=hm;exact⟨a,h.at_ _ _ ha,hb⟩)⟩
 | .loop ..,⟨r,hb,hr⟩=>⟨r,hb,hr.mono h⟩
theorem nP.of_block {G:Gh} {w w':World} {a:Addr} (h:w'.heap[a.block]? =w.heap[a.block]?): ∀ {o:bE},nP G w a o→nP G w' a o
 | .cells _,⟨C,e,hb,hd,hc⟩=>⟨C,e,h.trans hb,hd,hc⟩
 | .tok,⟨C,e,hb⟩=>⟨C,e,h.trans hb⟩
 | .map _ _,⟨ES,hb,hs⟩=>⟨ES,h.trans hb,hs⟩
 | .iter _ _ _ _,⟨h0,m',hb,hm⟩=>⟨h0,m',h.trans hb,hm⟩
 | .loop ..,⟨r,hb,hr⟩=>⟨r,h.trans hb,hr⟩
def ez (G:Gh) (h:bq bE) (b:Nat):Prop:= ∃n a,h.get n≠none∧G.at_ n=some a∧a.block=b
structure WR (G:Gh) (h:bq bE) (w:World):Prop where
 obj: ∀n o,h.get n=some o→ ∃a,G.at_ n=some a∧a.spot=none∧nP G w a o
 sep: ∀n m a b,h.get n≠none→h.get m≠none→G.at_ n=some a→G.at_ m=some b→a.block=b.block→n=m
 ro: ∀b o v,G.ro b o=some v→v.scal=true∧ ∃x,w.cell? ⟨b,o,none⟩=some x∧VR G v x
 apart: ∀n ob a i v,h.get n=some ob→G.at_ n=some a→G.ro a.block i=some v→ob= .tok∧i<a.off
 dim: ∀b d,G.dim b=some d→ ∃C e,w.heap[b]? =some (.cells C e (0,0))∧C.size=d
 below: ∀n a,G.at_ n=some a→a.block<w.heap.size
def m7 (w w':World):Prop:=w'.os=w.os∧w'.output=w.output∧w.heap.size≤w'.heap.size∧(∀a,a.block<w.heap.size→w'.frozen? a=w.frozen? a)∧w'.tape=w.tape∧w.drawn≤w'.drawn
theorem m7.refl (w:World):m7 w w:=⟨rfl,rfl,bv _,fun _ _=>rfl,rfl,bv _⟩
theorem m7.trans {w w' w'':World} (x:m7 w w') (y:m7 w' w''):m7 w w'':=⟨y.1.trans x.1,y.2.1.trans x.2.1,fX x.2.2.1 y.2.2.1,fun a h=>(y.2.2.2.1 a (gn h x.2.2.1)).trans (x.2.2.2.1 a h),y.2.2.2.2.1.trans x.2.2.2.2.1,fX x.2.2.2.2.2 y.2.2.2.2.2⟩
structure dh (G:Gh) (h:bq bE) (w:World) (G':Gh) (h':bq bE) (w':World) (lo hi:Nat):Prop where
 le:G.le G'
 size:w.heap.size≤w'.heap.size
 keep: ∀b,b<w.heap.size→ ¬ez G h b→w'.heap[b]? =w.heap[b]?
 owns: ∀b,b<w.heap.size→ez G' h' b→ez G h b
 names: ∀n a,G'.at_ n=some a→G.at_ n=none→lo≤n∧n<hi
 cells: ∀b o v,b<w.heap.size→G'.ro b o=some v→G.ro b o=none→ez G h b
 quiet:m7 w w'
theorem dh.refl {G:Gh} {h:bq bE} {w:World} {lo hi:Nat}:dh G h w G h w lo hi:=
 ⟨.refl G,bv _,fun _ _ _=>rfl,fun _ _ h=>h,fun n a h h'=>(by rw [h] at h';cases h'),fun b o v _ h h'=>(by rw [h] at h';cases h'),.refl w⟩
theorem dh.trans {G G' G'':Gh} {h h' h'':bq bE} {w w' w'':World} {lo mid hi:Nat} (x:dh G h w G' h' w' lo mid) (y:dh G' h' w' G'' h'' w'' mid hi)
 (l1:lo≤mid) (l2:mid≤hi):dh G h w G'' h'' w'' lo hi where
 le:=x.le.trans y.le
 size:=fX x.size y.size
 keep b hb ho:=(y.keep b (gn hb x.size) fun o=>ho (x.owns b hb o)).trans (x.keep b hb ho)
 owns b hb o:=x.owns b hb (y.owns b (gn hb x.size) o)
 names n a h h0:=by
  cases e:G'.at_ n with
  |none=>have:=y.names n a h e;omega
  |some b=>have:=x.names n b e h0;omega
 cells b o v hb h h0:=by
  cases e:G'.ro b o with
  |none=>exact x.owns b hb (y.cells b o v (gn hb x.size) h e)
  |some u=>exact x.cells b o u hb e h0
 quiet:=x.quiet.trans y.quiet
def dK (w:World) (b:Nat) (o:Obj):World:= {w with heap:=w.heap.setIfInBounds b o }
@[simp] theorem vM (w:World) (b:Nat) (o:Obj):(dK w b o).heap.size=w.heap.size:=by simp [dK]
theorem iO (w:World) (b c:Nat) (o:Obj) (hb:b<w.heap.size):(dK w b o).heap[c]? =if c=b then some o else w.heap[c]? :=by
 simp only [dK,wh]
 by_cases h:b=c
 ·subst h;simp [hb]
 ·simp [h,Ne.symm h]
theorem ajN (w:World) (b:Nat) (o o':Obj):dK (dK w b o) b o'=dK w b o':=by
 simp [dK]
theorem ajO (w:World) (b:Nat) (o:Obj) (h:w.heap[b]? =some o):dK w b o=w:=by
 have hb:b<w.heap.size:=by
  rcases Nat.lt_or_ge b w.heap.size with h'|h'
  ·exact h'
  ·simp [ue h'] at h
 have e:w.heap.setIfInBounds b o=w.heap:=by
  apply Array.ext_getElem?
  intro i
  rw [wh]
  by_cases hi:b=i
  ·subst hi;rw [if_pos rfl,if_pos hb,h]
  ·simp [hi]
 unfold dK
 rw [e]
theorem gH {w:World} {b:Nat} {o:Obj} (h:w.heap[b]? =some o):b<w.heap.size:=by
 rcases Nat.lt_or_ge b w.heap.size with h'|h'
 ·exact h'
 ·simp [ue h'] at h
theorem nb {w:World} {b i:Nat} {C:Array Value} {e:TypeId} {fz:Nat×Nat} (h:w.heap[b]? =some (.cells C e fz)):w.cell? ⟨b,i,none⟩=C[i]? :=by
 simp [World.cell?,h]
theorem akE {w:World} {b i:Nat} {C:Array Value} {e:TypeId} {fz:Nat×Nat} {v:Value} (h:w.heap[b]? =some (.cells C e fz)):
 w.setCell ⟨b,i,none⟩ v=dK w b (.cells (C.setIfInBounds i v) e fz):=by
 unfold World.setCell dK
 congr 1
 apply Array.ext_getElem?
 intro j
 rw [Array.getElem?_modify,wh]
 by_cases hj:b=j
 ·subst hj
  rw [if_pos rfl,if_pos rfl,if_pos (gH h),h]
  simp
 ·simp [hj]
def iV (C:Array Value) (off:Nat):List Value→Array Value
 | []=>C
 |v::l=>iV (C.setIfInBounds off v) (off+1) l
@[simp] theorem amo (C:Array Value) (off:Nat) (l:List Value):(iV C off l).size=C.size:=by
  induction l generalizing C off with
  |nil=>rfl
  |cons v l ih=>simp [iV,ih]
theorem AV (C:Array Value) (off:Nat) (l:List Value) (i:Nat) (h:off+l.length≤C.size):
 (iV C off l)[i]? =if off≤i∧i<off+l.length then l[i-off]? else C[i]? :=by
 induction l generalizing C off with
 |nil=>simp [iV];intro h1 h2;omega
 |cons v l ih=>
  simp only [aK] at h
  rw [iV,ih _ _ (by simp;omega),wh]
  by_cases h1:off=i
  ·subst h1
   rw [if_neg (by omega),if_pos rfl,if_pos (by omega),if_pos (by simp)]
   simp
  ·by_cases h2:off+1≤i∧i<off+1+l.length
   ·rw [if_pos h2,if_pos (by simp;omega)]
    have:i-off=(i-(off+1))+1:=by omega
    rw [this];simp
   ·rw [if_neg h2,if_neg h1,if_neg (by simp;omega)]
theorem akt {P:Program} {w:World} {b i:Nat} {C:Array Value} {e:TypeId} {v:Value} (h:w.heap[b]? =some (.cells C e (0,0))) (hi:i<C.size)
 (hv:v.oneCell'=true):(store ⟨b,i,none⟩ v).run P w= .ok () (dK w b (.cells (C.setIfInBounds i v) e (0,0))):=by
 rw [run_store _ _ _ _ _ hv,nb h]
 simp only [Array.getElem?_eq_getElem hi]
 have hf:w.frozen? ⟨b,i,none⟩=false:=by simp [World.frozen?,h]
 rw [hf,akE h]
 rfl
theorem lH (b o i:Nat):(⟨b,o,none⟩:Addr).add i=⟨b,o+i,none⟩:=by
 unfold Addr.add
 split
 ·rename_i h;simp [h]
 ·rfl
theorem Az {P:Program} (b o:Nat) (e:TypeId): ∀(vs:List Value) (i:Nat) (w:World) (C:Array Value),w.heap[b]? =some (.cells C e (0,0))→o+i+vs.length≤C.size→
 (∀v∈vs,v.oneCell'=true)→(storeCells ⟨b,o,none⟩ vs i).run P w= .ok () (dK w b (.cells (iV C (o+i) vs) e (0,0))):=by
 intro vs
 induction vs with
 |nil=>intro i w C h _ _;simp [storeCells,iV,ajO _ _ _ h]
 |cons v vs ih=>
  intro i w C h hl hv
  simp only [aK] at hl
  rw [storeCells,Sem.run_bind,lH,akt h (by omega) (hv v (by simp)),Result.andThen_ok,
   ih (i+1) _ _ (by rw [iO _ _ _ _ (gH h),if_pos rfl]) (by simp;omega) (fun u hu=>hv u (by simp [hu])),ajN,iV]
  rfl
section
variable {G:Gh} {h:bq bE} {w:World}
theorem WR.of_heap {w':World} (x:WR G h w) (e:w'.heap=w.heap):WR G h w' where
 obj n o ho:=by
  obtain⟨a,ha,hs,hr⟩:=x.obj n o ho
  exact⟨a,ha,hs,hr.of_block (by rw [e])⟩
 sep:=x.sep
 ro b o v hv:=by
  obtain⟨hs,y,hy,hr⟩:=x.ro b o v hv
  exact⟨hs,y,by rw [←hy];simp [World.cell?,e],hr⟩
 apart:=x.apart
 dim b d hd:=by rw [e];exact x.dim b d hd
 below n a ha:=by rw [e];exact x.below n a ha
theorem XE {w w':World} (e:w'.heap=w.heap) (a:Addr):w'.frozen? a=w.frozen? a:=by simp [World.frozen?,e]
theorem dh.of_heap {w':World} {lo hi:Nat} (e:w'.heap=w.heap) (q:w'.os=w.os∧w'.output=w.output∧w'.tape=w.tape∧w.drawn≤w'.drawn):dh G h w G h w' lo hi:=
 ⟨.refl G,by rw [e];exact bv _,fun _ _ _=>by rw [e],fun _ _ h=>h,fun n a h h'=>(by rw [h] at h';cases h'),fun b o v _ h h'=>(by rw [h] at h';cases h'),⟨q.1,q.2.1,by rw [e];exact bv _,fun a _=>XE e a,q.2.2.1,q.2.2.2⟩⟩
theorem WR.ro_lt (x:WR G h w) {b o:Nat} {v:ai} (hv:G.ro b o=some v):b<w.heap.size:=by
 obtain⟨_,y,hy,_⟩:=x.ro b o v hv
 exact World.block_lt_of_cell? w ⟨b,o,none⟩ hy
theorem WR.owned_lt (x:WR G h w) {b:Nat} (ho:ez G h b):b<w.heap.size:=by
 obtain⟨n,a,_,ha,rfl⟩:=ho;exact x.below n a ha
def Gh.more (G:Gh) (b:Nat) (R:Nat→Option ai) (D:Option Nat):Gh where
 at_:=G.at_
 ro c o:=if c=b then R o else G.ro c o
 dim c:=if c=b then D else G.dim c
def Gh.name (G:Gh) (n:Nat) (a:Addr):Gh where
 at_ m:=if m=n then some a else G.at_ m
 ro:=G.ro
 dim:=G.dim
theorem mf (w:World) (o:Obj) (c:Nat):(w.alloc o).heap[c]? =if c=w.heap.size then some o else w.heap[c]? :=by
 unfold World.alloc
 rw [Array.getElem?_push]
theorem WR.more_le (x:WR G h w) (R:Nat→Option ai) (D:Option Nat):G.le (G.more w.heap.size R D) where
 at_ _ _ e:=e
 ro b o v e:=by
  have:=x.ro_lt e
  simp only [Gh.more];rw [if_neg (by omega)];exact e
 dim b d e:=by
  obtain⟨C,t,hb,_⟩:=x.dim b d e
  have:=gH hb
  simp only [Gh.more];rw [if_neg (by omega)];exact e
theorem Gh.name_le (G:Gh) {n:Nat} (a:Addr) (hn:G.at_ n=none):G.le (G.name n a) where
 at_ m b e:=by
  simp only [Gh.name]
  rw [if_neg (by intro h;subst h;rw [hn] at e;cases e)];exact e
 ro _ _ _ e:=e
 dim _ _ e:=e
def Obj.warm:Obj→Prop
 | .cells _ _ z=>z=(0,0)
 |_=>True
theorem Cz {w:World} {b:Nat} {ob:Obj} (h:w.heap[b]? =some ob) (hw:Obj.warm ob) (a:Addr) (ha:a.block=b):w.frozen? a=false:=by
 subst ha
 unfold World.frozen?
 rw [h]
 cases ob<;>first
  |rfl
  |(simp only [Obj.warm] at hw;subst hw;simp)
theorem ajQ (w:World) {ob:Obj} (hw:Obj.warm ob):m7 w (w.alloc ob):=by
 refine⟨rfl,rfl,by simp,fun a _=>?_,rfl,bv _⟩
 by_cases e:a.block=w.heap.size
 ·rw [Cz (w:=w.alloc ob) (b:=w.heap.size) (by rw [mf,if_pos rfl]) hw a e]
  unfold World.frozen?
  rw [e,ue (bv _)]
 ·unfold World.frozen?
  rw [mf,if_neg e]
theorem xL (w:World) {b:Nat} {o ob:Obj} (h:w.heap[b]? =some o) (ho:Obj.warm o) (hw:Obj.warm ob):m7 w (dK w b ob):=by
 refine⟨rfl,rfl,by simp,fun a _=>?_,rfl,bv _⟩
 by_cases e:a.block=b
 ·rw [Cz h ho a e,Cz (w:=dK w b ob) (b:=b) (by rw [iO w b b ob (gH h),if_pos rfl]) hw a e]
 ·unfold World.frozen?
  rw [iO w b _ ob (gH h),if_neg e]
theorem nP.warm {a:Addr} {o:bE} (h:nP G w a o): ∃ob,w.heap[a.block]? =some ob∧Obj.warm ob:=by
 cases o with
 |cells cs=>obtain⟨C,e,h,_⟩:=h;exact⟨_,h,rfl⟩
 |tok=>obtain⟨C,e,h⟩:=h;exact⟨_,h,rfl⟩
 |map es c=>obtain⟨ES,h,_⟩:=h;exact⟨_,h,trivial⟩
 |iter m a b c=>obtain⟨_,m',h,_⟩:=h;exact⟨_,h,trivial⟩
 |loop _ _ _ _ _ _ _=>obtain⟨r,h,_⟩:=h;exact⟨_,h,trivial⟩
theorem WR.alloc (x:WR G h w) (ob:Obj) (R:Nat→Option ai) (D:Option Nat)
 (hR: ∀o v,R o=some v→v.scal=true∧ ∃C e,ob= .cells C e (0,0)∧ ∃y,C[o]? =some y∧VR (G.more w.heap.size R D) v y)
 (hD: ∀d,D=some d→ ∃C e,ob= .cells C e (0,0)∧C.size=d) (hwm:Obj.warm ob:=by trivial):
 WR (G.more w.heap.size R D) h (w.alloc ob)∧ ∀lo hi,dh G h w (G.more w.heap.size R D) h (w.alloc ob) lo hi:=by
 have hle:=x.more_le R D
 refine⟨⟨?_,x.sep,?_,?_,?_,?_⟩,fun lo hi=>⟨hle,by simp,?_,?_,?_,?_,ajQ w hwm⟩⟩
 ·intro n o ho
  obtain⟨a,ha,hs,hr⟩:=x.obj n o ho
  refine⟨a,ha,hs,(hr.mono hle).of_block ?_⟩
  rw [mf,if_neg (Nat.ne_of_lt (x.below n a ha))]
 ·intro b o v hv
  simp only [Gh.more] at hv
  by_cases hb:b=w.heap.size
  ·rw [if_pos hb] at hv
   obtain⟨hs,C,e,rfl,y,hy,hr⟩:=hR o v hv
   refine⟨hs,y,?_,hr⟩
   subst hb
   rw [nb (by rw [mf,if_pos rfl]),hy]
  ·rw [if_neg hb] at hv
   obtain⟨hs,y,hy,hr⟩:=x.ro b o v hv
   refine⟨hs,y,?_,hr.mono hle⟩
   rw [←hy];exact World.cell?_alloc_old w ob ⟨b,o,none⟩ hb
 ·intro n ob' a i v hn ha hv
  simp only [Gh.more] at hv
  rw [if_neg (Nat.ne_of_lt (x.below n a ha))] at hv
  exact x.apart n ob' a i v hn ha hv
 ·intro b d hd
  simp only [Gh.more] at hd
  rw [mf]
  by_cases hb:b=w.heap.size
  ·rw [if_pos hb] at hd ⊢
   obtain⟨C,e,rfl,hs⟩:=hD d hd
   exact⟨C,e,rfl,hs⟩
  ·rw [if_neg hb] at hd ⊢
   exact x.dim b d hd
 ·intro n a ha
  have:=x.below n a ha
  simp;omega
 ·intro b hb _;rw [mf,if_neg (Nat.ne_of_lt hb)]
 ·intro b _ ho;exact ho
 ·intro n a e e';simp only [Gh.more] at e;rw [e] at e';cases e'
 ·intro b o v hb e e'
  simp only [Gh.more] at e
  rw [if_neg (Nat.ne_of_lt hb)] at e
  rw [e] at e';cases e'
theorem WR.named (x:WR G h w) {n:Nat} {a:Addr} {o:bE} (hn:G.at_ n=none) (hb:a.block<w.heap.size) (hs:a.spot=none) (ho: ¬ez G h a.block)
 (hr:nP G w a o) (hc: ∀i v,G.ro a.block i=some v→o= .tok∧i<a.off):WR (G.name n a) (h.set n (some o)) w:=by
 have hle:=G.name_le a hn
 refine⟨?_,?_,?_,?_,x.dim,?_⟩
 ·intro m o' hm
  rw [bq.get_set] at hm
  by_cases e:m=n
  ·rw [if_pos e] at hm
   injection hm with hm;subst hm;subst e
   exact⟨a,by simp [Gh.name],hs,hr.mono hle⟩
  ·rw [if_neg e] at hm
   obtain⟨b,hb,hs,hr⟩:=x.obj m o' hm
   exact⟨b,by simp [Gh.name,e,hb],hs,hr.mono hle⟩
 ·intro m k c d hm hk hc hd he
  rw [bq.get_set] at hm hk
  simp only [Gh.name] at hc hd
  by_cases e1:m=n<;>by_cases e2:k=n
  ·rw [e1,e2]
  ·rw [if_pos e1] at hc
   rw [if_neg e2] at hd hk
   injection hc with hc;subst hc
   exact absurd ⟨k,d,hk,hd,he.symm⟩ ho
  ·rw [if_neg e1] at hc hm
   rw [if_pos e2] at hd
   injection hd with hd;subst hd
   exact absurd ⟨m,c,hm,hc,he⟩ ho
  ·rw [if_neg e1] at hc hm
   rw [if_neg e2] at hd hk
   exact x.sep m k c d hm hk hc hd he
 ·intro b o' v hv
  obtain⟨hs,y,hy,hr⟩:=x.ro b o' v hv
  exact⟨hs,y,hy,hr.mono hle⟩
 ·intro m ob b i v hm hb hv
  rw [bq.get_set] at hm
  simp only [Gh.name] at hb
  by_cases e:m=n
  ·rw [if_pos e] at hm hb
   injection hm with hm;injection hb with hb;subst hm;subst hb
   exact hc i v hv
  ·rw [if_neg e] at hm hb
   exact x.apart m ob b i v hm hb hv
 ·intro m b hb'
  simp only [Gh.name] at hb'
  by_cases e:m=n
  ·rw [if_pos e] at hb';injection hb' with hb';subst hb';exact hb
  ·rw [if_neg e] at hb';exact x.below m b hb'
theorem vF {n b:Nat} {a:Addr} {o:bE} (h':ez (G.name n a) (h.set n (some o)) b):b=a.block∨ez G h b:=by
 obtain⟨m,c,hm,hc,rfl⟩:=h'
 rw [bq.get_set] at hm
 simp only [Gh.name] at hc
 by_cases e:m=n
 ·rw [if_pos e] at hc;injection hc with hc;subst hc;exact .inl rfl
 ·rw [if_neg e] at hc hm;exact .inr ⟨m,c,hm,hc,rfl⟩
theorem WR.killed (x:WR G h w) (n:Nat):WR G (h.set n none) w:=by
 refine⟨?_,?_,x.ro,?_,x.dim,x.below⟩
 ·intro m o hm
  rw [bq.get_set] at hm
  by_cases e:m=n
  ·rw [if_pos e] at hm;cases hm
  ·rw [if_neg e] at hm;exact x.obj m o hm
 ·intro m k c d hm hk
  rw [bq.get_set] at hm hk
  by_cases e1:m=n
  ·rw [if_pos e1] at hm;exact absurd rfl hm
  ·by_cases e2:k=n
   ·rw [if_pos e2] at hk;exact absurd rfl hk
   ·rw [if_neg e1] at hm;rw [if_neg e2] at hk;exact x.sep m k c d hm hk
 ·intro m ob a i v hm
  rw [bq.get_set] at hm
  by_cases e:m=n
  ·rw [if_pos e] at hm;cases hm
  ·rw [if_neg e] at hm;exact x.apart m ob a i v hm
theorem sk {n b:Nat} (h':ez G (h.set n none) b):ez G h b:=by
 obtain⟨m,c,hm,hc,hb⟩:=h'
 rw [bq.get_set] at hm
 by_cases e:m=n
 ·rw [if_pos e] at hm;exact absurd rfl hm
 ·rw [if_neg e] at hm;exact⟨m,c,hm,hc,hb⟩
theorem zY (x:WR G h w) {n:Nat} {a:Addr} (hl:h.get n≠none) (ha:G.at_ n=some a): ¬ez G (h.set n none) a.block:=by
 rintro⟨m,c,hm,hc,hb⟩
 rw [bq.get_set] at hm
 by_cases e:m=n
 ·rw [if_pos e] at hm;exact absurd rfl hm
 ·rw [if_neg e] at hm;exact e (x.sep m n c a hm hl hc ha hb)
theorem dh.killed {n lo hi:Nat}:dh G h w G (h.set n none) w lo hi:=
 ⟨.refl G,bv _,fun _ _ _=>rfl,fun _ _ o=>sk o,fun n a h h'=>(by rw [h] at h';cases h'),fun b o v _ h h'=>(by rw [h] at h';cases h'),.refl w⟩
theorem WR.changed (x:WR G h w) {n:Nat} {a:Addr} {o o':bE} {ob:Obj} (hl:h.get n=some o) (ha:G.at_ n=some a)
 (hr:nP G (dK w a.block ob) a o')
 (hro: ∀i v,G.ro a.block i=some v→o'= .tok∧ ∃y,(dK w a.block ob).cell? ⟨a.block,i,none⟩=some y∧w.cell? ⟨a.block,i,none⟩=some y)
 (hd: ∀d,G.dim a.block=some d→ ∃C e,ob= .cells C e (0,0)∧C.size=d) (hwm:Obj.warm ob:=by trivial):
 WR G (h.set n (some o')) (dK w a.block ob)∧ ∀lo hi,dh G h w G (h.set n (some o')) (dK w a.block ob) lo hi:=by
 have hlt:=x.below n a ha
 have hblk: ∀c,(dK w a.block ob).heap[c]? =if c=a.block then some ob else w.heap[c]? :=fun c=>iO w a.block c ob hlt
 have hown: ∀b,ez G (h.set n (some o')) b→ez G h b:=by
  rintro b ⟨m,c,hm,hc,hb⟩
  rw [bq.get_set] at hm
  by_cases e:m=n
  ·subst e;exact⟨m,c,by rw [hl];simp,hc,hb⟩
  ·rw [if_neg e] at hm;exact⟨m,c,hm,hc,hb⟩
 have hget: ∀m,(h.set n (some o')).get m≠none→h.get m≠none:=by
  intro m hm
  rw [bq.get_set] at hm
  by_cases e:m=n
  ·rw [e,hl];simp
  ·rw [if_neg e] at hm;exact hm
 refine⟨⟨?_,fun m k c d hm hk=>x.sep m k c d (hget m hm) (hget k hk),?_,?_,?_,?_⟩,fun lo hi=>⟨.refl G,by simp,?_,fun b _ ho=>hown b ho,fun n a h h'=>(by rw [h] at h';cases h'),fun b o v _ h h'=>(by rw [h] at h';cases h'),by
  obtain⟨c,hc,_,hrc⟩:=x.obj n o hl
  rw [ha] at hc;injection hc with hc;subst hc
  obtain⟨ob0,h1,h2⟩:=hrc.warm
  exact xL w h1 h2 hwm⟩⟩
 ·intro m ob' hm
  rw [bq.get_set] at hm
  by_cases e:m=n
  ·rw [if_pos e] at hm;injection hm with hm;subst hm;subst e
   obtain⟨b,hb,hs,_⟩:=x.obj m o hl
   rw [ha] at hb;injection hb with hb;subst hb
   exact⟨a,ha,hs,hr⟩
  ·rw [if_neg e] at hm
   obtain⟨b,hb,hs,hr'⟩:=x.obj m ob' hm
   refine⟨b,hb,hs,hr'.of_block ?_⟩
   rw [hblk,if_neg]
   intro he
   exact e (x.sep m n b a (by rw [hm];simp) (by rw [hl];simp) hb ha he)
 ·intro b i v hv
  by_cases hb:b=a.block
  ·subst hb
   obtain⟨_,y,hy,hy'⟩:=hro i v hv
   obtain⟨hs,z,hz,hr'⟩:=x.ro a.block i v hv
   rw [hy'] at hz;injection hz with hz;subst hz
   exact⟨hs,y,hy,hr'⟩
  ·obtain⟨hs,z,hz,hr'⟩:=x.ro b i v hv
   refine⟨hs,z,?_,hr'⟩
   rw [←hz];simp [World.cell?,hblk,hb]
 ·intro m ob' b i v hm hb hv
  rw [bq.get_set] at hm
  by_cases e:m=n
  ·rw [if_pos e] at hm;injection hm with hm;subst hm;subst e
   rw [ha] at hb;injection hb with hb;subst hb
   have h1:=(hro i v hv).1
   have h2:=x.apart m o a i v hl ha hv
   exact⟨h1,h2.2⟩
  ·rw [if_neg e] at hm
   exact x.apart m ob' b i v hm hb hv
 ·intro b d hd'
  rw [hblk]
  by_cases hb:b=a.block
  ·subst hb
   rw [if_pos rfl]
   obtain⟨C,e,rfl,hs⟩:=hd d hd'
   exact⟨C,e,rfl,hs⟩
  ·rw [if_neg hb];exact x.dim b d hd'
 ·intro m b hb;simp;exact x.below m b hb
 ·intro b hb ho
  rw [hblk,if_neg]
  intro he
  exact ho ⟨n,a,by rw [hl];simp,ha,he.symm⟩
end
end Go.Ag
